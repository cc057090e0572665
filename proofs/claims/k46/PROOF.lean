import PyProof.Rows.All
import Wide.All
import OpenK.AllK
import Wide.FinOn
import HandS.ForMost
import HandS.Flow
import HandS.Wide
import HandS.DictComp
import HandS.Deep
import HandS.TupAny
import HandS.IsInst
import HandS.ListItems
import HandS.TryOnly
import HandS.ExcOwn
import HandS.ExcInit
import HandS.ExcField
import HandS.ExcIs
import HandS.SetBool
import HandS.Zip
import HandS.TupLe
import HandS.WordsExc
import KE.KAssignIn
import KE.RegKTryMore
import KE.KEqNest
import KE.KDictPairs
import KE.SortData
import HandS.RaiseMore
import HandS.Small
import HandS.Conv
import HandS.Style
import PySem.Challenge.RW_twoscales_k46_whole_lots_by_other_names
set_option Elab.async false
set_option linter.all false
set_option maxRecDepth 100000
/-! PvL: Python by values. Data, states, and what the constructs of a def do to them, as plain functions. -/
namespace PV
open PySem
abbrev Key := Sum Int Str
/-- data: what a frozen value is worth -/
inductive D where
  | non | bl (b : Bool) | int (i : Int) | str (x : Str)
  | lst (xs : List D) | tup (xs : List D)
  | dK (kvs : List (Key × D)) | dT (kvs : List (List Key × D))
  | ins (C : Str) (fs : List (Str × D))
  | scr (ns : List Int)
  | ctp (xs : List Str)
/-- a field of an object that is being made: frozen data, or an own thing that stands in a slot -/
inductive Fd where
  | d (d : D) | j (i : Nat)
/-- a slot: nothing; a frozen value; an own list or dict of the def; one that the caller lent to be changed -/
inductive SV where
  | un | fz (d : D) | ow (d : D) | io (d : D)
  | ob (C : Str) (fl : List (Str × Fd))
  | lk (d : D)
/-- a value that is handed on: frozen, or new and nobody else's -/
inductive AV where
  | fz (d : D) | ow (d : D)
abbrev S := List SV
abbrev M (α : Type) := S → Option (α × S)
/-- how a statement ends -/
inductive Out where
  | nx | bk | ct | rt (a : AV)
abbrev MS := M Out
def SV.own : SV → Bool
  | .ow _ => true
  | .io _ => true
  | _ => false
/-- what must stay where it is -/
def SV.pin : SV → Bool
  | .io _ => true
  | .ob _ _ => true
  | .lk _ => true
  | _ => false
def SV.get : SV → Option D
  | .fz d => some d
  | .ow d => some d
  | .io d => some d
  | .un => none
  | .ob _ _ => none
  | .lk d => some d
def AV.d : AV → D
  | .fz d => d
  | .ow d => d
def AV.sv : AV → SV
  | .fz d => .fz d
  | .ow d => .ow d
def SZ : Nat := 16777216
/-! ### keys, dicts -/
def kD : Key → D
  | .inl i => .int i
  | .inr x => .str x
def keyOf : D → Option Key
  | .int i => some (.inl i)
  | .str x => some (.inr x)
  | _ => none
def keysOf : List D → Option (List Key)
  | [] => some []
  | d :: ds => match keyOf d, keysOf ds with
    | some k, some ks => some (k :: ks)
    | _, _ => none
section
variable {κ : Type} [DecidableEq κ] {α : Type}
def gv (kvs : List (κ × α)) (k : κ) : Option α := (kvs.find? fun kv => decide (kv.1 = k)).map (·.2)
def gp (kvs : List (κ × α)) (k : κ) (v : α) : List (κ × α) :=
  if (kvs.any fun kv => decide (kv.1 = k)) = true then kvs.map (fun kv => if kv.1 = k then (kv.1, v) else kv) else kvs ++ [(k, v)]
end
/-! ### values -/
abbrev XM := M AV
def xC (d : D) : XM := fun s => some (.fz d, s)
/-- a value that is there at once -/
def xC0 (a : AV) : XM := fun s => some (a, s)
/-- a name's value; an own thing is frozen by it -/
def xV (i : Nat) : XM := fun s => match s[i]? with
  | some (.fz d) => some (.fz d, s)
  | some (.ow d) => some (.fz d, s.set i (.fz d))
  | _ => none
/-- an own name handed on as it is (the slot is empty behind it) -/
def xMove (i : Nat) : XM := fun s => match s[i]? with
  | some (.fz d) => some (.fz d, s)
  | some (.ow d) => some (.ow d, s.set i .un)
  | _ => none
/-- a value is frozen -/
def xF (m : XM) : M D := fun s => match m s with
  | some (a, s') => some (a.d, s')
  | none => none
/-- an operand: a name that is looked at, or a value (frozen) -/
inductive Rc where
  | v (i : Nat) | e (m : XM)
  | f (i : Nat) (C n : Str) (j : Nat)
/-- a slot that holds an object being made: does its field n stand in the slot j -/
def fdJ (fl : List (Str × Fd)) (n : Str) : Option Nat := match gv fl n with
  | some (.j i) => some i
  | _ => none
def fdD (fl : List (Str × Fd)) (n : Str) : Option D := match gv fl n with
  | some (.d d) => some d
  | _ => none
def SV.has (C n : Str) (j : Nat) : SV → Bool
  | .ob B fl => decide (B = C) && decide (fdJ fl n = some j)
  | _ => false
def Rc.pre : Rc → M (Option D)
  | .v i, s => match s[i]? with
    | some a => match a.get with
      | some _ => some (none, s)
      | none => none
    | none => none
  | .e m, s => match m s with
    | some (a, s') => some (some a.d, s')
    | none => none
  | .f i C n j, s => match s[i]? with
    | some b => if b.has C n j = true then match s[j]? with
      | some a => match a.get with
        | some _ => some (none, s)
        | none => none
      | none => none
      else none
    | none => none
def Rc.fin : Rc → Option D → S → Option D
  | .v i, _, s => match s[i]? with
    | some a => a.get
    | none => none
  | .e _, d, _ => d
  | .f _ _ _ j, _, s => match s[j]? with
    | some a => a.get
    | none => none
def ev1 (r : Rc) : M D := fun s => match r.pre s with
  | some (a, s1) => match r.fin a s1 with
    | some d => some (d, s1)
    | none => none
  | none => none
def ev2 (r q : Rc) : M (D × D) := fun s => match r.pre s with
  | some (a, s1) => match q.pre s1 with
    | some (b, s2) => match r.fin a s2, q.fin b s2 with
      | some d, some e => some ((d, e), s2)
      | _, _ => none
    | none => none
  | none => none
def ev3 (r q t : Rc) : M (D × D × D) := fun s => match r.pre s with
  | some (a, s1) => match q.pre s1 with
    | some (b, s2) => match t.pre s2 with
      | some (c, s3) => match r.fin a s3, q.fin b s3, t.fin c s3 with
        | some d, some e, some f => some ((d, e, f), s3)
        | _, _, _ => none
      | none => none
    | none => none
  | none => none
/-- several operands, from the left; the names are looked at behind the values -/
def preL : List Rc → M (List (Option D))
  | [], s => some ([], s)
  | r :: rs, s => match r.pre s with
    | some (a, s1) => match preL rs s1 with
      | some (as, s2) => some (a :: as, s2)
      | none => none
    | none => none
def finL : List Rc → List (Option D) → S → Option (List D)
  | [], _, _ => some []
  | r :: rs, as, s => match r.fin (as.head?.getD none) s, finL rs as.tail s with
    | some d, some ds => some (d :: ds)
    | _, _ => none
def evL (rs : List Rc) : M (List D) := fun s => match preL rs s with
  | some (as, s1) => match finL rs as s1 with
    | some ds => some (ds, s1)
    | none => none
  | none => none
def x1 (f : D → Option AV) (r : Rc) : XM := fun s => match ev1 r s with
  | some (d, s') => (f d).map fun x => (x, s')
  | none => none
def x2 (f : D → D → Option AV) (r q : Rc) : XM := fun s => match ev2 r q s with
  | some (d, s') => (f d.1 d.2).map fun x => (x, s')
  | none => none
def x3 (f : D → D → D → Option AV) (r q t : Rc) : XM := fun s => match ev3 r q t s with
  | some (d, s') => (f d.1 d.2.1 d.2.2).map fun x => (x, s')
  | none => none
def xL (f : List D → Option AV) (rs : List Rc) : XM := fun s => match evL rs s with
  | some (ds, s') => (f ds).map fun x => (x, s')
  | none => none
/-! ### what operators do with data -/
def fb (b : Bool) : AV := .fz (.bl b)
def fi (i : Int) : AV := .fz (.int i)
def lg (i : Int) : Nat := i.natAbs.log2
def dAdd : D → D → Option AV
  | .int i, .int j => some (fi (i + j))
  | .lst a, .lst b => if a.length + b.length ≤ SZ then some (.ow (.lst (a ++ b))) else none
  | .tup a, .tup b => if a.length + b.length ≤ SZ then some (.fz (.tup (a ++ b))) else none
  | _, _ => none
def dSub : D → D → Option AV
  | .int i, .int j => some (fi (i - j))
  | _, _ => none
def dMul : D → D → Option AV
  | .int i, .int j => if lg i + lg j < 1000000 ∨ (-(2 ^ 64) < i ∧ i < 2 ^ 64) ∨ (-(2 ^ 64) < j ∧ j < 2 ^ 64) then some (fi (i * j)) else none
  | .lst ds, .int k => if 0 ≤ k ∧ k < 2 ^ 31 ∧ ds.length * k.toNat ≤ SZ then some (.ow (.lst (List.replicate k.toNat ds).flatten)) else none
  | _, _ => none
def dMod : D → D → Option AV
  | .int i, .int j => if 0 < j then some (fi (i % j)) else none
  | _, _ => none
def dDiv : D → D → Option AV
  | .int i, .int j => if 0 < j ∧ lg j < 9000 then some (fi (i / j)) else none
  | _, _ => none
def dPow : D → D → Option AV
  | .int i, .int j => if 0 ≤ j ∧ j ≤ 1000000 ∧ i.natAbs < 2 ^ 64 then some (fi (i ^ j.toNat)) else none
  | _, _ => none
def dNeg : D → Option AV
  | .int i => some (fi (-i))
  | _ => none
def dLt : D → D → Option AV
  | .int i, .int j => some (fb (decide (i < j)))
  | _, _ => none
def dLe : D → D → Option AV
  | .int i, .int j => some (fb (decide (i ≤ j)))
  | _, _ => none
def dGt : D → D → Option AV
  | .int i, .int j => some (fb (decide (j < i)))
  | _, _ => none
def dGe : D → D → Option AV
  | .int i, .int j => some (fb (decide (j ≤ i)))
  | _, _ => none
def dIsN : D → Option AV
  | .non => some (fb true)
  | _ => some (fb false)
mutual
/-- == of data without dicts -/
def eqv : D → D → Bool
  | .non, .non => true
  | .bl a, .bl b => a == b
  | .bl a, .int j => (if a then 1 else 0) == j
  | .int i, .bl b => i == (if b then 1 else 0)
  | .int i, .int j => i == j
  | .str x, .str y => x == y
  | .lst xs, .lst ys => eqvL xs ys
  | .tup xs, .tup ys => eqvL xs ys
  | _, _ => false
def eqvL : List D → List D → Bool
  | [], [] => true
  | x :: xs, y :: ys => eqv x y && eqvL xs ys
  | _, _ => false
end
/-- a text that Python can have -/
def sok (x : Str) : Bool := x.cps.all (· < 0x110000)
mutual
/-- no dict, no object within; how deep at most -/
def pln : Nat → D → Bool
  | _, .non => true
  | _, .bl _ => true
  | _, .int _ => true
  | _, .str x => sok x
  | n + 1, .lst xs => plnL n xs
  | n + 1, .tup xs => plnL n xs
  | _, _ => false
def plnL : Nat → List D → Bool
  | _, [] => true
  | n, x :: xs => pln n x && plnL n xs
end
def flat : D → Bool
  | .non => true
  | .bl _ => true
  | .int _ => true
  | .str _ => true
  | _ => false
/-- == of dicts whose values are flat -/
def eqK {κ : Type} [DecidableEq κ] (a b : List (κ × D)) : Bool := decide (a.length = b.length) && a.all fun p => match gv b p.1 with
  | some d => eqv p.2 d
  | none => false
def dEqB : D → D → Option Bool
  | .dK a, .dK b => if (a.all fun p => flat p.2) && (b.all fun p => flat p.2) then some (eqK a b) else none
  | .lst a, .lst b => if a.length = b.length then (if pln 60 (.lst a) && pln 60 (.lst b) then some (eqv (.lst a) (.lst b)) else none) else some false
  | x, y => if pln 60 x && pln 60 y then some (eqv x y) else none
def dEq (x y : D) : Option AV := (dEqB x y).map fb
def dNe (x y : D) : Option AV := (dEqB x y).map fun b => fb (!b)
def dInB : D → D → Option Bool
  | x, .lst ys => if flat x && ys.all flat then some (ys.any fun y => eqv y x) else none
  | x, .tup ys => if flat x && ys.all flat then some (ys.any fun y => eqv y x) else none
  | x, .ctp ys => if flat x then some ((ys.map D.str).any fun y => eqv y x) else none
  | x, .dK kvs => (keyOf x).map fun k => (gv kvs k).isSome
  | .tup ks, .dT kvs => (keysOf ks).map fun k => (gv kvs k).isSome
  | .str x, .str y => if x.cps.size = 1 then some (decide (x.cps.toList.headD 0 ∈ y.cps.toList)) else none
  | _, _ => none
def dIn (x y : D) : Option AV := (dInB x y).map fb
def dNotIn (x y : D) : Option AV := (dInB x y).map fun b => fb (!b)
/-- x[i], d[k] -/
def ixAt {α : Type} (xs : List α) (i : Int) : Option α := if 0 ≤ i then xs[i.toNat]? else if -(xs.length : Int) ≤ i then xs[(i + xs.length).toNat]? else none
def dIx : D → D → Option AV
  | .lst xs, .int i => (ixAt xs i).map .fz
  | .tup xs, .int i => (ixAt xs i).map .fz
  | .scr ns, .int i => (ixAt ns i).map fun n => .fz (.int n)
  | .dK kvs, x => match keyOf x with
    | some k => (gv kvs k).map .fz
    | none => none
  | .dT kvs, .tup ks => match keysOf ks with
    | some k => (gv kvs k).map .fz
    | none => none
  | _, _ => none
/-- a slice's ends -/
def cutIx (n dflt : Nat) : Option Int → Nat
  | none => dflt
  | some i => if i < 0 then (i + n).toNat else min i.toNat n
def cut {α : Type} (xs : List α) (lo hi : Option Int) : List α := (xs.drop (cutIx xs.length 0 lo)).take (cutIx xs.length xs.length hi - cutIx xs.length 0 lo)
def dGet2 : D → D → D → Option AV
  | .dK kvs, x, d => (keyOf x).map fun k => .fz ((gv kvs k).getD d)
  | .dT kvs, .tup ks, d => (keysOf ks).map fun k => .fz ((gv kvs k).getD d)
  | _, _, _ => none
def gm {κ : Type} [DecidableEq κ] {α : Type} (kvs more : List (κ × α)) : List (κ × α) := more.foldl (fun acc kv => gp acc kv.1 kv.2) kvs
def prt : Option XM → M (Option Int)
  | none, s => some (none, s)
  | some m, s => match m s with
    | some (.fz (.int i), s') => some (some i, s')
    | _ => none
def dSl : D → Option Int → Option Int → Option AV
  | .lst xs, l, h => some (.ow (.lst (cut xs l h)))
  | .scr ns, l, h => some (.ow (.lst ((cut ns l h).map .int)))
  | .tup xs, l, h => some (.fz (.tup (cut xs l h)))
  | _, _, _ => none
/-- x[lo:hi] -/
def xSl (r : Rc) (lo hi : Option XM) : XM := fun s => match r.pre s with
  | some (a, s1) => match prt lo s1 with
    | some (l, s2) => match prt hi s2 with
      | some (h, s3) => match r.fin a s3 with
        | some d => (dSl d l h).map fun x => (x, s3)
        | none => none
      | none => none
    | none => none
  | none => none
/-- a written dict: the keys and the values, from the left -/
def dDisp : List D → Option AV
  | [] => none
  | ds => match pairsFlat ds with
    | some ps => if ps.length ≤ 15 then some (.ow (.dK (gm [] ps))) else none
    | none => none
where pairsFlat : List D → Option (List (Key × D))
  | k :: v :: r => match keyOf k, pairsFlat r with
    | some k, some ps => some ((k, v) :: ps)
    | _, _ => none
  | [] => some []
  | _ => none
/-- a < b < c, b asked once -/
def xChain (f g : D → D → Option AV) (a b c : Rc) : XM := fun s => match a.pre s with
  | some (x, s1) => match b.pre s1 with
    | some (y, s2) => match a.fin x s2, b.fin y s2 with
      | some d, some e => match f d e with
        | some (.fz (.bl true)) => match c.pre s2 with
          | some (z, s3) => match b.fin y s3, c.fin z s3 with
            | some e', some h => (g e' h).map fun w => (w, s3)
            | _, _ => none
          | none => none
        | some (.fz (.bl false)) => some (fb false, s2)
        | _ => none
      | _, _ => none
    | none => none
  | none => none
def isDict : D → Bool
  | .dK _ => true
  | .dT _ => true
  | _ => false
def dTru : D → Option Bool
  | .non => some false
  | .bl b => some b
  | .int i => some (i != 0)
  | .lst xs => some (!xs.isEmpty)
  | .tup xs => some (!xs.isEmpty)
  | .dK kvs => some (!kvs.isEmpty)
  | _ => none
/-! ### what built-in functions do -/
def dLen : D → Option AV
  | .lst xs => some (fi xs.length)
  | .tup xs => some (fi xs.length)
  | .dK xs => some (fi xs.length)
  | .str x => if x.length ≤ SZ then some (fi x.length) else none
  | .scr ns => some (fi ns.length)
  | _ => none
def dList : D → Option AV
  | .lst xs => some (.ow (.lst xs))
  | .tup xs => some (.ow (.lst xs))
  | .dK kvs => some (.ow (.lst (kvs.map fun p => kD p.1)))
  | _ => none
def dTuple : D → Option AV
  | .lst xs => some (.fz (.tup xs))
  | .tup xs => some (.fz (.tup xs))
  | _ => none
def pairOf : D → Option (Key × D)
  | .tup [k, v] => (keyOf k).map fun k => (k, v)
  | _ => none
def pairsOf : List D → Option (List (Key × D))
  | [] => some []
  | d :: ds => match pairOf d, pairsOf ds with
    | some p, some ps => some (p :: ps)
    | _, _ => none
/-- dict(pairs), dict(d) -/
def dDict : D → Option AV
  | .lst ds => (pairsOf ds).map fun ps => .ow (.dK (gm [] ps))
  | .dK kvs => some (.ow (.dK kvs))
  | _ => none
def intsOf : List D → Option (List Int)
  | [] => some []
  | .int i :: ds => (intsOf ds).map (i :: ·)
  | _ :: _ => none
def boolsOf : List D → Option (List Bool)
  | [] => some []
  | .bl i :: ds => (boolsOf ds).map (i :: ·)
  | _ :: _ => none
def dSum : D → Option AV
  | .lst ds => (intsOf ds).map fun ns => fi ns.sum
  | _ => none
def top : Int → List Int → Int
  | m, [] => m
  | m, n :: ns => top (if n > m then n else m) ns
def low : Int → List Int → Int
  | m, [] => m
  | m, n :: ns => low (if n < m then n else m) ns
def dMax : D → Option AV
  | .lst ds => match intsOf ds with
    | some (n :: ns) => some (fi (top n ns))
    | _ => none
  | _ => none
def dMin : D → Option AV
  | .lst ds => match intsOf ds with
    | some (n :: ns) => some (fi (low n ns))
    | _ => none
  | _ => none
def dAny : D → Option AV
  | .lst ds => (boolsOf ds).map fun ns => fb (ns.any id)
  | _ => none
def dAll : D → Option AV
  | .lst ds => (boolsOf ds).map fun ns => fb (ns.all id)
  | _ => none
def dInt : D → Option AV
  | .int i => some (fi i)
  | .bl b => some (fi (if b then 1 else 0))
  | _ => none
/-- the built-in type of data -/
def tyD : D → Option String
  | .non => some "NoneType"
  | .bl _ => some "bool"
  | .int _ => some "int"
  | .str _ => some "str"
  | .lst _ => some "list"
  | .tup _ => some "tuple"
  | .dK _ => some "dict"
  | .dT _ => none
  | .ins _ _ => none
  | .scr _ => none
  | .ctp _ => none
/-- isinstance(x, n), isinstance(x, (n, ..)) -/
def isaB (n t : String) : Bool := t == n || (t == "bool" && n == "int")
def dIsa (ns : List String) (d : D) : Option AV := (tyD d).map fun t => fb (ns.any fun n => isaB n t)
def dLst (ds : List D) : Option AV := some (.ow (.lst ds))
def dTup (ds : List D) : Option AV := some (.fz (.tup ds))
/-! ### tests -/
abbrev TM := M Bool
def tB (m : XM) : TM := fun s => match m s with
  | some (.fz (.bl b), s') => some (b, s')
  | _ => none
def tTru (m : XM) : TM := fun s => match m s with
  | some (a, s') => (dTru a.d).map fun b => (b, s')
  | none => none
def tAnd (a b : TM) : TM := fun s => match a s with
  | some (true, s') => b s'
  | r => r
def tOr (a b : TM) : TM := fun s => match a s with
  | some (false, s') => b s'
  | r => r
def tNot (a : TM) : TM := fun s => match a s with
  | some (b, s') => some (!b, s')
  | none => none
def xIf (t : TM) (a b : XM) : XM := fun s => match t s with
  | some (true, s') => a s'
  | some (false, s') => b s'
  | none => none
/-- and, or as values of bools -/
def xAnd (a b : XM) : XM := fun s => match a s with
  | some (.fz (.bl true), s') => b s'
  | some (.fz (.bl false), s') => some (fb false, s')
  | _ => none
def xNot (a : XM) : XM := fun s => match a s with
  | some (.fz (.bl b), s') => some (fb (!b), s')
  | _ => none
/-- x or y of any value -/
def xOrT (a b : XM) : XM := fun s => match a s with
  | some (d, s') => match dTru d.d with
    | some true => some (.fz d.d, s')
    | some false => b s'
    | none => none
  | none => none
/-! ### things that are changed: an own name's content -/
def SV.put (d : D) : SV → Option SV
  | .ow _ => some (.ow d)
  | .io _ => some (.io d)
  | _ => none
/-- an own name's content is changed by f, which gives a value, too -/
def chg (i : Nat) (f : D → Option (D × AV)) : XM := fun s => match s[i]? with
  | some (.ow d) => match f d with
    | some (d', a) => some (a, s.set i (.ow d'))
    | none => none
  | some (.io d) => match f d with
    | some (d', a) => some (a, s.set i (.io d'))
    | none => none
  | _ => none
def Rc.tgt : Rc → Option Nat
  | .v i => some i
  | .f _ _ _ j => some j
  | .e _ => none
/-- a method of an own list, with one operand -/
def chgR (r0 : Rc) (f : D → D → Option (D × AV)) (r : Rc) : XM := fun s => match r0.tgt, r0.pre s with
  | some i, some _ => match s[i]? with
    | some a => match a.get with
      | some (.lst _) => match ev1 r s with
        | some (x, s') => chg i (fun d => f d x) s'
        | none => none
      | _ => none
    | none => none
  | _, _ => none
def cApp : D → D → Option (D × AV)
  | .lst xs, x => if xs.length < SZ then some (.lst (xs ++ [x]), .fz .non) else none
  | _, _ => none
def cExt : D → D → Option (D × AV)
  | .lst xs, .lst ys => if xs.length + ys.length ≤ SZ then some (.lst (xs ++ ys), .fz .non) else none
  | .lst xs, .tup ys => if xs.length + ys.length ≤ SZ then some (.lst (xs ++ ys), .fz .non) else none
  | _, _ => none
def cPop : D → Option (D × AV)
  | .lst xs => (xs[xs.length - 1]?).map fun y => (.lst xs.dropLast, .fz y)
  | _ => none
def cPopAt : D → D → Option (D × AV)
  | .lst xs, .int i => if 0 ≤ i ∧ i < 2 ^ 63 then (xs[i.toNat]?).map fun y => (.lst (xs.eraseIdx i.toNat), .fz y) else none
  | _, _ => none
/-- x[k] = v: the value, then the key -/
def cPut : D → D → D → Option (D × AV)
  | .dK kvs, v, k => match keyOf k with
    | some k => if kvs.length < SZ then some (.dK (gp kvs k v), .fz .non) else none
    | none => none
  | .dT kvs, v, .tup ks => match keysOf ks with
    | some k => if kvs.length < SZ then some (.dT (gp kvs k v), .fz .non) else none
    | none => none
  | .lst xs, v, .int i => if 0 ≤ i ∧ i < xs.length then some (.lst (xs.set i.toNat v), .fz .non) else none
  | _, _, _ => none
/-! ### calls of defs -/
abbrev Fn := List D → Option (AV × List D)
/-- what is handed in: lent (to be changed), or a frozen value -/
def svs : List Bool → List D → S
  | true :: bs, d :: ds => .io d :: svs bs ds
  | false :: bs, d :: ds => .fz d :: svs bs ds
  | _, _ => []
/-- what comes back of it -/
def svo : List Bool → List D → S
  | true :: bs, d :: ds => .io d :: svo bs ds
  | false :: bs, _ :: ds => .un :: svo bs ds
  | _, _ => []
def Rc.lent : Rc → Bool
  | .v _ => true
  | .f _ _ _ _ => true
  | .e _ => false
def upds : List Rc → List D → S → Option S
  | [], [], s => some s
  | .v i :: rs, d :: ds, s => match s[i]? with
    | some (.ow _) => upds rs ds (s.set i (.ow d))
    | some (.io _) => upds rs ds (s.set i (.io d))
    | _ => none
  | .e _ :: rs, _ :: ds, s => upds rs ds s
  | _, _, _ => none
def xCall (f : Fn) (rs : List Rc) : XM := fun s => match evL rs s with
  | some (ds, s1) => match f ds with
    | some (a, outs) => match upds rs outs s1 with
      | some s2 => some (a, s2)
      | none => none
    | none => none
  | none => none
/-! ### statements -/
def mSeq (a b : MS) : MS := fun s => match a s with
  | some (.nx, s') => b s'
  | r => r
def mSkip : MS := fun s => some (.nx, s)
def mNever : MS := fun _ => none
def mRet (m : XM) : MS := fun s => match m s with
  | some (a, s') => some (.rt a, s')
  | none => none
def mRetN : MS := fun s => some (.rt (.fz .non), s)
def mIfS (t : TM) (a b : MS) : MS := fun s => match t s with
  | some (true, s') => a s'
  | some (false, s') => b s'
  | none => none
/-- a slot takes a value (what the caller lent stays where it is) -/
def put (i : Nat) (a : SV) (s : S) : Option S := match s[i]? with
  | some b => if b.pin = true then none else some (s.set i a)
  | none => none
def mAsg (i : Nat) (m : XM) : MS := fun s => match m s with
  | some (a, s') => match put i a.sv s' with
    | some s'' => some (.nx, s'')
    | none => none
  | none => none
def mDrop (m : XM) : MS := fun s => match m s with
  | some (_, s') => some (.nx, s')
  | none => none
/-- a target: a name, or a tuple of targets -/
inductive Tg where
  | nm (i : Nat) | tp (ts : List Tg)
mutual
def asgT : Tg → D → S → Option S
  | .nm i, d, s => put i (.fz d) s
  | .tp ts, .tup ds, s => asgTs ts ds s
  | .tp ts, .lst ds, s => asgTs ts ds s
  | .tp _, _, _ => none
def asgTs : List Tg → List D → S → Option S
  | [], [], s => some s
  | t :: ts, d :: ds, s => match asgT t d s with
    | some s' => asgTs ts ds s'
    | none => none
  | _, _, _ => none
end
/-- a, b = e -/
def mAsgT (t : Tg) (m : XM) : MS := fun s => match m s with
  | some (a, s') => match asgT t a.d s' with
    | some s'' => some (.nx, s'')
    | none => none
  | none => none
/-! ### what is walked -/
abbrev Src := M (List D)
def itemsOf : D → Option (List D)
  | .lst xs => some xs
  | .tup xs => some xs
  | .dK kvs => some (kvs.map fun p => kD p.1)
  | .str x => some (x.cps.toList.map fun c => .str ⟨#[c]⟩)
  | _ => none
def sOf (f : D → Option (List D)) (m : XM) : Src := fun s => match m s with
  | some (a, s') => (f a.d).map fun ds => (ds, s')
  | none => none
def sIt (m : XM) : Src := sOf itemsOf m
def lstOnly : D → Option (List D)
  | .lst xs => some xs
  | .tup xs => some xs
  | _ => none
def enumOf (n : Nat) : List D → List D
  | [] => []
  | d :: ds => .tup [.int n, d] :: enumOf (n + 1) ds
def sEnum (m : XM) : Src := sOf (fun d => (lstOnly d).map (enumOf 0)) m
def sItems (m : XM) : Src := sOf (fun d => match d with
  | .dK kvs => some (kvs.map fun p => .tup [kD p.1, p.2])
  | _ => none) m
def rngOf (a b : Int) : List D := (List.range (b - a).toNat).map fun k => .int (a + (k : Nat))
def sRange1 (r : Rc) : Src := fun s => match ev1 r s with
  | some (.int b, s') => if -(2 ^ 62) ≤ b ∧ b < 2 ^ 62 then some (rngOf 0 b, s') else none
  | _ => none
/-! ### loops -/
def forL (tg : Tg) (body : MS) : List D → MS
  | [], s => some (.nx, s)
  | d :: ds, s => match asgT tg d s with
    | some s1 => match body s1 with
      | some (.nx, s2) => forL tg body ds s2
      | some (.ct, s2) => forL tg body ds s2
      | some (.bk, s2) => some (.nx, s2)
      | some (.rt a, s2) => some (.rt a, s2)
      | none => none
    | none => none
def mFor (src : Src) (tg : Tg) (body : MS) : MS := fun s => match src s with
  | some (ds, s') => forL tg body ds s'
  | none => none
def whileL (t : TM) (body : MS) : Nat → MS
  | 0, _ => none
  | n + 1, s => match t s with
    | some (true, s1) => match body s1 with
      | some (.nx, s2) => whileL t body n s2
      | some (.ct, s2) => whileL t body n s2
      | some (.bk, s2) => some (.nx, s2)
      | some (.rt a, s2) => some (.rt a, s2)
      | none => none
    | some (false, s1) => some (.nx, s1)
    | none => none
/-- a while: as many turns as it takes -/
def mWhile (t : TM) (body : MS) : MS := fun s => whileL t body 1000000 s
/-! ### comprehensions -/
def wipeS (s : S) : List Nat → S
  | [] => s
  | v :: vs => (wipeS s vs).set v .un
def calm (s : S) : List Nat → Bool
  | [] => true
  | v :: vs => (match s[v]? with
    | some a => !a.own && !a.pin
    | none => false) && calm s vs
/-- the block's own names are given back -/
def back (s0 s : S) : List Nat → S
  | [] => s
  | v :: vs => (back s0 s vs).set v (s0[v]?.getD .un)
def lcL (vs : List Nat) (tg : Tg) (t : TM) (e : XM) : List D → List D → M (List D)
  | [], acc, s => some (acc, s)
  | d :: ds, acc, s => match asgT tg d s with
    | some s1 => match t s1 with
      | some (true, s2) => match e s2 with
        | some (a, s3) => if acc.length < SZ ∧ calm s3 vs = true then lcL vs tg t e ds (acc ++ [a.d]) (wipeS s3 vs) else none
        | none => none
      | some (false, s2) => if calm s2 vs = true then lcL vs tg t e ds acc (wipeS s2 vs) else none
      | none => none
    | none => none
def xLc (vs : List Nat) (src : Src) (tg : Tg) (t : TM) (e : XM) : XM := fun s => match src s with
  | some (ds, s1) => if calm s1 vs = true then match lcL vs tg t e ds [] (wipeS s1 vs) with
      | some (acc, s2) => some (.ow (.lst acc), back s1 s2 vs)
      | none => none
    else none
  | none => none
def tYes : TM := fun s => some (true, s)
def dcL (vs : List Nat) (tg : Tg) (t : TM) (k e : XM) : List D → List (Key × D) → M (List (Key × D))
  | [], acc, s => some (acc, s)
  | d :: ds, acc, s => match asgT tg d s with
    | some s1 => match t s1 with
      | some (true, s2) => match ev2 (.e k) (.e e) s2 with
        | some ((kd, v), s3) => match keyOf kd with
          | some q => if acc.length < SZ ∧ calm s3 vs = true then dcL vs tg t k e ds (gp acc q v) (wipeS s3 vs) else none
          | none => none
        | none => none
      | some (false, s2) => if calm s2 vs = true then dcL vs tg t k e ds acc (wipeS s2 vs) else none
      | none => none
    | none => none
def xDc (vs : List Nat) (src : Src) (tg : Tg) (t : TM) (k e : XM) : XM := fun s => match src s with
  | some (ds, s1) => if calm s1 vs = true then match dcL vs tg t k e ds [] (wipeS s1 vs) with
      | some (acc, s2) => some (.ow (.dK acc), back s1 s2 vs)
      | none => none
    else none
  | none => none
/-! ### a def -/
def outsOf : List Bool → S → Option (List D)
  | [], _ => some []
  | true :: bs, .io d :: s => (outsOf bs s).map (d :: ·)
  | false :: bs, _ :: s => (outsOf bs s).map (.non :: ·)
  | _, _ => none
/-- a def of n names, some of whose parameters are lent -/
def mFun (io : List Bool) (n : Nat) (m : MS) : Fn := fun ds => if ds.length = io.length then match m (svs io ds ++ List.replicate (n - ds.length) .un) with
    | some (.rt a, s) => (outsOf io s).map fun o => (a, o)
    | some (.nx, s) => (outsOf io s).map fun o => (.fz .non, o)
    | _ => none
  else none
end PV
/-! PvR: how data lie in the abstract heap. -/
namespace PV
open PySem L2
/-- a tuple of texts that the module holds -/
def CT (K : PySem.W.Frag) (a : Addr) (xs : List Str) : Prop := ∃ (o : Obj) (its : Array Value) (n : Nat), K.lookup a = some o ∧ o.cls = .type "tuple" ∧ o.data = .seq its n ∧ its.size ≤ sizeLine ∧ Vals (xs.map V.str) its.toList
mutual
def Rep (K : PySem.W.Frag) (mg : Str → Option Value) (F : Hp) : D → V → Prop
  | .non, v => v = .non
  | .bl b, v => v = .bl b
  | .int i, v => v = .int i
  | .str x, v => v = .str x
  | .lst ds, v => ∃ a vs, v = .ref a ∧ Rd F a (.lst vs) ∧ Reps K mg F ds vs
  | .tup ds, v => ∃ a vs, v = .ref a ∧ F a = some (.tup vs) ∧ Reps K mg F ds vs
  | .dK kvs, v => ∃ a o ws, v = .ref a ∧ F a = some (.frz o (.dK ws)) ∧ RepK K mg F kvs ws
  | .dT kvs, v => ∃ a o ws, v = .ref a ∧ F a = some (.frz o (.dT ws)) ∧ RepT K mg F kvs ws
  | .ins C fs, v => ∃ a Ca dx ws, v = .ref a ∧ F a = some (.ins Ca dx ws) ∧ mg C = some (.ref Ca) ∧ RepF K mg F fs ws
  | .scr ns, v => ∃ a, v = .ref a ∧ SqL K F a (ns.map V.int)
  | .ctp xs, v => ∃ a, v = .ref a ∧ CT K a xs
def Reps (K : PySem.W.Frag) (mg : Str → Option Value) (F : Hp) : List D → List V → Prop
  | [], vs => vs = []
  | d :: ds, vs => ∃ v r, vs = v :: r ∧ Rep K mg F d v ∧ Reps K mg F ds r
def RepK (K : PySem.W.Frag) (mg : Str → Option Value) (F : Hp) : List (Key × D) → List (Key × V) → Prop
  | [], ws => ws = []
  | (k, d) :: ds, ws => ∃ v r, ws = (k, v) :: r ∧ Rep K mg F d v ∧ RepK K mg F ds r
def RepT (K : PySem.W.Frag) (mg : Str → Option Value) (F : Hp) : List (List Key × D) → List (List Key × V) → Prop
  | [], ws => ws = []
  | (k, d) :: ds, ws => ∃ v r, ws = (k, v) :: r ∧ Rep K mg F d v ∧ RepT K mg F ds r
def RepF (K : PySem.W.Frag) (mg : Str → Option Value) (F : Hp) : List (Str × D) → List (Str × V) → Prop
  | [], ws => ws = []
  | (k, d) :: ds, ws => ∃ v r, ws = (k, v) :: r ∧ Rep K mg F d v ∧ RepF K mg F ds r
end
section
variable {K : PySem.W.Frag} {mg : Str → Option Value} {F F' : Hp}
theorem rd_mono {a : Addr} {u : HO} (e : Same F F') (h : Rd F a u) : Rd F' a u := by
  rcases h with h | ⟨o, h⟩
  · exact .inl (e _ _ h)
  · exact .inr ⟨o, e _ _ h⟩
mutual
theorem Rep.mono (e : Same F F') : ∀ (d : D) (v : V), Rep K mg F d v → Rep K mg F' d v
  | .non, _, h => by unfold Rep at h ⊢; exact h
  | .bl _, _, h => by unfold Rep at h ⊢; exact h
  | .int _, _, h => by unfold Rep at h ⊢; exact h
  | .str _, _, h => by unfold Rep at h ⊢; exact h
  | .lst ds, _, h => by
    unfold Rep at h ⊢
    obtain ⟨a, vs, rfl, hs, hr⟩ := h
    exact ⟨a, vs, rfl, rd_mono e hs, Reps.mono e ds vs hr⟩
  | .tup ds, _, h => by
    unfold Rep at h ⊢
    obtain ⟨a, vs, rfl, hs, hr⟩ := h
    exact ⟨a, vs, rfl, e _ _ hs, Reps.mono e ds vs hr⟩
  | .dK kvs, _, h => by
    unfold Rep at h ⊢
    obtain ⟨a, o, ws, rfl, hs, hr⟩ := h
    exact ⟨a, o, ws, rfl, e _ _ hs, RepK.mono e kvs ws hr⟩
  | .dT kvs, _, h => by
    unfold Rep at h ⊢
    obtain ⟨a, o, ws, rfl, hs, hr⟩ := h
    exact ⟨a, o, ws, rfl, e _ _ hs, RepT.mono e kvs ws hr⟩
  | .ins C fs, _, h => by
    unfold Rep at h ⊢
    obtain ⟨a, Ca, dx, ws, rfl, hs, hc, hr⟩ := h
    exact ⟨a, Ca, dx, ws, rfl, e _ _ hs, hc, RepF.mono e fs ws hr⟩
  | .scr ns, _, h => by
    unfold Rep at h ⊢
    obtain ⟨a, rfl, hs⟩ := h
    exact ⟨a, rfl, e.seq hs⟩
  | .ctp _, _, h => by unfold Rep at h ⊢; exact h
theorem Reps.mono (e : Same F F') : ∀ (ds : List D) (vs : List V), Reps K mg F ds vs → Reps K mg F' ds vs
  | [], _, h => by unfold Reps at h ⊢; exact h
  | d :: ds, _, h => by
    unfold Reps at h ⊢
    obtain ⟨v, r, rfl, h1, h2⟩ := h
    exact ⟨v, r, rfl, Rep.mono e d v h1, Reps.mono e ds r h2⟩
theorem RepK.mono (e : Same F F') : ∀ (ds : List (Key × D)) (vs : List (Key × V)), RepK K mg F ds vs → RepK K mg F' ds vs
  | [], _, h => by unfold RepK at h ⊢; exact h
  | (k, d) :: ds, _, h => by
    unfold RepK at h ⊢
    obtain ⟨v, r, rfl, h1, h2⟩ := h
    exact ⟨v, r, rfl, Rep.mono e d v h1, RepK.mono e ds r h2⟩
theorem RepT.mono (e : Same F F') : ∀ (ds : List (List Key × D)) (vs : List (List Key × V)), RepT K mg F ds vs → RepT K mg F' ds vs
  | [], _, h => by unfold RepT at h ⊢; exact h
  | (k, d) :: ds, _, h => by
    unfold RepT at h ⊢
    obtain ⟨v, r, rfl, h1, h2⟩ := h
    exact ⟨v, r, rfl, Rep.mono e d v h1, RepT.mono e ds r h2⟩
theorem RepF.mono (e : Same F F') : ∀ (ds : List (Str × D)) (vs : List (Str × V)), RepF K mg F ds vs → RepF K mg F' ds vs
  | [], _, h => by unfold RepF at h ⊢; exact h
  | (k, d) :: ds, _, h => by
    unfold RepF at h ⊢
    obtain ⟨v, r, rfl, h1, h2⟩ := h
    exact ⟨v, r, rfl, Rep.mono e d v h1, RepF.mono e ds r h2⟩
end
end
/-- what stands at an own thing's address -/
def Sh (K : PySem.W.Frag) (mg : Str → Option Value) (F : Hp) : D → HO → Prop
  | .lst ds, o => ∃ vs, o = .lst vs ∧ Reps K mg F ds vs
  | .dK kvs, o => ∃ ws, o = .dK ws ∧ RepK K mg F kvs ws
  | .dT kvs, o => ∃ ws, o = .dT ws ∧ RepT K mg F kvs ws
  | _, _ => False
theorem Sh.mono {K : PySem.W.Frag} {mg : Str → Option Value} {F F' : Hp} (e : Same F F') {d : D} {o : HO} (h : Sh K mg F d o) : Sh K mg F' d o := by
  cases d with
  | lst ds => obtain ⟨vs, rfl, h⟩ := h; exact ⟨vs, rfl, h.mono e⟩
  | dK ds => obtain ⟨vs, rfl, h⟩ := h; exact ⟨vs, rfl, h.mono e⟩
  | dT ds => obtain ⟨vs, rfl, h⟩ := h; exact ⟨vs, rfl, h.mono e⟩
  | _ => exact h.elim
/-- what others own; which slots hold what the caller lent, and where it stands -/
structure Fx where
  hp : Hp
  lt : List (Nat × Addr)
instance : CoeFun Fx (fun _ => Addr → Option HO) := ⟨Fx.hp⟩
/-- the fields of an object that is being made -/
def RepO (K : PySem.W.Frag) (mg : Str → Option Value) (lt : List (Nat × Addr)) (F : Hp) : List (Str × Fd) → List (Str × V) → Prop
  | [], ws => ws = []
  | (k, .d d) :: r, ws => ∃ v r', ws = (k, v) :: r' ∧ Rep K mg F d v ∧ RepO K mg lt F r r'
  | (k, .j i) :: r, ws => ∃ q r', ws = (k, V.ref q) :: r' ∧ (i, q) ∈ lt ∧ RepO K mg lt F r r'
theorem RepO.mono {K : PySem.W.Frag} {mg : Str → Option Value} {lt lt' : List (Nat × Addr)} {F F' : Hp} (e : Same F F') (el : ∀ z ∈ lt, z ∈ lt') : ∀ {fl : List (Str × Fd)} {ws : List (Str × V)}, RepO K mg lt F fl ws → RepO K mg lt' F' fl ws
  | [], _, h => h
  | (k, .d d) :: r, _, ⟨v, r', h1, h2, h3⟩ => ⟨v, r', h1, h2.mono e, h3.mono e el⟩
  | (k, .j i) :: r, _, ⟨v, r', h1, h2, h3⟩ => ⟨v, r', h1, el _ h2, h3.mono e el⟩
theorem RepO.get {K : PySem.W.Frag} {mg : Str → Option Value} {lt : List (Nat × Addr)} {F : Hp} (n : Str) : ∀ {fl : List (Str × Fd)} {ws : List (Str × V)} {f : Fd}, RepO K mg lt F fl ws → gv fl n = some f → ∃ v, ws.lookup n = some v ∧ match f with
    | .d d => Rep K mg F d v
    | .j i => ∃ q, v = V.ref q ∧ (i, q) ∈ lt
  | [], _, _, _, g => by cases g
  | (k, f0) :: r, ws, f, h, g => by
    unfold gv at g
    rw [List.find?_cons] at g
    by_cases hk : k = n
    · subst hk
      rw [decide_eq_true rfl] at g
      cases g
      cases f0 with
      | d d => obtain ⟨v, r', rfl, h2, h3⟩ := h; exact ⟨v, by rw [List.lookup_cons, beq_self_eq_true], h2⟩
      | j i => obtain ⟨q, r', rfl, h2, h3⟩ := h; exact ⟨_, by rw [List.lookup_cons, beq_self_eq_true], q, rfl, h2⟩
    · rw [decide_eq_false hk] at g
      have hb : (n == k) = false := by rw [beq_eq_false_iff_ne]; exact Ne.symm hk
      cases f0 with
      | d d => obtain ⟨v, r', rfl, h2, h3⟩ := h; obtain ⟨w, g1, g2⟩ := RepO.get n h3 g; exact ⟨w, by rw [List.lookup_cons, hb]; exact g1, g2⟩
      | j i => obtain ⟨q, r', rfl, h2, h3⟩ := h; obtain ⟨w, g1, g2⟩ := RepO.get n h3 g; exact ⟨w, by rw [List.lookup_cons, hb]; exact g1, g2⟩
/-- an object that is being made: its fields, and which slots stand for fields -/
def ObF (K : PySem.W.Frag) (mg : Str → Option Value) (Fr : Fx) (F : Hp) (C : Str) (fl : List (Str × Fd)) (w : Option V) : Prop :=
  ∃ x Ca dx ws, w = some (V.ref x) ∧ Fr.hp x = some (.ins Ca dx ws) ∧ mg C = some (.ref Ca) ∧ RepO K mg Fr.lt F fl ws
theorem ObF.mono {K : PySem.W.Frag} {mg : Str → Option Value} {Fr Fr' : Fx} {F F' : Hp} {C : Str} {fl : List (Str × Fd)} {w : Option V} (h : ObF K mg Fr F C fl w) (e : Same F F') (ei : ∀ x C dx ws, Fr.hp x = some (.ins C dx ws) → Fr'.hp x = some (.ins C dx ws)) (el : ∀ z ∈ Fr.lt, z ∈ Fr'.lt) : ObF K mg Fr' F' C fl w := by
  obtain ⟨x, Ca, dx, ws, h1, h2, h3, h4⟩ := h
  exact ⟨x, Ca, dx, ws, h1, ei _ _ _ _ h2, h3, h4.mono e el⟩
/-- an own thing that is only read for a while -/
def LkF (K : PySem.W.Frag) (mg : Str → Option Value) (Fr : Fx) (F : Hp) (d : D) (w : Option V) : Prop := ∃ p od o, w = some (V.ref p) ∧ Fr.hp p = some (.frz od o) ∧ Sh K mg F d o
theorem LkF.mono {K : PySem.W.Frag} {mg : Str → Option Value} {Fr Fr' : Fx} {F F' : Hp} {d : D} {w : Option V} (h : LkF K mg Fr F d w) (e : Same F F') (ei : ∀ x od u, Fr.hp x = some (.frz od u) → Fr'.hp x = some (.frz od u)) : LkF K mg Fr' F' d w := by
  obtain ⟨x, od, o, h1, h2, h3⟩ := h
  exact ⟨x, od, o, h1, ei _ _ _ h2, h3.mono e⟩
/-- a name's slot: Fr what others own, F what is frozen, H all -/
def Slot (K : PySem.W.Frag) (mg : Str → Option Value) (Fr : Fx) (F H : Hp) : SV → Option V → Prop
  | .un, _ => True
  | .fz d, w => ∃ v, w = some v ∧ Rep K mg F d v
  | .ow d, w => ∃ p o, w = some (V.ref p) ∧ F p = none ∧ Fr p = none ∧ H p = some o ∧ Sh K mg F d o
  | .io d, w => ∃ p o, w = some (V.ref p) ∧ F p = none ∧ Fr p = none ∧ H p = some o ∧ Sh K mg F d o
  | .ob C fl, w => ObF K mg Fr F C fl w
  | .lk d, w => LkF K mg Fr F d w
structure StF (K : PySem.W.Frag) (mg : Str → Option Value) (Fr : Fx) (F : Hp) (s : List SV) (σ : List (Option V)) (H : Hp) : Prop where
  sub : Same F H
  fr : Same Fr.hp H
  dis : ∀ p o, Fr p = some o → F p = none
  len : s.length = σ.length
  slot : ∀ (i : Nat) (a : SV), s[i]? = some a → ∃ w, σ[i]? = some w ∧ Slot K mg Fr F H a w
  lent : ∀ i p, (i, p) ∈ Fr.lt → σ[i]? = some (some (V.ref p)) ∧ ∃ a, s[i]? = some a ∧ a.pin = true
  apart : ∀ (i j : Nat) (a b : SV) (p : Addr), s[i]? = some a → s[j]? = some b → a.own = true → b.own = true → σ[i]? = some (some (V.ref p)) → σ[j]? = some (some (V.ref p)) → i = j
/-- a value that is handed on -/
def AVal (K : PySem.W.Frag) (mg : Str → Option Value) (Fr : Fx) (F H : Hp) (s : List SV) (σ : List (Option V)) : AV → V → Prop
  | .fz d, v => Rep K mg F d v
  | .ow d, v => ∃ p o, v = V.ref p ∧ F p = none ∧ Fr p = none ∧ H p = some o ∧ Sh K mg F d o ∧ ∀ (i : Nat) (a : SV), s[i]? = some a → a.own = true → σ[i]? ≠ some (some (V.ref p))
/-- looked at: frozen, or an own thing -/
def View (K : PySem.W.Frag) (mg : Str → Option Value) (F H : Hp) (d : D) (v : V) : Prop := Rep K mg F d v ∨ ∃ p o, v = V.ref p ∧ Rd H p o ∧ Sh K mg F d o
/-! ### readings -/
/-- a frozen value -/
def tE (K : PySem.W.Frag) (mg : Str → Option Value) (m : M D) : TE := fun σ H Q => ∃ Fr G s d s', StF K mg Fr G s σ H ∧ m s = some (d, s') ∧
  ∀ v F H', Same G F → StF K mg Fr F s' σ H' → Rep K mg F d v → Q v H'
def tO (K : PySem.W.Frag) (mg : Str → Option Value) (m : XM) : TE := fun σ H Q => ∃ Fr G s d s', StF K mg Fr G s σ H ∧ m s = some (d, s') ∧
  ∀ v F H', Same G F → StF K mg Fr F s' σ H' → AVal K mg Fr F H' s' σ d v → Q v H'
def tM (K : PySem.W.Frag) (mg : Str → Option Value) (m : TM) : TT := fun σ H Q => ∃ Fr G s d s', StF K mg Fr G s σ H ∧ m s = some (d, s') ∧
  ∀ F H', Same G F → StF K mg Fr F s' σ H' → Q d H'
def EndS (K : PySem.W.Frag) (mg : Str → Option Value) (DE : Ends) (Fr : Fx) (F : Hp) (s : List SV) (σ : List (Option V)) (H : Hp) : Out → Prop
  | .nx => DE.nx σ H
  | .bk => DE.bk σ H
  | .ct => DE.ct σ H
  | .rt a => ∀ v, AVal K mg Fr F H s σ a v → DE.rt v H
def tS (K : PySem.W.Frag) (mg : Str → Option Value) (m : MS) : TS := fun DE σ H => ∃ Fr G s o s', StF K mg Fr G s σ H ∧ m s = some (o, s') ∧
  ∀ σ' F H', Same G F → StF K mg Fr F s' σ' H' → EndS K mg DE Fr F s' σ' H' o
section
variable {K : PySem.W.Frag} {mg : Str → Option Value} {Fr : Fx} {F H : Hp} {s : List SV} {σ : List (Option V)} {p : Addr} {o : HO} {d : D}
theorem Slot.mono {a : SV} {w : Option V} {F' H' : Hp} (h : Slot K mg Fr F H a w) (eF : Same F F') (ow : ∀ p o, a.own = true → w = some (V.ref p) → F p = none → Fr p = none → H p = some o → F' p = none ∧ H' p = some o) : Slot K mg Fr F' H' a w := by
  cases a with
  | un => trivial
  | fz d => obtain ⟨v, e, r⟩ := h; exact ⟨v, e, r.mono eF⟩
  | ow d => obtain ⟨p, o, e, h1, h2, h3, h4⟩ := h; obtain ⟨q1, q2⟩ := ow p o rfl e h1 h2 h3; exact ⟨p, o, e, q1, h2, q2, h4.mono eF⟩
  | io d => obtain ⟨p, o, e, h1, h2, h3, h4⟩ := h; obtain ⟨q1, q2⟩ := ow p o rfl e h1 h2 h3; exact ⟨p, o, e, q1, h2, q2, h4.mono eF⟩
  | ob C fl => exact ObF.mono h eF (fun _ _ _ _ z => z) fun _ z => z
  | lk d => exact LkF.mono h eF fun _ _ _ z => z
/-- a thing is laid and frozen -/
theorem StF.laid (h : StF K mg Fr F s σ H) (hp : H p = none) : StF K mg Fr (upd F p o) s σ (upd H p o) := by
  have hF : F p = none := h.sub.free hp
  have hr : Fr p = none := h.fr.free hp
  refine ⟨fun b u e => ?_, fun b u e => ?_, fun b u e => ?_, h.len, fun i a e => ?_, h.lent, h.apart⟩
  · by_cases hb : b = p
    · subst hb; rw [upd_same] at e ⊢; exact e
    · rw [upd_ne hb] at e ⊢; exact h.sub b u e
  · rw [upd_ne (ne_of_none e hr)]; exact h.fr b u e
  · rw [upd_ne (ne_of_none e hr)]; exact h.dis b u e
  · obtain ⟨w, hw, q⟩ := h.slot i a e
    refine ⟨w, hw, q.mono (fun b u e => by rw [upd_ne (ne_of_none e hF)]; exact e) fun b u _ _ h1 h2 h3 => ?_⟩
    rw [upd_ne (ne_of_none h3 hp), upd_ne (ne_of_none h3 hp)]
    exact ⟨h1, h3⟩
/-- a thing is laid, nobody's yet -/
theorem StF.new (h : StF K mg Fr F s σ H) (hp : H p = none) : StF K mg Fr F s σ (upd H p o) := by
  have hr : Fr p = none := h.fr.free hp
  refine ⟨fun b u e => ?_, fun b u e => ?_, h.dis, h.len, fun i a e => ?_, h.lent, h.apart⟩
  · rw [upd_ne (ne_of_none (h.sub b u e) hp)]; exact h.sub b u e
  · rw [upd_ne (ne_of_none e hr)]; exact h.fr b u e
  · obtain ⟨w, hw, q⟩ := h.slot i a e
    refine ⟨w, hw, q.mono (Same.refl _) fun b u _ _ h1 h2 h3 => ?_⟩
    rw [upd_ne (ne_of_none h3 hp)]
    exact ⟨h1, h3⟩
theorem StF.avNew (h : StF K mg Fr F s σ H) (hp : H p = none) (ho : Sh K mg F d o) : AVal K mg Fr F (upd H p o) s σ (.ow d) (.ref p) := by
  refine ⟨p, o, rfl, h.sub.free hp, h.fr.free hp, upd_same, ho, fun i a e ha hi => ?_⟩
  obtain ⟨w, hw, q⟩ := h.slot i a e
  rw [hi] at hw
  cases hw
  cases a with
  | un => cases ha
  | fz d => cases ha
  | ow d => obtain ⟨p', o', e', _, _, h3, _⟩ := q; cases e'; rw [hp] at h3; cases h3
  | io d => obtain ⟨p', o', e', _, _, h3, _⟩ := q; cases e'; rw [hp] at h3; cases h3
  | ob _ _ => cases ha
  | lk _ => cases ha
/-- an own thing of nobody's slot becomes frozen (its content u is o, or o locked) -/
theorem StF.froze {u : HO} (h : StF K mg Fr F s σ H) (h1 : F p = none) (h2 : Fr p = none) (hs : ∀ (i : Nat) (a : SV), s[i]? = some a → a.own = true → σ[i]? ≠ some (some (V.ref p))) :
    StF K mg Fr (upd F p u) s σ (upd H p u) := by
  refine ⟨fun b v e => ?_, fun b v e => ?_, fun b v e => ?_, h.len, fun i a e => ?_, h.lent, h.apart⟩
  · by_cases hb : b = p
    · subst hb; rw [upd_same] at e ⊢; exact e
    · rw [upd_ne hb] at e ⊢; exact h.sub b v e
  · rw [upd_ne (ne_of_none e h2)]; exact h.fr b v e
  · rw [upd_ne (ne_of_none e h2)]; exact h.dis b v e
  · obtain ⟨w, hw, q⟩ := h.slot i a e
    refine ⟨w, hw, q.mono (fun b v e => by rw [upd_ne (ne_of_none e h1)]; exact e) fun b v ha e1 q1 q2 q3 => ?_⟩
    have ne : b ≠ p := fun z => hs i a e ha (by rw [hw, e1, z])
    rw [upd_ne ne, upd_ne ne]
    exact ⟨q1, q3⟩
theorem upd_id {H : Hp} {p : Addr} {o : HO} (h : H p = some o) : upd H p o = H := by
  funext b
  by_cases hb : b = p
  · subst hb; rw [upd_same, h]
  · rw [upd_ne hb]
theorem same_upd {H : Hp} {p : Addr} {o : HO} (h : H p = none) : Same H (upd H p o) := fun b u e => by rw [upd_ne (ne_of_none e h)]; exact e
/-- the slot i is given a new word -/
theorem StF.set_slot {i : Nat} {a : SV} {w : Option V} (h : StF K mg Fr F s σ H) (hi : i < s.length) (q : Slot K mg Fr F H a w) (ap : a.own = true → ∀ p, w = some (V.ref p) → ∀ (j : Nat) (b : SV), j ≠ i → s[j]? = some b → b.own = true → σ[j]? ≠ some (some (V.ref p))) (hl : ∀ p, (i, p) ∈ Fr.lt → w = some (V.ref p) ∧ a.pin = true) :
    StF K mg Fr F (s.set i a) (σ.set i w) H := by
  have hi' : i < σ.length := by rw [← h.len]; exact hi
  refine ⟨h.sub, h.fr, h.dis, by rw [List.length_set, List.length_set]; exact h.len, fun j b e => ?_, fun j p m => ?_, fun j k b c p e1 e2 o1 o2 q1 q2 => ?_⟩
  · by_cases hj : i = j
    · subst hj
      rw [List.getElem?_set_self hi] at e
      cases e
      exact ⟨w, List.getElem?_set_self hi', q⟩
    · rw [List.getElem?_set_ne hj] at e
      rw [List.getElem?_set_ne hj]
      exact h.slot j b e
  · by_cases hj : i = j
    · subst hj
      obtain ⟨z1, z2⟩ := hl p m
      rw [List.getElem?_set_self hi, List.getElem?_set_self hi', z1]
      exact ⟨rfl, a, rfl, z2⟩
    · rw [List.getElem?_set_ne hj, List.getElem?_set_ne hj]
      exact h.lent j p m
  · by_cases hj : i = j
    · subst hj
      by_cases hk : i = k
      · exact hk
      · rw [List.getElem?_set_self hi] at e1
        rw [List.getElem?_set_self hi'] at q1
        rw [List.getElem?_set_ne hk] at e2 q2
        cases e1
        cases q1
        exact absurd q2 (ap o1 p rfl k c (Ne.symm hk) e2 o2)
    · by_cases hk : i = k
      · subst hk
        rw [List.getElem?_set_self hi] at e2
        rw [List.getElem?_set_self hi'] at q2
        rw [List.getElem?_set_ne hj] at e1 q1
        cases e2
        cases q2
        exact absurd q1 (ap o2 p rfl j b (Ne.symm hj) e1 o1)
      · rw [List.getElem?_set_ne hj] at e1 q1
        rw [List.getElem?_set_ne hk] at e2 q2
        exact h.apart j k b c p e1 e2 o1 o2 q1 q2
/-- a slot that is no lent one -/
theorem StF.not_lent {i : Nat} {a : SV} (h : StF K mg Fr F s σ H) (e : s[i]? = some a) (n : a.pin = false) (p : Addr) (m : (i, p) ∈ Fr.lt) : False := by
  obtain ⟨_, b, z, hb⟩ := h.lent i p m
  rw [e] at z
  cases z
  rw [n] at hb
  cases hb
theorem set_getElem {α : Type} : ∀ {l : List α} {i : Nat} {x : α}, l[i]? = some x → l.set i x = l
  | [], _, _, h => by simp at h
  | _ :: _, 0, _, h => by simp at h; subst h; rfl
  | y :: l, i + 1, x, h => by
    show y :: l.set i x = y :: l
    rw [set_getElem (l := l) (by simpa using h)]
theorem lt_of_get {α : Type} {l : List α} {i : Nat} {x : α} (h : l[i]? = some x) : i < l.length := (List.getElem?_eq_some_iff.mp h).1
/-- the slot i is given another word for the same value -/
theorem StF.re_slot {i : Nat} {a : SV} {w : Option V} (h : StF K mg Fr F s σ H) (hw : σ[i]? = some w) (q : Slot K mg Fr F H a w) (ap : a.own = true → ∀ p, w = some (V.ref p) → ∀ (j : Nat) (b : SV), j ≠ i → s[j]? = some b → b.own = true → σ[j]? ≠ some (some (V.ref p))) (hl : ∀ p, (i, p) ∈ Fr.lt → w = some (V.ref p) ∧ a.pin = true) :
    StF K mg Fr F (s.set i a) σ H := by
  have hi : i < s.length := by rw [h.len]; exact lt_of_get hw
  have z := h.set_slot hi q ap hl
  rw [set_getElem hw] at z
  exact z
end
end PV
/-! PvE: names, operands, operators, tests: what a reading asks follows from what the state is worth. -/
namespace PV
open PySem L2
section
variable {X : Cx} {e : Expr} {t t' : TE}
theorem pe_imp (h : PE X e t) (i : ∀ σ H Q, t' σ H Q → t σ H Q) : PE X e t' := ⟨fun pins s σ H Q I q => h.run pins s σ H Q I (i σ H Q q)⟩
theorem pt_imp {t t' : TT} (h : PT X e t) (i : ∀ σ H Q, t' σ H Q → t σ H Q) : PT X e t' := ⟨fun pins s σ H Q I q => h.run pins s σ H Q I (i σ H Q q)⟩
theorem ps_imp {st : Stmt} {t t' : TS} (h : PS X st t) (i : ∀ D σ H, t' D σ H → t D σ H) : PS X st t' := ⟨fun pins s σ H D I q => h.run pins s σ H D I (i D σ H q)⟩
theorem pss_imp {st : List Stmt} {t t' : TS} (h : PSs X st t) (i : ∀ D σ H, t' D σ H → t D σ H) : PSs X st t' := ⟨fun pins s σ H D I q => h.run pins s σ H D I (i D σ H q)⟩
theorem pi_imp {tg : Expr} {t t' : TI} (h : PI X tg e t) (i : ∀ σ H Q, t' σ H Q → t σ H Q) : PI X tg e t' := ⟨fun pins s σ H Q I q => h.run pins s σ H Q I (i σ H Q q)⟩
/-- behind an expression a thing may be locked -/
def tPost (t : TE) : TE := fun σ H Q => t σ H fun v H1 => Q v H1 ∨ ∃ d u, H1 d = some u ∧ Mut (some u) ∧ ∀ od, Q v (upd H1 d (.frz od u))
theorem pe_post (h : PE X e t) : PE X e (tPost t) := by
  refine ⟨fun pins s σ H Q I q => ?_⟩
  refine thn (h.run pins s σ H _ I q) fun v s1 ⟨x, H1, I1, r, q1⟩ => ?_
  rcases q1 with q1 | ⟨d, u, hd, mu, q1⟩
  · exact ⟨x, H1, I1, r, q1⟩
  · obtain ⟨od, I2⟩ := I1.lock hd mu
    exact ⟨x, _, I2, r, q1 od⟩
end
abbrev PX (X : Cx) (e : Expr) (m : XM) : Prop := PE X e (tO X.K X.mg m)
abbrev PTt (X : Cx) (e : Expr) (m : TM) : Prop := PT X e (tM X.K X.mg m)
abbrev PSt (X : Cx) (st : Stmt) (m : MS) : Prop := PS X st (tS X.K X.mg m)
abbrev PSts (X : Cx) (st : List Stmt) (m : MS) : Prop := PSs X st (tS X.K X.mg m)
section
variable {K : PySem.W.Frag} {mg : Str → Option Value} {Fr : Fx} {F H : Hp} {s : List SV} {σ : List (Option V)} {p : Addr} {o : HO} {d : D} {v : V}
theorem rep_lst {ds : List D} {a : Addr} {vs : List V} (h : Rd F a (.lst vs)) (r : Reps K mg F ds vs) : Rep K mg F (.lst ds) (.ref a) := by
  unfold Rep; exact ⟨a, vs, rfl, h, r⟩
theorem rep_tup {ds : List D} {a : Addr} {vs : List V} (h : F a = some (.tup vs)) (r : Reps K mg F ds vs) : Rep K mg F (.tup ds) (.ref a) := by
  unfold Rep; exact ⟨a, vs, rfl, h, r⟩
theorem rep_int {i : Int} : Rep K mg F (.int i) (.int i) := by unfold Rep; rfl
theorem rep_bl {i : Bool} : Rep K mg F (.bl i) (.bl i) := by unfold Rep; rfl
theorem rep_str {i : Str} : Rep K mg F (.str i) (.str i) := by unfold Rep; rfl
theorem rep_non : Rep K mg F .non .non := by unfold Rep; rfl
theorem rep_int' {i : Int} (h : Rep K mg F (.int i) v) : v = .int i := by unfold Rep at h; exact h
theorem rep_bl' {i : Bool} (h : Rep K mg F (.bl i) v) : v = .bl i := by unfold Rep at h; exact h
theorem rep_str' {i : Str} (h : Rep K mg F (.str i) v) : v = .str i := by unfold Rep at h; exact h
theorem rep_non' (h : Rep K mg F .non v) : v = .non := by unfold Rep at h; exact h
/-- an own thing that is frozen: a list as it is, a dict locked -/
theorem sh_cases (h : Sh K mg F d o) : (∃ ds vs, d = .lst ds ∧ o = .lst vs ∧ Reps K mg F ds vs) ∨ (Mut (some o) ∧ ∀ od F', Same F F' → F' p = some (.frz od o) → Rep K mg F' d (.ref p)) := by
  cases d with
  | lst ds => obtain ⟨vs, rfl, h⟩ := h; exact .inl ⟨ds, vs, rfl, rfl, h⟩
  | dK ds => obtain ⟨ws, rfl, h⟩ := h; exact .inr ⟨trivial, fun od F' e q => by unfold Rep; exact ⟨p, od, ws, rfl, q, h.mono e⟩⟩
  | dT ds => obtain ⟨ws, rfl, h⟩ := h; exact .inr ⟨trivial, fun od F' e q => by unfold Rep; exact ⟨p, od, ws, rfl, q, h.mono e⟩⟩
  | _ => exact h.elim
/-- a value that is handed on, frozen -/
theorem AVal.froze {a : AV} (st : StF K mg Fr F s σ H) (h : AVal K mg Fr F H s σ a v) {Q : VK} (q : ∀ F' H', Same F F' → StF K mg Fr F' s σ H' → Rep K mg F' a.d v → Q v H') :
    Q v H ∨ ∃ d u, H d = some u ∧ Mut (some u) ∧ ∀ od, Q v (upd H d (.frz od u)) := by
  cases a with
  | fz d => exact .inl (q F H (Same.refl _) st h)
  | ow d =>
    obtain ⟨p, o, rfl, h1, h2, h3, h4, h5⟩ := h
    rcases sh_cases (p := p) h4 with ⟨ds, vs, rfl, rfl, hr⟩ | ⟨mu, hr⟩
    · have z := st.froze (u := .lst vs) h1 h2 h5
      rw [upd_id h3] at z
      exact .inl (q _ H (same_upd h1) z (rep_lst (.inl upd_same) (hr.mono (same_upd h1))))
    · exact .inr ⟨p, o, h3, mu, fun od => q _ _ (same_upd h1) (st.froze h1 h2 h5) (hr od _ (same_upd h1) upd_same)⟩
end
section
variable {X : Cx} {e : Expr}
/-- a value, frozen -/
theorem pe_F {m : XM} (h : PX X e m) : PE X e (tE X.K X.mg (xF m)) := by
  refine pe_imp (pe_post h) fun σ H Q q => ?_
  obtain ⟨Fr, G, s, d, s', st, em, q⟩ := q
  unfold xF at em
  split at em
  · rename_i a s2 e2
    cases em
    exact ⟨Fr, G, s, a, s', st, e2, fun v F H' e st' av => av.froze st' fun F' H2 e' st2 r => q v F' H2 (e.trans e') st2 r⟩
  · cases em
/-! ### names and constants -/
theorem px_C {d : D} {v : V} (h : PE X e (tC v)) (r : ∀ F, Rep X.K X.mg F d v) : PX X e (xC d) := by
  refine pe_imp h fun σ H Q q => ?_
  obtain ⟨Fr, G, s, d', s', st, em, q⟩ := q
  unfold xC at em
  cases em
  exact q v G H (Same.refl _) st (r G)
theorem px_int {i j pos} : PX X (.Constant (.int i) j pos) (xC (.int i)) := px_C pe_int fun _ => rep_int
theorem px_str {i j pos} : PX X (.Constant (.str i) j pos) (xC (.str i)) := px_C pe_str fun _ => rep_str
theorem px_bl {i j pos} : PX X (.Constant (.bool i) j pos) (xC (.bl i)) := px_C pe_bl fun _ => rep_bl
theorem px_non {j pos} : PX X (.Constant .none j pos) (xC .non) := px_C pe_non fun _ => rep_non
theorem px_V {i : Nat} (h : PE X e (tVar i)) : PX X e (xV i) := by
  refine pe_imp (pe_post h) fun σ H Q q => ?_
  obtain ⟨Fr, G, s, d, s', st, em, q⟩ := q
  unfold xV at em
  split at em
  · rename_i d0 e0
    cases em
    obtain ⟨w, hw, v, rfl, r⟩ := st.slot i _ e0
    exact ⟨v, hw, .inl (q v G H (Same.refl _) st r)⟩
  · rename_i d0 e0
    cases em
    obtain ⟨w, hw, p, o, rfl, h1, h2, h3, h4⟩ := st.slot i _ e0
    refine ⟨_, hw, ?_⟩
    -- the slot's thing becomes frozen
    have go : ∀ u, (∀ F', Same G F' → F' p = some u → Rep X.K X.mg F' d0 (.ref p)) → Q (.ref p) (upd H p u) := fun u hr => by
      have fz : Rep X.K X.mg (upd G p u) d0 (.ref p) := hr _ (same_upd h1) upd_same
      refine q (.ref p) (upd G p u) (upd H p u) (same_upd h1) ?_ fz
      have st1 : StF X.K X.mg Fr G (s.set i .un) σ H := st.re_slot hw trivial (fun z => nomatch z) fun p' m => (st.not_lent e0 rfl p' m).elim
      have st2 := st1.froze (p := p) (u := u) h1 h2 fun j a ej ha hj => by
        by_cases hij : i = j
        · subst hij
          rw [List.getElem?_set_self (lt_of_get e0)] at ej
          cases ej
          cases ha
        · rw [List.getElem?_set_ne hij] at ej
          exact hij (st.apart i j _ a p e0 ej rfl ha hw hj)
      have st3 := st2.re_slot (a := .fz d0) hw ⟨.ref p, rfl, fz⟩ (fun z => nomatch z) fun p' m => (st.not_lent e0 rfl p' m).elim
      rw [List.set_set] at st3
      exact st3
    rcases sh_cases (p := p) h4 with ⟨ds, vs, rfl, rfl, hr⟩ | ⟨mu, hr⟩
    · refine .inl ?_
      have z := go (.lst vs) fun F' e eq => rep_lst (.inl eq) (hr.mono e)
      rw [upd_id h3] at z
      exact z
    · exact .inr ⟨p, o, h3, mu, fun od => go _ fun F' e eq => hr od F' e eq⟩
  · cases em
theorem px_move {i : Nat} (h : PE X e (tVar i)) : PX X e (xMove i) := by
  refine pe_imp h fun σ H Q q => ?_
  obtain ⟨Fr, G, s, d, s', st, em, q⟩ := q
  unfold xMove at em
  split at em
  · rename_i d0 e0
    cases em
    obtain ⟨w, hw, v, rfl, r⟩ := st.slot i _ e0
    exact ⟨v, hw, q v G H (Same.refl _) st r⟩
  · rename_i d0 e0
    cases em
    obtain ⟨w, hw, p, o, rfl, h1, h2, h3, h4⟩ := st.slot i _ e0
    have st1 : StF X.K X.mg Fr G (s.set i .un) σ H := st.re_slot hw trivial (fun z => nomatch z) fun p' m => (st.not_lent e0 rfl p' m).elim
    refine ⟨_, hw, q (.ref p) G H (Same.refl _) st1 ⟨p, o, rfl, h1, h2, h3, h4, fun j a ej ha hj => ?_⟩⟩
    by_cases hij : i = j
    · subst hij
      rw [List.getElem?_set_self (lt_of_get e0)] at ej
      cases ej
      cases ha
    · rw [List.getElem?_set_ne hij] at ej
      exact hij (st.apart i j _ a p e0 ej rfl ha hw hj)
  · cases em
/-! ### operands -/
/-- an own field of an object that is being made -/
def tFj (mg : Str → Option Value) (i : Nat) (C n : Str) (j : Nat) : TE := fun σ H Q => ∃ x Ca dx ws v, σ[i]? = some (some (V.ref x)) ∧ H x = some (.ins Ca dx ws) ∧ mg C = some (.ref Ca) ∧ ws.lookup n = some v ∧ σ[j]? = some (some v) ∧ Q v H
def tRc (K : PySem.W.Frag) (mg : Str → Option Value) : Rc → TE
  | .v i => tVar i
  | .e m => tE K mg (xF m)
  | .f i C n j => tFj mg i C n j
abbrev PRc (X : Cx) (e : Expr) (r : Rc) : Prop := PE X e (tRc X.K X.mg r)
end
section
variable {K : PySem.W.Frag} {mg : Str → Option Value} {Fr : Fx} {F G H : Hp} {s s' : List SV} {σ : List (Option V)} {d : D} {v : V}
/-- what is known of an operand's value until all are there -/
def Pend (K : PySem.W.Frag) (mg : Str → Option Value) (F : Hp) (σ : List (Option V)) (r : Rc) (a : Option D) (v : V) : Prop := match r with
  | .v i => σ[i]? = some (some v)
  | .e _ => ∃ d, a = some d ∧ Rep K mg F d v
  | .f _ _ _ j => σ[j]? = some (some v)
theorem Pend.mono {r : Rc} {a : Option D} {F' : Hp} (h : Pend K mg F σ r a v) (e : Same F F') : Pend K mg F' σ r a v := by
  cases r with
  | v i => exact h
  | e m => obtain ⟨d, e1, r⟩ := h; exact ⟨d, e1, r.mono e⟩
  | f i C n j => exact h
/-- a slot looked at -/
theorem slot_view {i : Nat} {b : SV} (st : StF K mg Fr F s σ H) (eb : s[i]? = some b) (hv : σ[i]? = some (some v)) (e : b.get = some d) : View K mg F H d v := by
  obtain ⟨w, hw, q⟩ := st.slot i b eb
  rw [hv] at hw
  cases hw
  cases b with
  | un => cases e
  | fz d0 => cases e; obtain ⟨v', e', r⟩ := q; cases e'; exact .inl r
  | ow d0 => cases e; obtain ⟨p, o, e', h1, h2, h3, h4⟩ := q; cases e'; exact .inr ⟨p, o, rfl, .inl h3, h4⟩
  | io d0 => cases e; obtain ⟨p, o, e', h1, h2, h3, h4⟩ := q; cases e'; exact .inr ⟨p, o, rfl, .inl h3, h4⟩
  | ob _ _ => cases e
  | lk d0 => cases e; obtain ⟨p, od, o, e', h1, h2⟩ := q; cases e'; exact .inr ⟨p, o, rfl, .inr ⟨od, st.fr _ _ h1⟩, h2⟩
theorem Pend.view {r : Rc} {a : Option D} (st : StF K mg Fr F s σ H) (h : Pend K mg F σ r a v) (e : r.fin a s = some d) : View K mg F H d v := by
  cases r with
  | v i =>
    unfold Rc.fin at e
    simp only at e
    split at e
    · rename_i b eb
      exact slot_view st eb h e
    · cases e
  | f i C n j =>
    unfold Rc.fin at e
    simp only at e
    split at e
    · rename_i b eb
      exact slot_view st eb h e
    · cases e
  | e m =>
    obtain ⟨d0, e0, r⟩ := h
    subst e0
    cases e
    exact .inl r
theorem get_has {i : Nat} {a : SV} (st : StF K mg Fr F s σ H) (eb : s[i]? = some a) (e : a.get = some d) : ∃ w, σ[i]? = some (some w) := by
  obtain ⟨w, hw, q⟩ := st.slot i a eb
  cases a with
  | un => cases e
  | fz d0 => obtain ⟨v', e', r⟩ := q; exact ⟨_, by rw [hw, e']⟩
  | ow d0 => obtain ⟨p, o, e', _⟩ := q; exact ⟨_, by rw [hw, e']⟩
  | io d0 => obtain ⟨p, o, e', _⟩ := q; exact ⟨_, by rw [hw, e']⟩
  | ob _ _ => cases e
  | lk d0 => obtain ⟨p, od, o, e', _⟩ := q; exact ⟨_, by rw [hw, e']⟩
/-- one operand's reading -/
theorem pre_run {r : Rc} {a : Option D} {H0 : Hp} (st : StF K mg Fr G s σ H0) (e : r.pre s = some (a, s')) {R : V → Hp → Prop}
    (q : ∀ v F H', Same G F → StF K mg Fr F s' σ H' → Pend K mg F σ r a v → R v H') : tRc K mg r σ H0 R := by
  cases r with
  | v i =>
    unfold Rc.pre at e
    simp only at e
    split at e
    · rename_i b eb
      split at e
      · rename_i d0 ed
        cases e
        obtain ⟨w, hw⟩ := get_has st eb ed
        exact ⟨w, hw, q w G H0 (Same.refl _) st hw⟩
      · cases e
    · cases e
  | f i C n j =>
    unfold Rc.pre at e
    simp only at e
    split at e
    · rename_i b0 eb0
      split at e
      · rename_i hb
        split at e
        · rename_i b eb
          split at e
          · rename_i d0 ed
            cases e
            obtain ⟨w, hw⟩ := get_has st eb ed
            cases b0 with
            | ob B fl =>
              unfold SV.has at hb
              rw [Bool.and_eq_true, decide_eq_true_eq, decide_eq_true_eq] at hb
              obtain ⟨rfl, hg⟩ := hb
              obtain ⟨w0, hw0, x, Ca, dx, ws, h1, h2, h3, h4⟩ := st.slot i _ eb0
              unfold fdJ at hg
              split at hg
              · rename_i i' eg
                cases hg
                obtain ⟨v, g1, p, rfl, g2⟩ := h4.get n eg
                have g3 := (st.lent j p g2).1
                rw [hw] at g3
                cases g3
                subst h1
                exact ⟨x, Ca, dx, ws, _, hw0, st.fr _ _ h2, h3, g1, hw, q _ G H0 (Same.refl _) st hw⟩
              · cases hg
            | _ => cases hb
          · cases e
        · cases e
      · cases e
    · cases e
  | e m =>
    unfold Rc.pre at e
    simp only at e
    split at e
    · rename_i x s2 e2
      cases e
      exact ⟨Fr, G, s, x.d, s', st, by unfold xF; rw [e2], fun v F H' e' st' r => q v F H' e' st' ⟨x.d, rfl, r⟩⟩
    · cases e
theorem ev1_run {r : Rc} {H0 : Hp} (st : StF K mg Fr G s σ H0) (e : ev1 r s = some (d, s')) {R : V → Hp → Prop}
    (q : ∀ v F H', Same G F → StF K mg Fr F s' σ H' → View K mg F H' d v → R v H') : tRc K mg r σ H0 R := by
  unfold ev1 at e
  split at e
  · rename_i a s1 e1
    split at e
    · rename_i d1 ef
      cases e
      exact pre_run st e1 fun v F H' e' st' pd => q v F H' e' st' (pd.view st' ef)
    · cases e
  · cases e
theorem ev2_run {r t : Rc} {x : D × D} {H0 : Hp} (st : StF K mg Fr G s σ H0) (e : ev2 r t s = some (x, s')) {R : V → V → Hp → Prop}
    (q : ∀ v w F H', Same G F → StF K mg Fr F s' σ H' → View K mg F H' x.1 v → View K mg F H' x.2 w → R v w H') : tRc K mg r σ H0 fun v H1 => tRc K mg t σ H1 fun w H2 => R v w H2 := by
  unfold ev2 at e
  split at e
  · rename_i a s1 e1
    split at e
    · rename_i b s2 e2
      split at e
      · rename_i d1 d2 f1 f2
        cases e
        exact pre_run st e1 fun v F1 H1 k1 st1 p1 => pre_run st1 e2 fun w F2 H2 k2 st2 p2 => q v w F2 H2 (k1.trans k2) st2 ((p1.mono k2).view st2 f1) (p2.view st2 f2)
      · cases e
    · cases e
  · cases e
/-- several operands -/
def PendL (K : PySem.W.Frag) (mg : Str → Option Value) (F : Hp) (σ : List (Option V)) : List Rc → List (Option D) → List V → Prop
  | [], as, vs => as = [] ∧ vs = []
  | r :: rs, as, vs => ∃ a as' v vs', as = a :: as' ∧ vs = v :: vs' ∧ Pend K mg F σ r a v ∧ PendL K mg F σ rs as' vs'
theorem PendL.mono {F' : Hp} (e : Same F F') : ∀ {rs : List Rc} {as : List (Option D)} {vs : List V}, PendL K mg F σ rs as vs → PendL K mg F' σ rs as vs
  | [], _, _, h => h
  | r :: rs, _, _, h => by
    obtain ⟨a, as', v, vs', e1, e2, p, q⟩ := h
    exact ⟨a, as', v, vs', e1, e2, p.mono e, PendL.mono e q⟩
def Views (K : PySem.W.Frag) (mg : Str → Option Value) (F H : Hp) : List D → List V → Prop
  | [], vs => vs = []
  | d :: ds, vs => ∃ v r, vs = v :: r ∧ View K mg F H d v ∧ Views K mg F H ds r
/-- the readings of operands, from the left -/
def tRcs (K : PySem.W.Frag) (mg : Str → Option Value) : List Rc → TA
  | [] => tNil
  | r :: rs => tCons (tRc K mg r) (tRcs K mg rs)
theorem preL_run : ∀ {rs : List Rc} {as : List (Option D)} {s s' : List SV} {G H0 : Hp} (_ : StF K mg Fr G s σ H0) (_ : preL rs s = some (as, s')) {R : List V → Hp → Prop}
    (_ : ∀ vs F H', Same G F → StF K mg Fr F s' σ H' → PendL K mg F σ rs as vs → R vs H'), tRcs K mg rs σ H0 R
  | [], _, _, _, _, _, st, e, R, q => by
    cases e
    exact q [] _ _ (Same.refl _) st ⟨rfl, rfl⟩
  | r :: rs, _, _, _, _, _, st, e, R, q => by
    unfold preL at e
    split at e
    · rename_i a s1 e1
      split at e
      · rename_i as' s2 e2
        cases e
        exact pre_run st e1 fun v F1 H1 k1 st1 p1 => preL_run st1 e2 fun vs F2 H2 k2 st2 p2 => q (v :: vs) F2 H2 (k1.trans k2) st2 ⟨a, as', v, vs, rfl, rfl, p1.mono k2, p2⟩
      · cases e
    · cases e
end
end PV
/-! PvO: operators, built-in functions, displays: each gives what its function of data says. -/
namespace PV
open PySem L2
section
variable {K : PySem.W.Frag} {mg : Str → Option Value} {Fr : Fx} {F H : Hp} {s : List SV} {σ : List (Option V)} {v w : V}
/-! ### what is seen of a view -/
theorem vw_lst {ds : List D} (e : Same F H) (h : View K mg F H (.lst ds) v) : ∃ a vs, v = .ref a ∧ Rd H a (.lst vs) ∧ Reps K mg F ds vs := by
  rcases h with h | ⟨p, o, rfl, hp, vs, rfl, r⟩
  · unfold Rep at h
    obtain ⟨a, vs, rfl, q, r⟩ := h
    exact ⟨a, vs, rfl, rd_mono e q, r⟩
  · exact ⟨p, vs, rfl, hp, r⟩
theorem vw_scr {ns : List Int} (e : Same F H) (h : View K mg F H (.scr ns) v) : ∃ a, v = .ref a ∧ SqL K H a (ns.map V.int) := by
  rcases h with h | ⟨p, o, rfl, hp, z⟩
  · unfold Rep at h
    obtain ⟨a, rfl, q⟩ := h
    exact ⟨a, rfl, e.seq q⟩
  · exact z.elim
theorem vw_ctp {xs : List Str} (h : View K mg F H (.ctp xs) v) : ∃ a, v = .ref a ∧ CT K a xs := by
  rcases h with h | ⟨p, o, rfl, hp, z⟩
  · unfold Rep at h
    exact h
  · exact z.elim
theorem reps_strs : ∀ (ns : List Str), Reps K mg F (ns.map D.str) (ns.map V.str)
  | [] => by unfold Reps; rfl
  | n :: ns => by
    show Reps K mg F (D.str n :: ns.map D.str) (V.str n :: ns.map V.str)
    unfold Reps
    exact ⟨_, _, rfl, rep_str, reps_strs ns⟩
theorem all_flat_strs : ∀ (ns : List Str), (ns.map D.str).all flat = true
  | [] => rfl
  | n :: ns => by rw [List.map_cons, List.all_cons, all_flat_strs ns]; rfl
theorem reps_int : ∀ (ns : List Int), Reps K mg F (ns.map D.int) (ns.map V.int)
  | [] => by unfold Reps; rfl
  | n :: ns => by
    show Reps K mg F (D.int n :: ns.map D.int) (V.int n :: ns.map V.int)
    unfold Reps
    exact ⟨_, _, rfl, rep_int, reps_int ns⟩
theorem vw_tup {ds : List D} (e : Same F H) (h : View K mg F H (.tup ds) v) : ∃ a vs, v = .ref a ∧ H a = some (.tup vs) ∧ Reps K mg F ds vs := by
  rcases h with h | ⟨p, o, rfl, hp, z⟩
  · unfold Rep at h
    obtain ⟨a, vs, rfl, q, r⟩ := h
    exact ⟨a, vs, rfl, e _ _ q, r⟩
  · exact z.elim
theorem vw_tupR {ds : List D} (h : View K mg F H (.tup ds) v) : Rep K mg F (.tup ds) v := by
  rcases h with h | ⟨p, o, rfl, hp, z⟩
  · exact h
  · exact z.elim
theorem vw_dK {ds : List (Key × D)} (e : Same F H) (h : View K mg F H (.dK ds) v) : ∃ a ws, v = .ref a ∧ Rd H a (.dK ws) ∧ RepK K mg F ds ws := by
  rcases h with h | ⟨p, o, rfl, hp, vs, rfl, r⟩
  · unfold Rep at h
    obtain ⟨a, o, vs, rfl, q, r⟩ := h
    exact ⟨a, vs, rfl, .inr ⟨o, e _ _ q⟩, r⟩
  · exact ⟨p, vs, rfl, hp, r⟩
theorem vw_dT {ds : List (List Key × D)} (e : Same F H) (h : View K mg F H (.dT ds) v) : ∃ a ws, v = .ref a ∧ Rd H a (.dT ws) ∧ RepT K mg F ds ws := by
  rcases h with h | ⟨p, o, rfl, hp, vs, rfl, r⟩
  · unfold Rep at h
    obtain ⟨a, o, vs, rfl, q, r⟩ := h
    exact ⟨a, vs, rfl, .inr ⟨o, e _ _ q⟩, r⟩
  · exact ⟨p, vs, rfl, hp, r⟩
theorem vw_int {i : Int} (h : View K mg F H (.int i) v) : v = .int i := by
  rcases h with h | ⟨p, o, _, _, z⟩
  · exact rep_int' h
  · exact z.elim
theorem vw_bl {i : Bool} (h : View K mg F H (.bl i) v) : v = .bl i := by
  rcases h with h | ⟨p, o, _, _, z⟩
  · exact rep_bl' h
  · exact z.elim
theorem vw_str {i : Str} (h : View K mg F H (.str i) v) : v = .str i := by
  rcases h with h | ⟨p, o, _, _, z⟩
  · exact rep_str' h
  · exact z.elim
theorem vw_non (h : View K mg F H .non v) : v = .non := by
  rcases h with h | ⟨p, o, _, _, z⟩
  · exact rep_non' h
  · exact z.elim
theorem vw_ins {C : Str} {fs : List (Str × D)} (e : Same F H) (h : View K mg F H (.ins C fs) v) : ∃ a Ca dx ws, v = .ref a ∧ H a = some (.ins Ca dx ws) ∧ mg C = some (.ref Ca) ∧ RepF K mg F fs ws := by
  rcases h with h | ⟨p, o, _, _, z⟩
  · unfold Rep at h
    obtain ⟨a, Ca, dx, ws, rfl, q, c, r⟩ := h
    exact ⟨a, Ca, dx, ws, rfl, e _ _ q, c, r⟩
  · exact z.elim
theorem Reps.len : ∀ {ds : List D} {vs : List V}, Reps K mg F ds vs → ds.length = vs.length
  | [], vs, h => by unfold Reps at h; subst h; rfl
  | d :: ds, vs, h => by
    unfold Reps at h
    obtain ⟨v, r, rfl, _, h⟩ := h
    rw [List.length_cons, List.length_cons, Reps.len h]
theorem Reps.get : ∀ {ds : List D} {vs : List V} {i : Nat} {d : D}, Reps K mg F ds vs → ds[i]? = some d → ∃ v, vs[i]? = some v ∧ Rep K mg F d v
  | [], vs, i, d, h, e => by simp at e
  | d0 :: ds, vs, 0, d, h, e => by
    unfold Reps at h
    obtain ⟨v, r, rfl, h1, h⟩ := h
    simp at e
    subst e
    exact ⟨v, rfl, h1⟩
  | d0 :: ds, vs, i + 1, d, h, e => by
    unfold Reps at h
    obtain ⟨v, r, rfl, h1, h⟩ := h
    exact Reps.get (i := i) h (by simpa using e)
theorem Reps.app : ∀ {ds es : List D} {vs ws : List V}, Reps K mg F ds vs → Reps K mg F es ws → Reps K mg F (ds ++ es) (vs ++ ws)
  | [], _, vs, _, h, q => by unfold Reps at h; subst h; exact q
  | d :: ds, _, vs, _, h, q => by
    unfold Reps at h
    obtain ⟨v, r, rfl, h1, h⟩ := h
    show Reps K mg F (d :: (ds ++ _)) (v :: (r ++ _))
    unfold Reps
    exact ⟨v, _, rfl, h1, Reps.app h q⟩
theorem reps_nil : Reps K mg F [] [] := by unfold Reps; rfl
theorem reps_cons {d : D} {ds : List D} {vs : List V} (h : Rep K mg F d v) (r : Reps K mg F ds vs) : Reps K mg F (d :: ds) (v :: vs) := by unfold Reps; exact ⟨v, vs, rfl, h, r⟩
theorem Reps.drop : ∀ {ds : List D} {vs : List V} (n : Nat), Reps K mg F ds vs → Reps K mg F (ds.drop n) (vs.drop n)
  | ds, vs, 0, h => h
  | [], vs, n + 1, h => by unfold Reps at h; subst h; exact reps_nil
  | d :: ds, vs, n + 1, h => by
    unfold Reps at h
    obtain ⟨v, r, rfl, h1, h⟩ := h
    exact Reps.drop n h
theorem Reps.take : ∀ {ds : List D} {vs : List V} (n : Nat), Reps K mg F ds vs → Reps K mg F (ds.take n) (vs.take n)
  | ds, vs, 0, h => reps_nil
  | [], vs, n + 1, h => by unfold Reps at h; subst h; exact reps_nil
  | d :: ds, vs, n + 1, h => by
    unfold Reps at h
    obtain ⟨v, r, rfl, h1, h⟩ := h
    exact reps_cons h1 (Reps.take n h)
theorem Reps.set : ∀ {ds : List D} {vs : List V} {d : D} (n : Nat), Reps K mg F ds vs → Rep K mg F d v → Reps K mg F (ds.set n d) (vs.set n v)
  | [], vs, d, n, h, _ => by unfold Reps at h; subst h; exact reps_nil
  | d0 :: ds, vs, d, 0, h, q => by
    unfold Reps at h
    obtain ⟨v, r, rfl, h1, h⟩ := h
    exact reps_cons q h
  | d0 :: ds, vs, d, n + 1, h, q => by
    unfold Reps at h
    obtain ⟨v, r, rfl, h1, h⟩ := h
    exact reps_cons h1 (Reps.set n h q)
theorem Reps.erase : ∀ {ds : List D} {vs : List V} (n : Nat), Reps K mg F ds vs → Reps K mg F (ds.eraseIdx n) (vs.eraseIdx n)
  | [], vs, n, h => by unfold Reps at h; subst h; exact reps_nil
  | d0 :: ds, vs, 0, h => by
    unfold Reps at h
    obtain ⟨v, r, rfl, h1, h⟩ := h
    exact h
  | d0 :: ds, vs, n + 1, h => by
    unfold Reps at h
    obtain ⟨v, r, rfl, h1, h⟩ := h
    exact reps_cons h1 (Reps.erase n h)
theorem Reps.dropLast {ds : List D} {vs : List V} (h : Reps K mg F ds vs) : Reps K mg F ds.dropLast vs.dropLast := by
  rw [List.dropLast_eq_take, List.dropLast_eq_take, ← h.len]
  exact h.take _
/-! ### dicts -/
theorem RepK.len : ∀ {ds : List (Key × D)} {vs : List (Key × V)}, RepK K mg F ds vs → ds.length = vs.length
  | [], vs, h => by unfold RepK at h; subst h; rfl
  | (k, d) :: ds, vs, h => by
    unfold RepK at h
    obtain ⟨v, r, rfl, _, h⟩ := h
    rw [List.length_cons, List.length_cons, RepK.len h]
theorem RepK.val (k : Key) : ∀ {ds : List (Key × D)} {vs : List (Key × V)}, RepK K mg F ds vs → (∃ d v, gv ds k = some d ∧ valV vs k = some v ∧ Rep K mg F d v) ∨ (gv ds k = none ∧ valV vs k = none)
  | [], vs, h => by unfold RepK at h; subst h; exact .inr ⟨rfl, rfl⟩
  | (k0, d) :: ds, vs, h => by
    unfold RepK at h
    obtain ⟨v, r, rfl, h1, h⟩ := h
    by_cases e : k0 = k
    · refine .inl ⟨d, v, ?_, valV_pos e, h1⟩
      unfold gv
      rw [List.find?_cons_of_pos (by simpa using e)]
      rfl
    · have e1 : gv ((k0, d) :: ds) k = gv ds k := by
        unfold gv
        rw [List.find?_cons_of_neg (by simpa using e)]
      rw [e1, valV_neg e]
      exact RepK.val k h
theorem gv_any {κ : Type} [DecidableEq κ] {α : Type} (k : κ) : ∀ kvs : List (κ × α), (kvs.any fun kv => decide (kv.1 = k)) = (gv kvs k).isSome
  | [] => rfl
  | (k0, d) :: ds => by
    rw [List.any_cons, gv_any k ds]
    unfold gv
    by_cases e : k0 = k
    · rw [List.find?_cons_of_pos (by simpa using e), decide_eq_true e]; rfl
    · rw [List.find?_cons_of_neg (by simpa using e), decide_eq_false e]; rfl
theorem RepK.any {ds : List (Key × D)} {vs : List (Key × V)} (k : Key) (h : RepK K mg F ds vs) : (ds.any fun kv => decide (kv.1 = k)) = (vs.any fun kv => decide (kv.1 = k)) := by
  rw [gv_any, valV_any]
  rcases h.val k with ⟨d, v, e1, e2, _⟩ | ⟨e1, e2⟩ <;> rw [e1, e2] <;> rfl
theorem RepK.app : ∀ {ds es : List (Key × D)} {vs ws : List (Key × V)}, RepK K mg F ds vs → RepK K mg F es ws → RepK K mg F (ds ++ es) (vs ++ ws)
  | [], _, vs, _, h, q => by unfold RepK at h; subst h; exact q
  | (k, d) :: ds, _, vs, _, h, q => by
    unfold RepK at h
    obtain ⟨v, r, rfl, h1, h⟩ := h
    show RepK K mg F ((k, d) :: (ds ++ _)) ((k, v) :: (r ++ _))
    unfold RepK
    exact ⟨v, _, rfl, h1, RepK.app h q⟩
theorem repk_nil : RepK K mg F [] [] := by unfold RepK; rfl
theorem repk_cons {k : Key} {d : D} {ds : List (Key × D)} {vs : List (Key × V)} (h : Rep K mg F d v) (r : RepK K mg F ds vs) : RepK K mg F ((k, d) :: ds) ((k, v) :: vs) := by unfold RepK; exact ⟨v, vs, rfl, h, r⟩
theorem RepK.repl (k : Key) {d : D} (hd : Rep K mg F d v) : ∀ {ds : List (Key × D)} {vs : List (Key × V)}, RepK K mg F ds vs → RepK K mg F (ds.map fun kv => if kv.1 = k then (kv.1, d) else kv) (vs.map fun kv => if kv.1 = k then (kv.1, v) else kv)
  | [], vs, h => by unfold RepK at h; subst h; exact repk_nil
  | (k0, d0) :: ds, vs, h => by
    unfold RepK at h
    obtain ⟨v', r, rfl, h1, h⟩ := h
    rw [List.map_cons, List.map_cons]
    by_cases e : k0 = k
    · rw [if_pos e, if_pos e]; exact repk_cons hd (RepK.repl k hd h)
    · rw [if_neg e, if_neg e]; exact repk_cons h1 (RepK.repl k hd h)
theorem RepK.put {ds : List (Key × D)} {vs : List (Key × V)} (k : Key) {d : D} (h : RepK K mg F ds vs) (hd : Rep K mg F d v) : RepK K mg F (gp ds k d) (putK vs k v) := by
  unfold gp putK
  rw [h.any k]
  split
  · exact h.repl k hd
  · exact h.app (repk_cons hd repk_nil)
theorem RepK.keys : ∀ {ds : List (Key × D)} {vs : List (Key × V)}, RepK K mg F ds vs → ds.map (·.1) = vs.map (·.1)
  | [], vs, h => by unfold RepK at h; subst h; rfl
  | (k, d) :: ds, vs, h => by
    unfold RepK at h
    obtain ⟨v, r, rfl, _, h⟩ := h
    rw [List.map_cons, List.map_cons, RepK.keys h]
theorem RepT.len : ∀ {ds : List (List Key × D)} {vs : List (List Key × V)}, RepT K mg F ds vs → ds.length = vs.length
  | [], vs, h => by unfold RepT at h; subst h; rfl
  | (k, d) :: ds, vs, h => by
    unfold RepT at h
    obtain ⟨v, r, rfl, _, h⟩ := h
    rw [List.length_cons, List.length_cons, RepT.len h]
theorem RepT.val (k : List Key) : ∀ {ds : List (List Key × D)} {vs : List (List Key × V)}, RepT K mg F ds vs → (∃ d v, gv ds k = some d ∧ valV vs k = some v ∧ Rep K mg F d v) ∨ (gv ds k = none ∧ valV vs k = none)
  | [], vs, h => by unfold RepT at h; subst h; exact .inr ⟨rfl, rfl⟩
  | (k0, d) :: ds, vs, h => by
    unfold RepT at h
    obtain ⟨v, r, rfl, h1, h⟩ := h
    by_cases e : k0 = k
    · refine .inl ⟨d, v, ?_, valV_pos e, h1⟩
      unfold gv
      rw [List.find?_cons_of_pos (by simpa using e)]
      rfl
    · have e1 : gv ((k0, d) :: ds) k = gv ds k := by
        unfold gv
        rw [List.find?_cons_of_neg (by simpa using e)]
      rw [e1, valV_neg e]
      exact RepT.val k h
theorem RepT.any {ds : List (List Key × D)} {vs : List (List Key × V)} (k : List Key) (h : RepT K mg F ds vs) : (ds.any fun kv => decide (kv.1 = k)) = (vs.any fun kv => decide (kv.1 = k)) := by
  rw [gv_any, valV_any]
  rcases h.val k with ⟨d, v, e1, e2, _⟩ | ⟨e1, e2⟩ <;> rw [e1, e2] <;> rfl
theorem RepT.app : ∀ {ds es : List (List Key × D)} {vs ws : List (List Key × V)}, RepT K mg F ds vs → RepT K mg F es ws → RepT K mg F (ds ++ es) (vs ++ ws)
  | [], _, vs, _, h, q => by unfold RepT at h; subst h; exact q
  | (k, d) :: ds, _, vs, _, h, q => by
    unfold RepT at h
    obtain ⟨v, r, rfl, h1, h⟩ := h
    show RepT K mg F ((k, d) :: (ds ++ _)) ((k, v) :: (r ++ _))
    unfold RepT
    exact ⟨v, _, rfl, h1, RepT.app h q⟩
theorem rept_nil : RepT K mg F [] [] := by unfold RepT; rfl
theorem rept_cons {k : List Key} {d : D} {ds : List (List Key × D)} {vs : List (List Key × V)} (h : Rep K mg F d v) (r : RepT K mg F ds vs) : RepT K mg F ((k, d) :: ds) ((k, v) :: vs) := by unfold RepT; exact ⟨v, vs, rfl, h, r⟩
theorem RepT.repl (k : List Key) {d : D} (hd : Rep K mg F d v) : ∀ {ds : List (List Key × D)} {vs : List (List Key × V)}, RepT K mg F ds vs → RepT K mg F (ds.map fun kv => if kv.1 = k then (kv.1, d) else kv) (vs.map fun kv => if kv.1 = k then (kv.1, v) else kv)
  | [], vs, h => by unfold RepT at h; subst h; exact rept_nil
  | (k0, d0) :: ds, vs, h => by
    unfold RepT at h
    obtain ⟨v', r, rfl, h1, h⟩ := h
    rw [List.map_cons, List.map_cons]
    by_cases e : k0 = k
    · rw [if_pos e, if_pos e]; exact rept_cons hd (RepT.repl k hd h)
    · rw [if_neg e, if_neg e]; exact rept_cons h1 (RepT.repl k hd h)
theorem RepT.put {ds : List (List Key × D)} {vs : List (List Key × V)} (k : List Key) {d : D} (h : RepT K mg F ds vs) (hd : Rep K mg F d v) : RepT K mg F (gp ds k d) (putK vs k v) := by
  unfold gp putK
  rw [h.any k]
  split
  · exact h.repl k hd
  · exact h.app (rept_cons hd rept_nil)
theorem RepT.keys : ∀ {ds : List (List Key × D)} {vs : List (List Key × V)}, RepT K mg F ds vs → ds.map (·.1) = vs.map (·.1)
  | [], vs, h => by unfold RepT at h; subst h; rfl
  | (k, d) :: ds, vs, h => by
    unfold RepT at h
    obtain ⟨v, r, rfl, _, h⟩ := h
    rw [List.map_cons, List.map_cons, RepT.keys h]
theorem rep_kD (k : Key) : Rep K mg F (kD k) (kV k) := by cases k <;> unfold kD Rep kV <;> rfl
theorem rep_key {d : D} {k : Key} (h : Rep K mg F d v) (e : keyOf d = some k) : v = kV k := by
  cases d with
  | int i => cases e; exact rep_int' h
  | str i => cases e; exact rep_str' h
  | _ => cases e
theorem vw_key {d : D} {k : Key} (h : View K mg F H d v) (e : keyOf d = some k) : v = kV k := by
  rcases h with h | ⟨p, o, _, _, z⟩
  · exact rep_key h e
  · cases d with
    | int i => exact z.elim
    | str i => exact z.elim
    | _ => cases e
theorem reps_kD : ∀ (ks : List Key), Reps K mg F (ks.map kD) (ks.map kV)
  | [] => reps_nil
  | k :: ks => reps_cons (rep_kD k) (reps_kD ks)
end
section
variable {K : PySem.W.Frag} {mg : Str → Option Value} {Fr : Fx} {F H : Hp} {s : List SV} {σ : List (Option V)} {v : V}
theorem av_fi {i : Int} : AVal K mg Fr F H s σ (fi i) (.int i) := (rep_int : Rep K mg F _ _)
theorem av_fb {i : Bool} : AVal K mg Fr F H s σ (fb i) (.bl i) := (rep_bl : Rep K mg F _ _)
theorem av_non : AVal K mg Fr F H s σ (.fz .non) .non := (rep_non : Rep K mg F _ _)
theorem av_bl' {i : Bool} (h : AVal K mg Fr F H s σ (.fz (.bl i)) v) : v = .bl i := rep_bl' (show Rep K mg F (.bl i) v from h)
theorem av_fz {d : D} (h : Rep K mg F d v) : AVal K mg Fr F H s σ (.fz d) v := h
end
/-! ### two operands -/
def OpD (X : Cx) (f : D → D → Option AV) (r : R2) : Prop := ∀ {Fr : Fx} {F H : Hp} {s : List SV} {σ : List (Option V)} {a b : D} {c : AV} {x y : V}, StF X.K X.mg Fr F s σ H → f a b = some c → View X.K X.mg F H a x → View X.K X.mg F H b y →
  ∀ Q : VK, (∀ v F' H', Same F F' → StF X.K X.mg Fr F' s σ H' → AVal X.K X.mg Fr F' H' s σ c v → Q v H') → r x y H Q
section
variable {X : Cx} {a b c : Expr} {ra rb rc : Rc} {pos : Pos} {f g : D → D → Option AV} {r r' : R2}
theorem x2_run {σ : L2.St} {H : Hp} {Q : VK} (hd : OpD X f r) (h : tO X.K X.mg (x2 f ra rb) σ H Q) : tRc X.K X.mg ra σ H fun x H1 => tRc X.K X.mg rb σ H1 fun y H2 => r x y H2 Q := by
  obtain ⟨Fr, G, s, d, s', st, em, q⟩ := h
  unfold x2 at em
  split at em
  · rename_i p s1 e1
    obtain ⟨z, e2, e3⟩ := Option.map_eq_some_iff.mp em
    cases e3
    exact ev2_run st e1 fun v w F H' k st' v1 v2 => hd st' e2 v1 v2 Q fun v F' H2 k' st2 av => q v F' H2 (k.trans k') st2 av
  · cases em
theorem px_op {op : Operator} (hr : OpR X (binaryOp op) r) (hd : OpD X f r) (ha : PRc X a ra) (hb : PRc X b rb) : PX X (.BinOp a op b pos) (x2 f ra rb) :=
  pe_imp (pe_op hr ha hb) fun _ _ _ h => x2_run hd h
theorem px_cmp {op : CmpOp} (hr : OpR X (compareOp op) r) (hd : OpD X f r) (ha : PRc X a ra) (hb : PRc X b rb) (hm : behindInMarks op b = false) : PX X (.Compare a [op] [b] pos) (x2 f ra rb) :=
  pe_imp (pe_cmpR hr ha hb hm) fun _ _ _ h => x2_run hd h
/-- a comparison as a test -/
theorem pt_cmp {op : CmpOp} (hr : OpR X (compareOp op) r) (hd : OpD X f r) (ha : PRc X a ra) (hb : PRc X b rb) (hm : behindInMarks op b = false) : PTt X (.Compare a [op] [b] pos) (tB (x2 f ra rb)) := by
  refine pt_imp (pt_cmpR hr ha hb hm) fun σ H Q h => ?_
  obtain ⟨Fr, G, s, d, s', st, em, q⟩ := h
  unfold tB at em
  split at em
  · rename_i k s1 e1
    cases em
    refine x2_run hd ⟨Fr, G, s, _, s', st, e1, fun v F H' k st' av => ⟨d, av_bl' av, q F H' k st'⟩⟩
  · cases em
theorem px_ix (hr : IxR X r) (hd : OpD X f r) (ha : PRc X a ra) (hb : PRc X b rb) (hs : PlainIx b) : PX X (.Subscript a b pos) (x2 f ra rb) :=
  pe_imp (pe_ix hr ha hb hs) fun _ _ _ h => x2_run hd h
theorem opd_II {g : Int → Int → V} {f : D → D → Option AV} {C : Int → Int → Prop} (hf : ∀ a b c, f a b = some c → ∃ i j z, a = .int i ∧ b = .int j ∧ c = .fz z ∧ C i j ∧ ∀ F, Rep X.K X.mg F z (g i j)) : OpD X f (rI C g) := by
  intro Fr F H s σ a b c x y st e vx vy Q q
  obtain ⟨i, j, z, rfl, rfl, rfl, hc, hz⟩ := hf a b c e
  exact ⟨i, j, vw_int vx, vw_int vy, hc, q _ F H (Same.refl _) st (hz F)⟩
theorem opd_I0 {g : Int → Int → V} {f : D → D → Option AV} (hf : ∀ a b c, f a b = some c → ∃ i j z, a = .int i ∧ b = .int j ∧ c = .fz z ∧ ∀ F, Rep X.K X.mg F z (g i j)) : OpD X f (rI0 g) := by
  intro Fr F H s σ a b c x y st e vx vy Q q
  obtain ⟨i, j, z, rfl, rfl, rfl, hz⟩ := hf a b c e
  exact ⟨i, j, vw_int vx, vw_int vy, q _ F H (Same.refl _) st (hz F)⟩
theorem opd_sub : OpD X dSub (rI0 fun i j => .int (i - j)) := opd_I0 fun a b c e => by
  unfold dSub at e
  split at e
  · cases e; exact ⟨_, _, _, rfl, rfl, rfl, fun _ => rep_int⟩
  · cases e
theorem opd_lt : OpD X dLt (rI0 fun i j => .bl (decide (i < j))) := opd_I0 fun a b c e => by
  unfold dLt at e
  split at e
  · cases e; exact ⟨_, _, _, rfl, rfl, rfl, fun _ => rep_bl⟩
  · cases e
theorem opd_le : OpD X dLe (rI0 fun i j => .bl (decide (i ≤ j))) := opd_I0 fun a b c e => by
  unfold dLe at e
  split at e
  · cases e; exact ⟨_, _, _, rfl, rfl, rfl, fun _ => rep_bl⟩
  · cases e
theorem opd_gt : OpD X dGt (rI0 fun i j => .bl (decide (j < i))) := opd_I0 fun a b c e => by
  unfold dGt at e
  split at e
  · cases e; exact ⟨_, _, _, rfl, rfl, rfl, fun _ => rep_bl⟩
  · cases e
theorem opd_ge : OpD X dGe (rI0 fun i j => .bl (decide (j ≤ i))) := opd_I0 fun a b c e => by
  unfold dGe at e
  split at e
  · cases e; exact ⟨_, _, _, rfl, rfl, rfl, fun _ => rep_bl⟩
  · cases e
theorem opd_mod : OpD X dMod (rI (fun _ j => 0 < j) fun i j => .int (i % j)) := opd_II fun a b c e => by
  unfold dMod at e
  split at e
  · split at e
    · rename_i h; cases e; exact ⟨_, _, _, rfl, rfl, rfl, h, fun _ => rep_int⟩
    · cases e
  · cases e
theorem opd_div : OpD X dDiv (rI CDivW fun i j => .int (i / j)) := opd_II fun a b c e => by
  unfold dDiv at e
  split at e
  · split at e
    · rename_i h; cases e; exact ⟨_, _, _, rfl, rfl, rfl, h, fun _ => rep_int⟩
    · cases e
  · cases e
theorem opd_pow : OpD X dPow (rI CPow fun i j => .int (i ^ j.toNat)) := opd_II fun a b c e => by
  unfold dPow at e
  split at e
  · split at e
    · rename_i h; cases e; exact ⟨_, _, _, rfl, rfl, rfl, h, fun _ => rep_int⟩
    · cases e
  · cases e
theorem OpR.or2 {fn : Value → Value → Sem Value} {r r' : R2} (h : OpR X fn r) (h' : OpR X fn r') : OpR X fn (fun x y H Q => r x y H Q ∨ r' x y H Q) := fun pins s σ H x y v u Q I rx ry q => by
  rcases q with q | q
  · exact h pins s σ H x y v u Q I rx ry q
  · exact h' pins s σ H x y v u Q I rx ry q
/-! ### + of lists that are read -/
def rCatS : R2 := fun x y H Q => ∃ l b xs zs, x = .ref l ∧ y = .ref b ∧ Rd H l (.lst xs) ∧ Rd H b (.lst zs) ∧ xs.length + zs.length ≤ SZ ∧ ∀ p, H p = none → Q (.ref p) (upd H p (.lst (xs ++ zs)))
theorem sz_line : SZ = sizeLine := by rw [sizeLine_eq]; rfl
theorem orr_cat : OpR X (binaryOp .Add) rCatS := fun pins s σ H x y v u Q I rx ry h => by
  obtain ⟨l, b, xs, zs, rfl, rfl, hl, hb, hz, q⟩ := h
  cases rx
  cases ry
  obtain ⟨_, its, n1, r1, g1⟩ := hl.ok I.hok
  obtain ⟨_, its2, n2, r2, g2⟩ := hb.ok I.hok
  have l1 := r1.length
  have l2 := r2.length
  have lz : SZ = sizeLine := sz_line
  have ea : its.toArray ++ its2.toArray = (its ++ its2).toArray := by simp
  refine PySem.P.add_list g1 g2 ?_ (by rw [List.size_toArray, List.size_toArray, ← l1, ← l2, ← lz]; exact hz)
  rw [ea]
  refine ⟨.ref _, _, I.laid (t' := s.toks) (o := .lst (xs ++ zs)) (fun b o q => Heap.get?_push_of_some _ q) (Nat.le_refl _) ?_, rfl, q _ (I.hok.fresh (Nat.le_refl _))⟩
  exact ⟨by rw [List.length_append, ← lz]; exact hz, its ++ its2, 0, r1.append r2, Heap.get?_push_size _ rfl⟩
def rAddA (K : PySem.W.Frag) : R2 := fun x y H Q => (rI0 (fun i j => V.int (i + j)) x y H Q ∨ rCatS x y H Q) ∨ rCatA K x y H Q
theorem orr_add : OpR X (binaryOp .Add) (rAddA X.K) := OpR.or2 (OpR.or2 op_add orr_cat) op_catA
/-- a new list that nobody has yet -/
theorem new_lst {Fr : Fx} {F H : Hp} {s : List SV} {σ : List (Option V)} {ds : List D} {vs : List V} (st : StF X.K X.mg Fr F s σ H) (hr : Reps X.K X.mg F ds vs) {Q : VK}
    (q : ∀ v F' H', Same F F' → StF X.K X.mg Fr F' s σ H' → AVal X.K X.mg Fr F' H' s σ (.ow (.lst ds)) v → Q v H') : ∀ p, H p = none → Q (.ref p) (upd H p (.lst vs)) :=
  fun p hp => q _ F _ (Same.refl _) (st.new hp) (st.avNew hp ⟨vs, rfl, hr⟩)
theorem new_tup {Fr : Fx} {F H : Hp} {s : List SV} {σ : List (Option V)} {ds : List D} {vs : List V} (st : StF X.K X.mg Fr F s σ H) (hr : Reps X.K X.mg F ds vs) {Q : VK}
    (q : ∀ v F' H', Same F F' → StF X.K X.mg Fr F' s σ H' → AVal X.K X.mg Fr F' H' s σ (.fz (.tup ds)) v → Q v H') : ∀ p, H p = none → Q (.ref p) (upd H p (.tup vs)) :=
  fun p hp => q _ _ _ (same_upd (st.sub.free hp)) (st.laid hp) (av_fz (rep_tup upd_same (hr.mono (same_upd (st.sub.free hp)))))
/-! ### a list times a number -/
def rRepS : R2 := fun x y H Q => ∃ l k xs, x = .ref l ∧ y = .int k ∧ Rd H l (.lst xs) ∧ 0 ≤ k ∧ k < 2 ^ 31 ∧ xs.length * k.toNat ≤ SZ ∧ ∀ p, H p = none → Q (.ref p) (upd H p (.lst (List.replicate k.toNat xs).flatten))
theorem orr_rep : OpR X (binaryOp .Mult) rRepS := fun pins s σ H x y v u Q I rx ry h => by
  obtain ⟨l, k, xs, rfl, rfl, hl, k0, k1, hz, q⟩ := h
  cases rx
  obtain ⟨t, rfl⟩ := ry
  obtain ⟨_, its, n1, r1, g1⟩ := hl.ok I.hok
  have l1 := r1.length
  have z1 : its.toArray.size * k.toNat ≤ 16777216 := by
    rw [List.size_toArray, ← l1]
    exact hz
  have a1 : (!Builtin.List.listFitsIndex k) ≠ true := by simp [Builtin.List.listFitsIndex]; omega
  have call1 := lm_list_mul_any l its.toArray n1 none #[] k t a1 (by omega) (by simp [Builtin.List.listTooLong, sizeLine]; omega)
  have call2 := lm_int_rmul_list_any k t l its.toArray n1 none #[]
  refine wpAny_binaryOp_repeat_ref (U := "int") (T := "list") (by decide) ⟨_, g1, rfl⟩ (fun z => typeIs_int z k t) noFill_list_mul F.fills_int_mul F.slot_int_rmul repeat_list F.slot_int_index.lookup ?_
  refine call_meets F.slot_int_rmul (typeIs_int s k t) F.entry_int_rmul (F.args_int_rmul_2 _ _) call2 ⟨g1, rfl, ⟨_, g1, rfl⟩, ?_⟩
  refine call_meets F.slot_list_mul ⟨_, g1, rfl⟩ F.entry_list_mul (F.args_list_mul_2 _ _) call1 ⟨g1, ?_⟩
  have fold : ∀ m : Nat, List.foldl (fun x1 x2 => x1 ++ x2) #[] (List.replicate m its.toArray) = (List.replicate m its).flatten.toArray := fun m => by
    have w := foldl_rep its m []
    rw [List.nil_append] at w
    exact w
  have fold2 : List.foldl (fun x1 x2 => x1 ++ x2) #[] (List.replicate (if its.toArray.isEmpty = true then 0 else k.toNat) its.toArray) = (List.replicate k.toNat its).flatten.toArray := by
    rw [fold]
    cases its with
    | nil => simp
    | cons a r' => rw [if_neg (by simp)]
  rw [fold2]
  refine ⟨.ref _, _, I.laid (t' := s.toks) (o := .lst (List.replicate k.toNat xs).flatten) (fun b o w => Heap.get?_push_of_some _ w) (Nat.le_refl _) ?_, rfl, q _ (I.hok.fresh (Nat.le_refl _))⟩
  exact ⟨by rw [PyProof.Rows.lm_len_rep_flat, Nat.mul_comm, ← sz_line]; exact hz, (List.replicate k.toNat its).flatten, 0, r1.rep k.toNat, Heap.get?_push_size _ rfl⟩
theorem reps_rep {K : PySem.W.Frag} {mg : Str → Option Value} {F : Hp} {ds : List D} {vs : List V} (r : Reps K mg F ds vs) : ∀ n : Nat, Reps K mg F (List.replicate n ds).flatten (List.replicate n vs).flatten
  | 0 => by unfold Reps; rfl
  | n + 1 => by
    rw [List.replicate_succ, List.replicate_succ, List.flatten_cons, List.flatten_cons]
    exact r.app (reps_rep r n)
def rMulA : R2 := fun x y H Q => (rI CMulW (fun i j => V.int (i * j)) x y H Q ∨ rI CMul (fun i j => V.int (i * j)) x y H Q) ∨ rRepS x y H Q
theorem orr_mul : OpR X (binaryOp .Mult) rMulA := OpR.or2 (OpR.or2 op_mulW op_mul) orr_rep
theorem opd_mul : OpD X dMul rMulA := by
  intro Fr F H s σ a b c x y st e vx vy Q q
  unfold dMul at e
  split at e
  · split at e
    · rename_i i j h
      cases e
      rcases h with h | h
      · exact .inl (.inl ⟨i, j, vw_int vx, vw_int vy, h, q _ F H (Same.refl _) st av_fi⟩)
      · exact .inl (.inr ⟨i, j, vw_int vx, vw_int vy, h, q _ F H (Same.refl _) st av_fi⟩)
    · cases e
  · split at e
    · rename_i ds k hz
      cases e
      obtain ⟨l, vs, rfl, hl, r1⟩ := vw_lst st.sub vx
      exact .inr ⟨l, k, vs, rfl, vw_int vy, hl, hz.1, hz.2.1, by rw [← r1.len]; exact hz.2.2, new_lst st (reps_rep r1 _) q⟩
    · cases e
  · cases e
theorem opd_add : OpD X dAdd (rAddA X.K) := by
  intro Fr F H s σ a b c x y st e vx vy Q q
  unfold dAdd at e
  split at e
  · cases e
    exact .inl (.inl ⟨_, _, vw_int vx, vw_int vy, q _ F H (Same.refl _) st av_fi⟩)
  · split at e
    · rename_i hz
      cases e
      obtain ⟨l, vs, rfl, hl, r1⟩ := vw_lst st.sub vx
      obtain ⟨l2, ws, rfl, hl2, r2⟩ := vw_lst st.sub vy
      exact .inl (.inr ⟨l, l2, vs, ws, rfl, rfl, hl, hl2, by rw [← r1.len, ← r2.len]; exact hz, new_lst st (r1.app r2) q⟩)
    · cases e
  · split at e
    · rename_i hz
      cases e
      obtain ⟨l, vs, rfl, hl, r1⟩ := vw_tup st.sub vx
      obtain ⟨l2, ws, rfl, hl2, r2⟩ := vw_tup st.sub vy
      have n1 := r1.len
      have n2 := r2.len
      refine .inr ⟨l, l2, vs, ws, rfl, rfl, .of hl, .of hl2, by rw [← n1, ← n2, ← sz_line]; exact hz, fun ev => ?_, fun _ ew => ?_, fun _ _ => new_tup st (r1.app r2) q⟩
      · subst ev
        have : _ = [] := List.eq_nil_of_length_eq_zero n1
        subst this
        exact q _ F H (Same.refl _) st (av_fz (vw_tupR vy))
      · subst ew
        have : _ = [] := List.eq_nil_of_length_eq_zero n2
        subst this
        rw [List.append_nil] at q
        exact q _ F H (Same.refl _) st (av_fz (vw_tupR vx))
    · cases e
  · cases e
end
end PV
/-! PvP: ==, in, subscripts, None. -/
namespace PV
open PySem L2
/-! ### data without dicts, compared -/
mutual
def toPy : D → PyData
  | .non => .none
  | .bl b => .bool b
  | .int i => .int i
  | .str x => .str x
  | .lst xs => .list (toPyL xs)
  | .tup xs => .tuple (toPyL xs)
  | .dK _ => .dict []
  | .dT _ => .dict []
  | .ins _ _ => .dict []
  | .scr _ => .dict []
  | .ctp _ => .dict []
def toPyL : List D → List PyData
  | [] => []
  | x :: xs => toPy x :: toPyL xs
end
section
variable {K : PySem.W.Frag} {mg : Str → Option Value} {F H : Hp} {v : V}
mutual
theorem rep_dp : ∀ (n : Nat) (d : D) (v : V), pln n d = true → Same F H → Rep K mg F d v → Dp K H v (toPy d)
  | _, .non, v, _, _, h => by rw [rep_non' h]; unfold toPy; exact Dp.non
  | _, .bl b, v, _, _, h => by rw [rep_bl' h]; unfold toPy; exact Dp.bl b
  | _, .int b, v, _, _, h => by rw [rep_int' h]; unfold toPy; exact Dp.int b
  | _, .str b, v, _, _, h => by rw [rep_str' h]; unfold toPy; exact Dp.str b
  | n + 1, .lst xs, v, p, e, h => by
    unfold Rep at h
    obtain ⟨a, vs, rfl, q, r⟩ := h
    unfold pln at p
    unfold toPy
    exact Dp.lst (.inl (rd_mono e q)) (reps_dp n xs vs p e r)
  | n + 1, .tup xs, v, p, e, h => by
    unfold Rep at h
    obtain ⟨a, vs, rfl, q, r⟩ := h
    unfold pln at p
    unfold toPy
    exact Dp.tup (.inl (.inl (e _ _ q))) (reps_dp n xs vs p e r)
  | 0, .lst xs, v, p, e, h => by unfold pln at p; cases p
  | 0, .tup xs, v, p, e, h => by unfold pln at p; cases p
  | n, .dK _, v, p, e, h => by cases n <;> (unfold pln at p; cases p)
  | n, .dT _, v, p, e, h => by cases n <;> (unfold pln at p; cases p)
  | n, .ins _ _, v, p, e, h => by cases n <;> (unfold pln at p; cases p)
theorem reps_dp : ∀ (n : Nat) (ds : List D) (vs : List V), plnL n ds = true → Same F H → Reps K mg F ds vs → DpAll K H vs (toPyL ds)
  | _, [], vs, _, _, h => by unfold Reps at h; subst h; unfold toPyL; exact DpAll.nil
  | n, d :: ds, vs, p, e, h => by
    unfold Reps at h
    obtain ⟨v, r, rfl, h1, h2⟩ := h
    unfold plnL at p
    rw [Bool.and_eq_true] at p
    unfold toPyL
    exact DpAll.cons (rep_dp n d v p.1 e h1) (reps_dp n ds r p.2 e h2)
end
theorem vw_dp {n : Nat} {d : D} (p : pln (n + 1) d = true) (e : Same F H) (h : View K mg F H d v) : Dp K H v (toPy d) := by
  rcases h with h | ⟨q, o, rfl, hq, h⟩
  · exact rep_dp _ d v p e h
  · cases d with
    | lst ds =>
      obtain ⟨vs, rfl, r⟩ := h
      unfold pln at p
      unfold toPy
      exact Dp.lst (.inl (hq)) (reps_dp n ds vs p e r)
    | dK _ => unfold pln at p; cases p
    | dT _ => unfold pln at p; cases p
    | _ => exact h.elim
end
mutual
theorem toPy_lay : ∀ (n : Nat) (d : D), pln n d = true → (toPy d).canLay0 = true ∧ (toPy d).depth ≤ n
  | _, .non, _ => by unfold toPy PyData.canLay0 PyData.depth; exact ⟨rfl, Nat.zero_le _⟩
  | _, .bl b, _ => by unfold toPy PyData.canLay0 PyData.depth; exact ⟨rfl, Nat.zero_le _⟩
  | _, .int b, _ => by unfold toPy PyData.canLay0 PyData.depth; exact ⟨rfl, Nat.zero_le _⟩
  | n, .str b, p => by
    unfold toPy PyData.canLay0 PyData.depth
    refine ⟨?_, Nat.zero_le _⟩
    cases n <;> (unfold pln at p; exact p)
  | n + 1, .lst xs, p => by
    unfold pln at p
    unfold toPy PyData.canLay0 PyData.depth
    have z := toPyL_lay n xs p
    exact ⟨z.1, Nat.succ_le_succ z.2⟩
  | n + 1, .tup xs, p => by
    unfold pln at p
    unfold toPy PyData.canLay0 PyData.depth
    have z := toPyL_lay n xs p
    exact ⟨z.1, Nat.succ_le_succ z.2⟩
  | 0, .lst xs, p => by unfold pln at p; cases p
  | 0, .tup xs, p => by unfold pln at p; cases p
  | n, .dK _, p => by cases n <;> (unfold pln at p; cases p)
  | n, .dT _, p => by cases n <;> (unfold pln at p; cases p)
  | n, .ins _ _, p => by cases n <;> (unfold pln at p; cases p)
theorem toPyL_lay : ∀ (n : Nat) (ds : List D), plnL n ds = true → PyData.canLayAll0 (toPyL ds) = true ∧ PyData.depthAll (toPyL ds) ≤ n
  | _, [], _ => by unfold toPyL PyData.canLayAll0 PyData.depthAll; exact ⟨rfl, Nat.zero_le _⟩
  | n, d :: ds, p => by
    unfold plnL at p
    rw [Bool.and_eq_true] at p
    have z1 := toPy_lay n d p.1
    have z2 := toPyL_lay n ds p.2
    unfold toPyL PyData.canLayAll0 PyData.depthAll
    exact ⟨by rw [z1.1, z2.1]; rfl, Nat.max_le.mpr ⟨z1.2, z2.2⟩⟩
end
mutual
theorem eqv_py : ∀ (d e : D) (m n : Nat), pln m d = true → pln n e = true → PyData.eqv (toPy d) (toPy e) = eqv d e := by
  intro d e m n p q
  cases d with
  | lst xs =>
    cases e with
    | lst ys =>
      cases m with
      | zero => unfold pln at p; cases p
      | succ m =>
        cases n with
        | zero => unfold pln at q; cases q
        | succ n =>
          unfold pln at p q
          unfold toPy PyData.eqv eqv
          exact eqvL_py xs ys m n p q
    | dK _ => cases n <;> (unfold pln at q; cases q)
    | dT _ => cases n <;> (unfold pln at q; cases q)
    | ins _ _ => cases n <;> (unfold pln at q; cases q)
    | scr _ => cases n <;> (unfold pln at q; cases q)
    | ctp _ => cases n <;> (unfold pln at q; cases q)
    | _ => unfold toPy PyData.eqv eqv; rfl
  | tup xs =>
    cases e with
    | tup ys =>
      cases m with
      | zero => unfold pln at p; cases p
      | succ m =>
        cases n with
        | zero => unfold pln at q; cases q
        | succ n =>
          unfold pln at p q
          unfold toPy PyData.eqv eqv
          exact eqvL_py xs ys m n p q
    | dK _ => cases n <;> (unfold pln at q; cases q)
    | dT _ => cases n <;> (unfold pln at q; cases q)
    | ins _ _ => cases n <;> (unfold pln at q; cases q)
    | scr _ => cases n <;> (unfold pln at q; cases q)
    | ctp _ => cases n <;> (unfold pln at q; cases q)
    | _ => unfold toPy PyData.eqv eqv; rfl
  | dK _ => cases m <;> (unfold pln at p; cases p)
  | dT _ => cases m <;> (unfold pln at p; cases p)
  | ins _ _ => cases m <;> (unfold pln at p; cases p)
  | scr _ => cases m <;> (unfold pln at p; cases p)
  | ctp _ => cases m <;> (unfold pln at p; cases p)
  | _ =>
    cases e with
    | dK _ => cases n <;> (unfold pln at q; cases q)
    | dT _ => cases n <;> (unfold pln at q; cases q)
    | ins _ _ => cases n <;> (unfold pln at q; cases q)
    | scr _ => cases n <;> (unfold pln at q; cases q)
    | ctp _ => cases n <;> (unfold pln at q; cases q)
    | _ => unfold toPy PyData.eqv eqv; rfl
theorem eqvL_py : ∀ (ds es : List D) (m n : Nat), plnL m ds = true → plnL n es = true → PyData.eqvAll (toPyL ds) (toPyL es) = eqvL ds es := by
  intro ds es m n p q
  cases ds with
  | nil =>
    cases es with
    | nil => unfold toPyL PyData.eqvAll eqvL; rfl
    | cons y ys => unfold toPyL PyData.eqvAll eqvL; rfl
  | cons x xs =>
    cases es with
    | nil => unfold toPyL PyData.eqvAll eqvL; rfl
    | cons y ys =>
      unfold plnL at p q
      rw [Bool.and_eq_true] at p q
      unfold toPyL PyData.eqvAll eqvL
      rw [eqv_py x y m n p.1 q.1, eqvL_py xs ys m n p.2 q.2]
end
theorem shaped_of {d : D} (p : pln 60 d = true) : SeqAt.shaped (toPy d) = true := by
  have z := toPy_lay 60 d p
  unfold SeqAt.shaped
  rw [z.1, decide_eq_true (Nat.le_trans z.2 (by decide))]
  rfl
/-! ### flat data -/
section
variable {K : PySem.W.Frag} {mg : Str → Option Value} {F H : Hp} {v : V}
def flatW : D → V
  | .non => .non
  | .bl b => .bl b
  | .int i => .int i
  | .str x => .str x
  | _ => .non
theorem rep_flat {d : D} (f : flat d = true) (h : Rep K mg F d v) : v = flatW d ∧ flatV v = true := by
  cases d with
  | non => rw [rep_non' h]; exact ⟨rfl, rfl⟩
  | bl b => rw [rep_bl' h]; exact ⟨rfl, rfl⟩
  | int b => rw [rep_int' h]; exact ⟨rfl, rfl⟩
  | str b => rw [rep_str' h]; exact ⟨rfl, rfl⟩
  | _ => cases f
theorem vw_flat {d : D} (f : flat d = true) (h : View K mg F H d v) : Rep K mg F d v := by
  rcases h with h | ⟨q, o, rfl, hq, h⟩
  · exact h
  · cases d with
    | lst _ => cases f
    | dK _ => cases f
    | dT _ => cases f
    | _ => exact h.elim
theorem eqV_flat {d e : D} (f : flat d = true) (g : flat e = true) : eqV (flatW d) (flatW e) = eqv d e := by
  cases d with
  | lst _ => cases f
  | tup _ => cases f
  | dK _ => cases f
  | dT _ => cases f
  | ins _ _ => cases f
  | scr _ => cases f
  | ctp _ => cases f
  | _ =>
    cases e with
    | lst _ => cases g
    | tup _ => cases g
    | dK _ => cases g
    | dT _ => cases g
    | ins _ _ => cases g
    | scr _ => cases g
    | ctp _ => cases g
    | _ => unfold eqv; rfl
theorem reps_flat {x : D} (fx : flat x = true) : ∀ {ds : List D} {vs : List V}, ds.all flat = true → Reps K mg F ds vs → vs.all flatV = true ∧ inV (flatW x) vs = ds.any fun y => eqv y x
  | [], vs, _, h => by unfold Reps at h; subst h; exact ⟨rfl, rfl⟩
  | d :: ds, vs, f, h => by
    unfold Reps at h
    obtain ⟨v, r, rfl, h1, h2⟩ := h
    rw [List.all_cons, Bool.and_eq_true] at f
    obtain ⟨e1, e2⟩ := rep_flat f.1 h1
    obtain ⟨e3, e4⟩ := reps_flat fx f.2 h2
    refine ⟨by rw [List.all_cons, e2, e3]; rfl, ?_⟩
    unfold inV at e4 ⊢
    rw [List.any_cons, List.any_cons, e4, e1, eqV_flat f.1 fx]
end
/-! ### dicts of flat values, compared -/
section
variable {X : Cx} {pins : List (Addr × Obj)} {σ : L2.St} {H F : Hp} {s : Shared} {mg : Str → Option Value}
theorem keq_flat {A : Around} {ls : List (Key × D)} {wl : List (Key × V)} {vb : List (Key × Value)} (fl : (ls.all fun p => flat p.2) = true) (rl : RepK X.K mg F ls wl) (rb : KV wl vb) :
    ∀ {ks : List (Key × D)} {wk : List (Key × V)} {va : List (Key × Value)}, (ks.all fun p => flat p.2) = true → RepK X.K mg F ks wk → KV wk va →
      PySem.W.KeqHits A s vb va (ks.all fun p => match gv ls p.1 with | some d => eqv p.2 d | none => false)
  | [], wk, va, _, h, r => by
    unfold RepK at h
    subst h
    cases r
    exact .nil
  | (k, d) :: ks, wk, va, f, h, r => by
    unfold RepK at h
    obtain ⟨v, r', rfl, h1, h2⟩ := h
    cases r with
    | @cons _ q _ qs hq ht =>
      obtain ⟨k', u⟩ := q
      obtain ⟨e1, ru⟩ := hq
      have e1 : k = k' := e1
      subst e1
      rw [List.all_cons, Bool.and_eq_true] at f
      rw [List.all_cons]
      have rest := keq_flat (A := A) fl rl rb f.2 h2 ht
      rcases rl.val k with ⟨d', v', g1, g2, g3⟩ | ⟨g1, g2⟩
      · have rr : RelO (some v') (valueAt vb k) := by rw [← g2]; exact rb.val k
        obtain ⟨y, hy, ry⟩ := rr.some_of
        have fd : flat d' = true := by
          have : (k, d') ∈ ls := by
            unfold gv at g1
            obtain ⟨p, hp, hp2⟩ := Option.map_eq_some_iff.mp g1
            have hm := List.mem_of_find?_eq_some hp
            have hk := List.find?_some hp
            simp only [decide_eq_true_eq] at hk
            obtain ⟨p1, p2⟩ := p
            simp only at hk hp2
            subst hk hp2
            exact hm
          exact (List.all_eq_true.mp fl) _ this
        simp only [g1]
        refine .hit hy ?_ rest
        obtain ⟨z1, z2⟩ := rep_flat f.1 h1
        obtain ⟨z3, z4⟩ := rep_flat fd g3
        have q := eqAt_V (A := A) (s := s) ru ry z2 z4
        rw [z1, z3, eqV_flat f.1 fd] at q
        exact q
      · have rr : RelO none (valueAt vb k) := by rw [← g2]; exact rb.val k
        have hn : valueAt vb k = none := by
          cases e : valueAt vb k with
          | none => rfl
          | some y => rw [e] at rr; exact rr.elim
        simp only [g1]
        rw [Bool.false_and]
        exact .miss hn
end
section
variable {X : Cx}
def rDictEq (X : Cx) (neg : Bool) : R2 := fun x y H Q => ∃ F a b ks ls wk wl, x = .ref a ∧ y = .ref b ∧ Rd H a (.dK wk) ∧ Rd H b (.dK wl) ∧ RepK X.K X.mg F ks wk ∧ RepK X.K X.mg F ls wl ∧ (ks.all fun p => flat p.2) = true ∧ (ls.all fun p => flat p.2) = true ∧
  Q (.bl (if neg then !eqK ks ls else eqK ks ls)) H
theorem len_beq {α β : Type} {a : List α} {b : List β} : (a.length == b.length) = decide (a.length = b.length) := by
  by_cases h : a.length = b.length
  · rw [h]; simp
  · simp [h]
theorem orr_deq (hu : X.A.units < cLine) : OpR X (compareOp .Eq) (rDictEq X false) := fun pins s σ H x y v u Q I rx ry h => by
  obtain ⟨F, a, b, ks, ls, wk, wl, rfl, rfl, ha, hb, r1, r2, f1, f2, q⟩ := h
  cases rx
  cases ry
  obtain ⟨_, ya, va, ra, da⟩ := dk_rd I.hok ha
  obtain ⟨_, yb, vb, rb, db⟩ := dk_rd I.hok hb
  refine PySem.W.keq_eq (knd := mixKind X.prog X.w) ya yb da db hu (fun _ => keq_flat f2 r2 rb f1 r1 ra) ⟨.bl _, H, I, rfl, ?_⟩
  have e : (va.length == vb.length) = decide (ks.length = ls.length) := by rw [len_beq, ← ra.length, ← rb.length, ← r1.len, ← r2.len]
  rw [e]
  exact q
theorem orr_dne (hu : X.A.units < cLine) : OpR X (compareOp .NotEq) (rDictEq X true) := fun pins s σ H x y v u Q I rx ry h => by
  obtain ⟨F, a, b, ks, ls, wk, wl, rfl, rfl, ha, hb, r1, r2, f1, f2, q⟩ := h
  cases rx
  cases ry
  obtain ⟨_, ya, va, ra, da⟩ := dk_rd I.hok ha
  obtain ⟨_, yb, vb, rb, db⟩ := dk_rd I.hok hb
  refine PySem.W.keq_ne (knd := mixKind X.prog X.w) ya yb da db hu (fun _ => keq_flat f2 r2 rb f1 r1 ra) ⟨.bl _, H, I, rfl, ?_⟩
  have e : (va.length == vb.length) = decide (ks.length = ls.length) := by rw [len_beq, ← ra.length, ← rb.length, ← r1.len, ← r2.len]
  rw [e]
  exact q
/-- lists of different length: their items are not asked -/
def rLenNe (X : Cx) (neg : Bool) : R2 := fun x y H Q => ∃ a b vs ws, x = .ref a ∧ y = .ref b ∧ SqL X.K H a vs ∧ SqL X.K H b ws ∧ vs.length ≠ ws.length ∧ Q (.bl neg) H
theorem orr_len (hu : X.A.units < cLine) : OpR X (compareOp .Eq) (rLenNe X false) := fun pins s σ H x y v u Q I rx ry h => by
  obtain ⟨a, b, vs, ws, rfl, rfl, ha, hb, hl, q⟩ := h
  cases rx
  cases ry
  obtain ⟨i1, r1, p1, _⟩ := I.list ha
  obtain ⟨i2, r2, p2, _⟩ := I.list hb
  have l1 := r1.length
  have l2 := r2.length
  exact PySem.SeqAt.RcAt.lists_lengths p1.isList p2.isList (by simp only [List.size_toArray, bne_iff_ne]; omega) hu _ _ _ _ ⟨.bl false, H, I, rfl, q⟩
theorem orr_lenN (hu : X.A.units < cLine) : OpR X (compareOp .NotEq) (rLenNe X true) := fun pins s σ H x y v u Q I rx ry h => by
  obtain ⟨a, b, vs, ws, rfl, rfl, ha, hb, hl, q⟩ := h
  cases rx
  cases ry
  obtain ⟨i1, r1, p1, _⟩ := I.list ha
  obtain ⟨i2, r2, p2, _⟩ := I.list hb
  have l1 := r1.length
  have l2 := r2.length
  exact PySem.SeqAt.RcNeAt.lists_lengths p1.isList p2.isList (by simp only [List.size_toArray, bne_iff_ne]; omega) hu _ _ _ _ ⟨.bl true, H, I, rfl, q⟩
def rEqA (X : Cx) : R2 := fun x y H Q => rEqD X.K x y H Q ∨ rDictEq X false x y H Q ∨ rLenNe X false x y H Q
def rNeA (X : Cx) : R2 := fun x y H Q => rNeD X.K x y H Q ∨ rDictEq X true x y H Q ∨ rLenNe X true x y H Q
theorem huLt (hu : X.A.units + 64 < cLine) : X.A.units < cLine := Nat.lt_of_le_of_lt (Nat.le_add_right _ _) hu
theorem orr_eq (hu : X.A.units + 64 < cLine) : OpR X (compareOp .Eq) (rEqA X) := OpR.or2 (op_eqD hu) (OpR.or2 (orr_deq (huLt hu)) (orr_len (huLt hu)))
theorem orr_ne (hu : X.A.units + 64 < cLine) : OpR X (compareOp .NotEq) (rNeA X) := OpR.or2 (op_neD hu) (OpR.or2 (orr_dne (huLt hu)) (orr_lenN (huLt hu)))
theorem dEqB_cases {x y : D} {b : Bool} (e : dEqB x y = some b) : (∃ ks ls, x = .dK ks ∧ y = .dK ls ∧ (ks.all fun p => flat p.2) = true ∧ (ls.all fun p => flat p.2) = true ∧ b = eqK ks ls) ∨ (pln 60 x = true ∧ pln 60 y = true ∧ b = eqv x y) ∨ ∃ xs ys, x = .lst xs ∧ y = .lst ys ∧ xs.length ≠ ys.length ∧ b = false := by
  unfold dEqB at e
  split at e
  · split at e
    · rename_i h
      rw [Bool.and_eq_true] at h
      cases e
      exact .inl ⟨_, _, rfl, rfl, h.1, h.2, rfl⟩
    · cases e
  · split at e
    · split at e
      · rename_i h
        rw [Bool.and_eq_true] at h
        cases e
        exact .inr (.inl ⟨h.1, h.2, rfl⟩)
      · cases e
    · rename_i h
      cases e
      exact .inr (.inr ⟨_, _, rfl, rfl, h, rfl⟩)
  · split at e
    · rename_i h
      rw [Bool.and_eq_true] at h
      cases e
      exact .inr (.inl ⟨h.1, h.2, rfl⟩)
    · cases e
theorem opd_eq : OpD X dEq (rEqA X) := by
  intro Fr F H s σ a b c x y st e vx vy Q q
  unfold dEq at e
  obtain ⟨k, e1, e2⟩ := Option.map_eq_some_iff.mp e
  subst e2
  rcases dEqB_cases e1 with ⟨ks, ls, rfl, rfl, f1, f2, rfl⟩ | ⟨p1, p2, rfl⟩ | ⟨xs, ys, rfl, rfl, hl, rfl⟩
  · obtain ⟨l, ws, rfl, h1, r1⟩ := vw_dK st.sub vx
    obtain ⟨l2, ws2, rfl, h2, r2⟩ := vw_dK st.sub vy
    exact .inr (.inl ⟨F, l, l2, ks, ls, ws, ws2, rfl, rfl, h1, h2, r1, r2, f1, f2, q _ F H (Same.refl _) st av_fb⟩)
  · refine .inl ⟨_, _, vw_dp p1 st.sub vx, vw_dp p2 st.sub vy, shaped_of p1, shaped_of p2, ?_⟩
    rw [eqv_py a b 60 60 p1 p2]
    exact q _ F H (Same.refl _) st av_fb
  · obtain ⟨l, ws, rfl, h1, r1⟩ := vw_lst st.sub vx
    obtain ⟨l2, ws2, rfl, h2, r2⟩ := vw_lst st.sub vy
    exact .inr (.inr ⟨l, l2, ws, ws2, rfl, rfl, .inl h1, .inl h2, by rw [← r1.len, ← r2.len]; exact hl, q _ F H (Same.refl _) st av_fb⟩)
theorem opd_ne : OpD X dNe (rNeA X) := by
  intro Fr F H s σ a b c x y st e vx vy Q q
  unfold dNe at e
  obtain ⟨k, e1, e2⟩ := Option.map_eq_some_iff.mp e
  subst e2
  rcases dEqB_cases e1 with ⟨ks, ls, rfl, rfl, f1, f2, rfl⟩ | ⟨p1, p2, rfl⟩ | ⟨xs, ys, rfl, rfl, hl, rfl⟩
  · obtain ⟨l, ws, rfl, h1, r1⟩ := vw_dK st.sub vx
    obtain ⟨l2, ws2, rfl, h2, r2⟩ := vw_dK st.sub vy
    exact .inr (.inl ⟨F, l, l2, ks, ls, ws, ws2, rfl, rfl, h1, h2, r1, r2, f1, f2, q _ F H (Same.refl _) st av_fb⟩)
  · refine .inl ⟨_, _, vw_dp p1 st.sub vx, vw_dp p2 st.sub vy, shaped_of p1, shaped_of p2, ?_⟩
    rw [eqv_py a b 60 60 p1 p2]
    exact q _ F H (Same.refl _) st av_fb
  · obtain ⟨l, ws, rfl, h1, r1⟩ := vw_lst st.sub vx
    obtain ⟨l2, ws2, rfl, h2, r2⟩ := vw_lst st.sub vy
    exact .inr (.inr ⟨l, l2, ws, ws2, rfl, rfl, .inl h1, .inl h2, by rw [← r1.len, ← r2.len]; exact hl, q _ F H (Same.refl _) st av_fb⟩)
/-! ### in -/
theorem keysOf_map : ∀ {ds : List D} {ks : List Key}, keysOf ds = some ks → ds = ks.map kD
  | [], ks, e => by unfold keysOf at e; cases e; rfl
  | d :: ds, ks, e => by
    unfold keysOf at e
    split at e
    · rename_i k ks' e1 e2
      cases e
      rw [keysOf_map e2, List.map_cons]
      cases d with
      | int i => cases e1; rfl
      | str i => cases e1; rfl
      | _ => cases e1
    · cases e
theorem reps_keys {K : PySem.W.Frag} {mg : Str → Option Value} {F : Hp} : ∀ {ks : List Key} {vs : List V}, Reps K mg F (ks.map kD) vs → vs = ks.map kV
  | [], vs, h => by unfold List.map Reps at h; exact h
  | k :: ks, vs, h => by
    rw [List.map_cons] at h
    unfold Reps at h
    obtain ⟨v, r, rfl, h1, h2⟩ := h
    rw [reps_keys h2, List.map_cons]
    have : v = kV k := by
      cases k with
      | inl i => exact rep_int' h1
      | inr i => exact rep_str' h1
    rw [this]
/-- the answers' way out of a list of readings -/
def rDictIn (X : Cx) (neg : Bool) : R2 := fun y x H Q => ∃ a o, x = .ref a ∧ DGet H a y o ∧ Q (.bl (if neg then !o.isSome else o.isSome)) H
theorem orr_din (hu : X.A.units + 1 < cLine) : OpR X (compareOp .In) (rDictIn X false) := fun pins s σ H y x u v Q I ry rx h => by
  obtain ⟨a, o, rfl, g, q⟩ := h
  cases rx
  exact d_in hu I g ry fun s' I' => ⟨.bl _, H, I', rfl, q⟩
theorem orr_dnotin (hu : X.A.units + 1 < cLine) : OpR X (compareOp .NotIn) (rDictIn X true) := fun pins s σ H y x u v Q I ry rx h => by
  obtain ⟨a, o, rfl, g, q⟩ := h
  cases rx
  exact d_notIn hu I g ry fun s' I' => ⟨.bl _, H, I', rfl, q⟩
def rSign (neg : Bool) : R2 := fun x y H Q => ∃ (c : Nat) (z : Str), x = .str ⟨#[c]⟩ ∧ y = .str z ∧ Q (.bl (if neg then !decide (c ∈ z.cps.toList) else decide (c ∈ z.cps.toList))) H
def rInA (X : Cx) (neg : Bool) : R2 := fun x y H Q => rIn X.K neg x y H Q ∨ rDictIn X neg x y H Q ∨ rSign neg x y H Q
theorem orr_in (hu : X.A.units + 1 < cLine) : OpR X (compareOp .In) (rInA X false) := OpR.or2 op_in_seq (OpR.or2 (orr_din hu) fun pins s σ H x y v u Q I rx ry h => op_in_sign pins s σ H x y v u Q I rx ry h)
theorem orr_notin (hu : X.A.units + 1 < cLine) : OpR X (compareOp .NotIn) (rInA X true) := OpR.or2 op_notIn_seq (OpR.or2 (orr_dnotin hu) fun pins s σ H x y v u Q I rx ry h => op_notIn_sign pins s σ H x y v u Q I rx ry h)
theorem one_sign {x : Str} (h : x.cps.size = 1) : x = ⟨#[x.cps.toList.headD 0]⟩ := by
  obtain ⟨⟨l⟩⟩ := x
  have h : l.length = 1 := h
  match l, h with
  | [c], _ => rfl
theorem in_run {neg : Bool} {Fr : Fx} {F H : Hp} {s : List SV} {σ : List (Option V)} {a b : D} {x y : V} {k : Bool} (st : StF X.K X.mg Fr F s σ H) (e : dInB a b = some k) (vx : View X.K X.mg F H a x) (vy : View X.K X.mg F H b y) {Q : VK}
    (q : Q (.bl (if neg then !k else k)) H) : rInA X neg x y H Q := by
  unfold dInB at e
  split at e
  · -- a list
    split at e
    · rename_i h
      rw [Bool.and_eq_true] at h
      cases e
      obtain ⟨l, vs, rfl, hl, r⟩ := vw_lst st.sub vy
      obtain ⟨z1, z2⟩ := reps_flat h.1 h.2 r
      obtain ⟨z3, z4⟩ := rep_flat h.1 (vw_flat h.1 vx)
      refine .inl ⟨l, vs, rfl, .inl (.inl hl), z4, z1, ?_⟩
      rw [z3, z2]
      exact q
    · cases e
  · split at e
    · rename_i h
      rw [Bool.and_eq_true] at h
      cases e
      obtain ⟨l, vs, rfl, hl, r⟩ := vw_tup st.sub vy
      obtain ⟨z1, z2⟩ := reps_flat h.1 h.2 r
      obtain ⟨z3, z4⟩ := rep_flat h.1 (vw_flat h.1 vx)
      refine .inl ⟨l, vs, rfl, .inr (.inl (.inl hl)), z4, z1, ?_⟩
      rw [z3, z2]
      exact q
    · cases e
  · rename_i ys
    split at e
    · rename_i h
      cases e
      obtain ⟨l, rfl, hl⟩ := vw_ctp vy
      obtain ⟨z1, z2⟩ := reps_flat (K := X.K) (mg := X.mg) (F := F) h (all_flat_strs ys) (reps_strs ys)
      obtain ⟨z3, z4⟩ := rep_flat h (vw_flat h vx)
      refine .inl ⟨l, ys.map V.str, rfl, .inr (.inr hl), z4, z1, ?_⟩
      rw [z3, z2]
      exact q
    · cases e
  · rename_i kvs
    obtain ⟨key, e1, e2⟩ := Option.map_eq_some_iff.mp e
    subst e2
    obtain ⟨l, ws, rfl, hl, r⟩ := vw_dK st.sub vy
    rw [vw_key vx e1]
    refine .inr (.inl ⟨l, valV ws key, rfl, .inl ⟨ws, key, hl, rfl, rfl⟩, ?_⟩)
    have z : (valV ws key).isSome = (gv kvs key).isSome := by
      rcases r.val key with ⟨d, v, g1, g2, _⟩ | ⟨g1, g2⟩ <;> rw [g1, g2] <;> rfl
    rw [z]
    exact q
  · rename_i ks kvs
    obtain ⟨key, e1, e2⟩ := Option.map_eq_some_iff.mp e
    subst e2
    obtain ⟨l, ws, rfl, hl, r⟩ := vw_dT st.sub vy
    obtain ⟨b, vs, rfl, hb, r2⟩ := vw_tup st.sub vx
    rw [keysOf_map e1] at r2
    rw [reps_keys r2] at hb
    refine .inr (.inl ⟨l, valV ws key, rfl, .inr ⟨ws, key, b, hl, rfl, hb, rfl⟩, ?_⟩)
    have z : (valV ws key).isSome = (gv kvs key).isSome := by
      rcases r.val key with ⟨d, v, g1, g2, _⟩ | ⟨g1, g2⟩ <;> rw [g1, g2] <;> rfl
    rw [z]
    exact q
  · split at e
    · rename_i x0 y0 h
      cases e
      rw [vw_str vx, vw_str vy]
      have z := one_sign h
      refine .inr (.inr ⟨_, y0, by rw [← z], rfl, q⟩)
    · cases e
  · cases e
theorem opd_in : OpD X dIn (rInA X false) := by
  intro Fr F H s σ a b c x y st e vx vy Q q
  unfold dIn at e
  obtain ⟨k, e1, e2⟩ := Option.map_eq_some_iff.mp e
  subst e2
  exact in_run st e1 vx vy (q _ F H (Same.refl _) st av_fb)
theorem opd_notin : OpD X dNotIn (rInA X true) := by
  intro Fr F H s σ a b c x y st e vx vy Q q
  unfold dNotIn at e
  obtain ⟨k, e1, e2⟩ := Option.map_eq_some_iff.mp e
  subst e2
  exact in_run st e1 vx vy (q _ F H (Same.refl _) st av_fb)
end
end PV
/-! PvQ: subscripts, built-in calls, displays, fields, tests. -/
namespace PV
open PySem L2
/-! ### x[i] -/
theorem atI_ix {α : Type} (xs : List α) (i : Int) : atI xs i = ixAt xs i := by
  unfold atI ixAt ixN
  by_cases h : 0 ≤ i
  · rw [if_pos h, if_pos h]
    by_cases h2 : i < (xs.length : Int)
    · rw [if_pos h2]; rfl
    · rw [if_neg h2]
      show none = _
      rw [List.getElem?_eq_none]
      omega
  · rw [if_neg h, if_neg h]
    by_cases h2 : -(xs.length : Int) ≤ i
    · rw [if_pos h2, if_pos h2]; rfl
    · rw [if_neg h2, if_neg h2]; rfl
section
variable {K : PySem.W.Frag} {mg : Str → Option Value} {F : Hp}
theorem Reps.atI {ds : List D} {vs : List V} {i : Int} {d : D} (r : Reps K mg F ds vs) (e : ixAt ds i = some d) : ∃ v, L2.atI vs i = some v ∧ Rep K mg F d v := by
  rw [atI_ix]
  unfold ixAt at e ⊢
  rw [← r.len]
  split at e
  · rename_i h; rw [if_pos h]; exact r.get e
  · rename_i h
    rw [if_neg h]
    split at e
    · rename_i h2; rw [if_pos h2]; exact r.get e
    · cases e
end
section
variable {X : Cx}
def rIxDc : R2 := fun x y H Q => ∃ a v, x = .ref a ∧ DGet H a y (some v) ∧ Q v H
theorem ix_dict (hu : X.A.units + 1 < cLine) : IxR X rIxDc := fun value slice pins s σ H x y v u Q I rx ry h hs => by
  obtain ⟨a, w, rfl, g, q⟩ := h
  cases rx
  exact PyProof.Rows.tail_any (dict_typeIs I g) PySem.F.slot_dict_getitem.lookup (d_getItem hu I g ry fun w' s' I' r => ⟨w, H, I', r, q⟩) hs
def rIxA (X : Cx) : R2 := fun x y H Q => rIxL X.K x y H Q ∨ rIxT X.K x y H Q ∨ rIxDc x y H Q
theorem ixr_all (hu : X.A.units + 1 < cLine) : IxR X (rIxA X) := IxR.or ix_list (IxR.or ix_tup (ix_dict hu))
theorem opd_ix : OpD X dIx (rIxA X) := by
  intro Fr F H s σ a b c x y st e vx vy Q q
  unfold dIx at e
  split at e
  · obtain ⟨d, e1, e2⟩ := Option.map_eq_some_iff.mp e
    subst e2
    obtain ⟨l, vs, rfl, hl, r⟩ := vw_lst st.sub vx
    obtain ⟨v, h1, h2⟩ := r.atI e1
    rw [vw_int vy]
    exact .inl ⟨l, vs, _, v, rfl, rfl, .inl hl, h1, q v F H (Same.refl _) st (av_fz h2)⟩
  · obtain ⟨d, e1, e2⟩ := Option.map_eq_some_iff.mp e
    subst e2
    obtain ⟨l, vs, rfl, hl, r⟩ := vw_tup st.sub vx
    obtain ⟨v, h1, h2⟩ := r.atI e1
    rw [vw_int vy]
    exact .inr (.inl ⟨l, vs, _, v, rfl, rfl, .inl (.inl hl), h1, q v F H (Same.refl _) st (av_fz h2)⟩)
  · rename_i ns i
    obtain ⟨d, e1, e2⟩ := Option.map_eq_some_iff.mp e
    subst e2
    obtain ⟨l, rfl, hl⟩ := vw_scr st.sub vx
    rw [vw_int vy]
    have h1 : L2.atI (ns.map V.int) i = some (.int d) := by
      rw [atI_ix]
      unfold ixAt at e1 ⊢
      rw [List.length_map]
      split
      · rename_i h; rw [if_pos h] at e1; rw [List.getElem?_map, e1]; rfl
      · rename_i h
        rw [if_neg h] at e1
        split
        · rename_i h2; rw [if_pos h2] at e1; rw [List.getElem?_map, e1]; rfl
        · rename_i h2; rw [if_neg h2] at e1; cases e1
    exact .inl ⟨l, ns.map V.int, i, .int d, rfl, rfl, hl, h1, q _ F H (Same.refl _) st av_fi⟩
  · split at e
    · rename_i key ek
      obtain ⟨d, e1, e2⟩ := Option.map_eq_some_iff.mp e
      subst e2
      obtain ⟨l, ws, rfl, hl, r⟩ := vw_dK st.sub vx
      rw [vw_key vy ek]
      rcases r.val key with ⟨d', v, g1, g2, g3⟩ | ⟨g1, g2⟩
      · rw [e1] at g1
        cases g1
        exact .inr (.inr ⟨l, v, rfl, .inl ⟨ws, key, hl, rfl, g2.symm⟩, q v F H (Same.refl _) st (av_fz g3)⟩)
      · rw [e1] at g1; cases g1
    · cases e
  · split at e
    · rename_i key ek
      obtain ⟨d, e1, e2⟩ := Option.map_eq_some_iff.mp e
      subst e2
      obtain ⟨l, ws, rfl, hl, r⟩ := vw_dT st.sub vx
      obtain ⟨b, vs, rfl, hb, r2⟩ := vw_tup st.sub vy
      rw [keysOf_map ek] at r2
      rw [reps_keys r2] at hb
      rcases r.val key with ⟨d', v, g1, g2, g3⟩ | ⟨g1, g2⟩
      · rw [e1] at g1
        cases g1
        exact .inr (.inr ⟨l, v, rfl, .inr ⟨ws, key, b, hl, rfl, hb, g2.symm⟩, q v F H (Same.refl _) st (av_fz g3)⟩)
      · rw [e1] at g1; cases g1
    · cases e
  · cases e
/-! ### one operand: calls of built-ins -/
def OpC (X : Cx) (f : D → Option AV) (r : List V → Hp → VK → Prop) : Prop := ∀ {Fr : Fx} {F H : Hp} {s : List SV} {σ : List (Option V)} {a : D} {c : AV} {x : V}, StF X.K X.mg Fr F s σ H → f a = some c → View X.K X.mg F H a x →
  ∀ Q : VK, (∀ v F' H', Same F F' → StF X.K X.mg Fr F' s σ H' → AVal X.K X.mg Fr F' H' s σ c v → Q v H') → r [x] H Q
theorem x1_run {f : D → Option AV} {r : List V → Hp → VK → Prop} {ra : Rc} {σ : L2.St} {H : Hp} {Q : VK} (hd : OpC X f r) (h : tO X.K X.mg (x1 f ra) σ H Q) : tCB r (tCons (tRc X.K X.mg ra) tNil) σ H Q := by
  obtain ⟨Fr, G, s, d, s', st, em, q⟩ := h
  unfold x1 at em
  split at em
  · rename_i p s1 e1
    obtain ⟨z, e2, e3⟩ := Option.map_eq_some_iff.mp em
    cases e3
    exact ev1_run st e1 fun v F H' k st' v1 => hd st' e2 v1 Q fun v F' H2 k' st2 av => q v F' H2 (k.trans k') st2 av
  · cases em
section
variable {f : D → Option AV} {r : List V → Hp → VK → Prop} {x : Str} {p pos : Pos} {e : Expr} {ra : Rc} {id T : String}
/-- f(e), f a built-in function; a built-in class -/
theorem px_callB (hc : CallR X (.builtin id) r) (hd : OpC X f r) (hg : Gl X x) (hm : X.mg x = none) (hv : bootBuiltins x = some (.builtin id)) (ha : PRc X e ra) (he : starEach [e] X.env = [(false, eval e X.env)]) (hn : x ≠ "__name__") (hdb : (x == ("__debug__" : Str)) = false) :
    PX X (.Call (.Name x p) [e] [] pos) (x1 f ra) := by
  have hA : PA X [e] (tCons (tRc X.K X.mg ra) tNil) := pa_cons ha pa_nil he
  exact pe_imp (pe_callB hc hg hm hv hA hn hdb he rfl) fun _ _ _ h => x1_run hd h
theorem px_callTy (hc : CallR X (.type T) r) (hd : OpC X f r) (hg : Gl X x) (hm : X.mg x = none) (hv : bootBuiltins x = some (.type T)) (ha : PRc X e ra) (he : starEach [e] X.env = [(false, eval e X.env)]) (hn : x ≠ "__name__") (hdb : (x == ("__debug__" : Str)) = false) :
    PX X (.Call (.Name x p) [e] [] pos) (x1 f ra) := by
  have hA : PA X [e] (tCons (tRc X.K X.mg ra) tNil) := pa_cons ha pa_nil he
  exact pe_imp (pe_callTy hc hg hm hv hA hn hdb he rfl) fun _ _ _ h => x1_run hd h
end
def rLenA (X : Cx) : List V → Hp → VK → Prop := fun xs H Q => (∃ x n, xs = [x] ∧ LenV X.K x H n ∧ Q (.int n) H) ∨ ∃ a ws, xs = [.ref a] ∧ Rd H a (.dK ws) ∧ Q (.int ws.length) H
theorem cr_len : CallR X (.builtin "len") (rLenA X) := CallR.or call_len fun pins s σ H xs us Q I r h => by
  obtain ⟨a, ws, rfl, hd, q⟩ := h
  obtain ⟨w, rfl, rw'⟩ := r.one
  cases rw'
  exact d_len I hd fun t s' I' => ⟨.int _, H, I', ⟨t, rfl⟩, q⟩
theorem opc_len : OpC X dLen (rLenA X) := by
  intro Fr F H s σ a c x st e vx Q q
  unfold dLen at e
  split at e
  · cases e
    obtain ⟨l, vs, rfl, hl, r⟩ := vw_lst st.sub vx
    exact .inl ⟨_, vs.length, rfl, .inl ⟨vs, .inl hl, rfl⟩, by rw [← r.len]; exact q _ F H (Same.refl _) st av_fi⟩
  · cases e
    obtain ⟨l, vs, rfl, hl, r⟩ := vw_tup st.sub vx
    exact .inl ⟨_, vs.length, rfl, .inr ⟨vs, .inl (.inl hl), rfl⟩, by rw [← r.len]; exact q _ F H (Same.refl _) st av_fi⟩
  · cases e
    obtain ⟨l, vs, rfl, hl, r⟩ := vw_dK st.sub vx
    exact .inr ⟨l, vs, rfl, hl, by rw [← r.len]; exact q _ F H (Same.refl _) st av_fi⟩
  · split at e
    · rename_i hz
      cases e
      rw [vw_str vx]
      exact .inl ⟨_, _, rfl, ⟨by rw [← sz_line]; exact hz, rfl⟩, q _ F H (Same.refl _) st av_fi⟩
    · cases e
  · rename_i ns
    cases e
    obtain ⟨l, rfl, hl⟩ := vw_scr st.sub vx
    exact .inl ⟨_, ns.length, rfl, .inl ⟨ns.map V.int, hl, by rw [List.length_map]⟩, q _ F H (Same.refl _) st av_fi⟩
  · cases e
/-- list(d) of a dict, locked or not -/
def rListDc : List V → Hp → VK → Prop := fun xs H Q => ∃ p kvs, xs = [.ref p] ∧ Rd H p (.dK kvs) ∧ ∀ q, H q = none → Q (.ref q) (upd H q (.lst (kvs.map fun kv => kV kv.1)))
theorem cr_listD (hc : X.calm = true) : CallR X (.type "list") rListDc := fun pins s σ H xs us Q I r h => by
  obtain ⟨p, kvs, rfl, hk, q⟩ := h
  obtain ⟨w, rfl, rw'⟩ := r.one
  cases rw'
  obtain ⟨hz, lo, vs, kv, hdo⟩ := dk_rd I.hok hk
  obtain ⟨ep, hat⟩ := hdo.dictAt
  have hl := KV.length kv
  refine PySem.W.kdl_call (PySem.W.kdl_dict (knd := mixKind X.prog X.w) (kvs := vs) (ep := ep) lo) (I.ok.hd hc) hat (by omega) fun h' tk acc c keep at_ all => ?_
  have e3 : (kvs.map fun kv => kV kv.1) = (kvs.map (·.1)).map kV := by rw [List.map_map]; rfl
  have vals : Vals (kvs.map fun kv => kV kv.1) acc.toList := by
    refine vals_of_at ?_ fun j x u h1 h2 => ?_
    · rw [List.length_map, hl, ← all.1]; simp
    · obtain ⟨k, y, hky, hi⟩ := all.2 j u (by rw [← Array.getElem?_toList]; exact h2)
      rw [e3, List.getElem?_map, KV.keys kv, List.getElem?_map, hky] at h1
      cases h1
      exact keyIs_rel hi
  refine ⟨.ref s.heap.objs.size, upd H s.heap.objs.size _, I.laid (o := .lst (kvs.map fun kv => kV kv.1)) keep (Nat.le_refl _) ⟨by rw [List.length_map]; exact hz, acc.toList, c, vals, ?_⟩, rfl, q _ (I.hok.fresh (Nat.le_refl _))⟩
  rw [Array.toArray_toList]
  exact at_
def rListA (X : Cx) : List V → Hp → VK → Prop := fun xs H Q => (∃ p ys, xs = [.ref p] ∧ (SqL X.K H p ys ∨ SqT X.K H p ys) ∧ ∀ l, H l = none → Q (.ref l) (upd H l (.lst ys))) ∨ rListDc xs H Q
theorem cr_list (hc : X.calm = true) : CallR X (.type "list") (rListA X) := CallR.or call_list_of (cr_listD hc)
theorem opc_list : OpC X dList (rListA X) := by
  intro Fr F H s σ a c x st e vx Q q
  unfold dList at e
  split at e
  · cases e
    obtain ⟨l, vs, rfl, hl, r⟩ := vw_lst st.sub vx
    exact .inl ⟨_, vs, rfl, .inl (.inl hl), new_lst st r q⟩
  · cases e
    obtain ⟨l, vs, rfl, hl, r⟩ := vw_tup st.sub vx
    exact .inl ⟨_, vs, rfl, .inr (.inl (.inl hl)), new_lst st r q⟩
  · rename_i kvs
    cases e
    obtain ⟨l, vs, rfl, hl, r⟩ := vw_dK st.sub vx
    have e1 : (vs.map fun kv => kV kv.1) = (kvs.map (·.1)).map kV := by rw [r.keys, List.map_map]; rfl
    have e2 : (kvs.map fun p => kD p.1) = (kvs.map (·.1)).map kD := by rw [List.map_map]; rfl
    refine .inr ⟨_, vs, rfl, hl, new_lst st ?_ q⟩
    rw [e1, e2]
    exact reps_kD _
  · cases e
def rTupleA (X : Cx) : List V → Hp → VK → Prop := fun xs H Q => ∃ p ys, xs = [.ref p] ∧ ((SqL X.K H p ys ∧ ∀ l, H l = none → Q (.ref l) (upd H l (.tup ys))) ∨ (SqT X.K H p ys ∧ Q (.ref p) H))
theorem opc_tuple : OpC X dTuple (rTupleA X) := by
  intro Fr F H s σ a c x st e vx Q q
  unfold dTuple at e
  split at e
  · cases e
    obtain ⟨l, vs, rfl, hl, r⟩ := vw_lst st.sub vx
    exact ⟨_, vs, rfl, .inl ⟨.inl hl, new_tup st r q⟩⟩
  · cases e
    obtain ⟨l, vs, rfl, hl, r⟩ := vw_tup st.sub vx
    refine ⟨_, vs, rfl, .inr ⟨.inl (.inl hl), q _ F H (Same.refl _) st ?_⟩⟩
    rcases vx with vx | ⟨_, _, _, _, z⟩
    · exact av_fz vx
    · exact z.elim
  · cases e
theorem reps_pairs {K : PySem.W.Frag} {mg : Str → Option Value} {F H : Hp} (e : Same F H) : ∀ {ds : List D} {ps : List (Key × D)} {vs : List V}, pairsOf ds = some ps → Reps K mg F ds vs →
    ∃ (as : List Addr) (ws : List (Key × V)), vs = as.map V.ref ∧ Paired (fun p (kv : Key × V) => SqT K H p [kV kv.1, kv.2]) as ws ∧ RepK K mg F ps ws
  | [], ps, vs, h, r => by
    unfold pairsOf at h
    unfold Reps at r
    cases h
    subst r
    exact ⟨[], [], rfl, .nil, repk_nil⟩
  | d :: ds, ps, vs, h, r => by
    unfold pairsOf at h
    split at h
    · rename_i p ps' e1 e2
      cases h
      unfold Reps at r
      obtain ⟨v, r', rfl, h1, h2⟩ := r
      obtain ⟨as, ws, rfl, h3, h4⟩ := reps_pairs e e2 h2
      unfold pairOf at e1
      split at e1
      · rename_i k x
        obtain ⟨key, ek, e3⟩ := Option.map_eq_some_iff.mp e1
        subst e3
        unfold Rep at h1
        obtain ⟨a, us, rfl, ha, hr⟩ := h1
        unfold Reps at hr
        obtain ⟨v1, r1, rfl, q1, hr⟩ := hr
        unfold Reps at hr
        obtain ⟨v2, r2, rfl, q2, hr⟩ := hr
        unfold Reps at hr
        subst hr
        rw [rep_key q1 ek] at ha
        exact ⟨a :: as, (key, v2) :: ws, rfl, .cons (.inl (.inl (e _ _ ha))) h3, repk_cons q2 h4⟩
      · cases e1
    · cases h
theorem RepK.merge {K : PySem.W.Frag} {mg : Str → Option Value} {F : Hp} : ∀ {ps : List (Key × D)} {ws : List (Key × V)} {acc : List (Key × D)} {wa : List (Key × V)}, RepK K mg F ps ws → RepK K mg F acc wa → RepK K mg F (gm acc ps) (mergeK wa ws)
  | [], ws, acc, wa, h, q => by unfold RepK at h; subst h; exact q
  | (k, d) :: ps, ws, acc, wa, h, q => by
    unfold RepK at h
    obtain ⟨v, r, rfl, h1, h2⟩ := h
    exact RepK.merge (ps := ps) (ws := r) (acc := gp acc k d) (wa := putK wa k v) h2 (q.put k h1)
/-- a new dict that nobody has yet -/
theorem new_dK {Fr : Fx} {F H : Hp} {s : List SV} {σ : List (Option V)} {ds : List (Key × D)} {vs : List (Key × V)} (st : StF X.K X.mg Fr F s σ H) (hr : RepK X.K X.mg F ds vs) {Q : VK}
    (q : ∀ v F' H', Same F F' → StF X.K X.mg Fr F' s σ H' → AVal X.K X.mg Fr F' H' s σ (.ow (.dK ds)) v → Q v H') : ∀ p, H p = none → Q (.ref p) (upd H p (.dK vs)) :=
  fun p hp => q _ F _ (Same.refl _) (st.new hp) (st.avNew hp ⟨vs, rfl, hr⟩)
def rDictA (X : Cx) : List V → Hp → VK → Prop := fun xs H Q => (∃ (a : Addr) (ps : List Addr) (kvs : List (Key × V)), xs = [.ref a] ∧ SqL X.K H a (ps.map V.ref) ∧ Paired (fun p kv => SqT X.K H p [kV kv.1, kv.2]) ps kvs ∧ ∀ p, H p = none → Q (.ref p) (upd H p (.dK (mergeK [] kvs)))) ∨
  ∃ a kvs, xs = [.ref a] ∧ Rd H a (.dK kvs) ∧ ∀ p, H p = none → Q (.ref p) (upd H p (.dK kvs))
theorem cr_dict (hc : X.calm = true) : CallR X (.type "dict") (rDictA X) := CallR.or (call_dictP hc) fun pins s σ H xs us Q I r h => by
  obtain ⟨a, kvs, rfl, hd, q⟩ := h
  obtain ⟨w, rfl, rw'⟩ := r.one
  cases rw'
  exact d_copyOf I hd fun p s' hp I' => ⟨.ref p, _, I', rfl, q p hp⟩
theorem opc_dict : OpC X dDict (rDictA X) := by
  intro Fr F H s σ a c x st e vx Q q
  unfold dDict at e
  split at e
  · obtain ⟨ps, e1, e2⟩ := Option.map_eq_some_iff.mp e
    subst e2
    obtain ⟨l, vs, rfl, hl, r⟩ := vw_lst st.sub vx
    obtain ⟨as, ws, rfl, h1, h2⟩ := reps_pairs st.sub e1 r
    exact .inl ⟨l, as, ws, rfl, .inl hl, h1, new_dK st (RepK.merge h2 repk_nil) q⟩
  · cases e
    obtain ⟨l, vs, rfl, hl, r⟩ := vw_dK st.sub vx
    exact .inr ⟨l, vs, rfl, hl, new_dK st r q⟩
  · cases e
theorem reps_ints {K : PySem.W.Frag} {mg : Str → Option Value} {F : Hp} : ∀ {ds : List D} {ns : List Int} {vs : List V}, intsOf ds = some ns → Reps K mg F ds vs → vs = ns.map V.int
  | [], ns, vs, h, r => by
    unfold intsOf at h
    unfold Reps at r
    cases h
    exact r
  | d :: ds, ns, vs, h, r => by
    unfold Reps at r
    obtain ⟨v, r', rfl, h1, h2⟩ := r
    cases d with
    | int i =>
      unfold intsOf at h
      obtain ⟨ns', e1, e2⟩ := Option.map_eq_some_iff.mp h
      subst e2
      rw [reps_ints e1 h2, rep_int' h1, List.map_cons]
    | _ => unfold intsOf at h; cases h
theorem reps_bools {K : PySem.W.Frag} {mg : Str → Option Value} {F : Hp} : ∀ {ds : List D} {ns : List Bool} {vs : List V}, boolsOf ds = some ns → Reps K mg F ds vs → vs = ns.map V.bl
  | [], ns, vs, h, r => by
    unfold boolsOf at h
    unfold Reps at r
    cases h
    exact r
  | d :: ds, ns, vs, h, r => by
    unfold Reps at r
    obtain ⟨v, r', rfl, h1, h2⟩ := r
    cases d with
    | bl i =>
      unfold boolsOf at h
      obtain ⟨ns', e1, e2⟩ := Option.map_eq_some_iff.mp h
      subst e2
      rw [reps_bools e1 h2, rep_bl' h1, List.map_cons]
    | _ => unfold boolsOf at h; cases h
theorem opc_sum : OpC X dSum (rSum X.K) := by
  intro Fr F H s σ a c x st e vx Q q
  unfold dSum at e
  split at e
  · obtain ⟨ns, e1, e2⟩ := Option.map_eq_some_iff.mp e
    subst e2
    obtain ⟨l, vs, rfl, hl, r⟩ := vw_lst st.sub vx
    have z := reps_ints e1 r
    subst z
    exact ⟨l, ns, rfl, .inl hl, q _ F H (Same.refl _) st av_fi⟩
  · cases e
theorem opc_any : OpC X dAny (rAny X.K) := by
  intro Fr F H s σ a c x st e vx Q q
  unfold dAny at e
  split at e
  · obtain ⟨ns, e1, e2⟩ := Option.map_eq_some_iff.mp e
    subst e2
    obtain ⟨l, vs, rfl, hl, r⟩ := vw_lst st.sub vx
    have z := reps_bools e1 r
    subst z
    exact ⟨l, ns, rfl, .inl hl, q _ F H (Same.refl _) st av_fb⟩
  · cases e
theorem opc_all : OpC X dAll (rAll X.K) := by
  intro Fr F H s σ a c x st e vx Q q
  unfold dAll at e
  split at e
  · obtain ⟨ns, e1, e2⟩ := Option.map_eq_some_iff.mp e
    subst e2
    obtain ⟨l, vs, rfl, hl, r⟩ := vw_lst st.sub vx
    have z := reps_bools e1 r
    subst z
    exact ⟨l, ns, rfl, .inl hl, q _ F H (Same.refl _) st av_fb⟩
  · cases e
theorem top_max : ∀ (ns : List Int) (m : Int), (top m ns = m ∨ top m ns ∈ ns) ∧ m ≤ top m ns ∧ ∀ y ∈ ns, y ≤ top m ns
  | [], m => ⟨.inl rfl, Int.le_refl _, fun y hy => by cases hy⟩
  | n :: ns, m => by
    obtain ⟨h1, h2, h3⟩ := top_max ns (if n > m then n else m)
    have e : top m (n :: ns) = top (if n > m then n else m) ns := rfl
    rw [e]
    by_cases hn : n > m
    · rw [if_pos hn] at h1 h2 h3 ⊢
      refine ⟨.inr ?_, by omega, fun y hy => ?_⟩
      · rcases h1 with h1 | h1
        · rw [h1]; exact List.mem_cons_self
        · exact List.mem_cons_of_mem _ h1
      · rcases List.mem_cons.mp hy with rfl | hy
        · exact h2
        · exact h3 y hy
    · rw [if_neg hn] at h1 h2 h3 ⊢
      refine ⟨?_, h2, fun y hy => ?_⟩
      · rcases h1 with h1 | h1
        · exact .inl h1
        · exact .inr (List.mem_cons_of_mem _ h1)
      · rcases List.mem_cons.mp hy with rfl | hy
        · omega
        · exact h3 y hy
theorem low_min : ∀ (ns : List Int) (m : Int), (low m ns = m ∨ low m ns ∈ ns) ∧ low m ns ≤ m ∧ ∀ y ∈ ns, low m ns ≤ y
  | [], m => ⟨.inl rfl, Int.le_refl _, fun y hy => by cases hy⟩
  | n :: ns, m => by
    obtain ⟨h1, h2, h3⟩ := low_min ns (if n < m then n else m)
    have e : low m (n :: ns) = low (if n < m then n else m) ns := rfl
    rw [e]
    by_cases hn : n < m
    · rw [if_pos hn] at h1 h2 h3 ⊢
      refine ⟨.inr ?_, by omega, fun y hy => ?_⟩
      · rcases h1 with h1 | h1
        · rw [h1]; exact List.mem_cons_self
        · exact List.mem_cons_of_mem _ h1
      · rcases List.mem_cons.mp hy with rfl | hy
        · exact h2
        · exact h3 y hy
    · rw [if_neg hn] at h1 h2 h3 ⊢
      refine ⟨?_, h2, fun y hy => ?_⟩
      · rcases h1 with h1 | h1
        · exact .inl h1
        · exact .inr (List.mem_cons_of_mem _ h1)
      · rcases List.mem_cons.mp hy with rfl | hy
        · omega
        · exact h3 y hy
theorem opc_max : OpC X dMax (rMax X.K) := by
  intro Fr F H s σ a c x st e vx Q q
  unfold dMax at e
  split at e
  · split at e
    · rename_i n ns e1
      cases e
      obtain ⟨l, vs, rfl, hl, r⟩ := vw_lst st.sub vx
      have z := reps_ints e1 r
      subst z
      refine ⟨l, n :: ns, rfl, .inl hl, Nat.succ_pos _, fun m hm hle => ?_⟩
      obtain ⟨h1, h2, h3⟩ := top_max ns n
      have h4 : top n ns ∈ n :: ns := by
        rcases h1 with h1 | h1
        · rw [h1]; exact List.mem_cons_self
        · exact List.mem_cons_of_mem _ h1
      have h5 := hle _ h4
      have h6 : m ≤ top n ns := by
        rcases List.mem_cons.mp hm with rfl | hm
        · exact h2
        · exact h3 m hm
      have e : m = top n ns := by omega
      rw [e]
      exact q _ F H (Same.refl _) st av_fi
    · cases e
  · cases e
theorem opc_min : OpC X dMin (rMin X.K) := by
  intro Fr F H s σ a c x st e vx Q q
  unfold dMin at e
  split at e
  · split at e
    · rename_i n ns e1
      cases e
      obtain ⟨l, vs, rfl, hl, r⟩ := vw_lst st.sub vx
      have z := reps_ints e1 r
      subst z
      refine ⟨l, n :: ns, rfl, .inl hl, Nat.succ_pos _, fun m hm hle => ?_⟩
      obtain ⟨h1, h2, h3⟩ := low_min ns n
      have h4 : low n ns ∈ n :: ns := by
        rcases h1 with h1 | h1
        · rw [h1]; exact List.mem_cons_self
        · exact List.mem_cons_of_mem _ h1
      have h5 := hle _ h4
      have h6 : low n ns ≤ m := by
        rcases List.mem_cons.mp hm with rfl | hm
        · exact h2
        · exact h3 m hm
      have e : m = low n ns := by omega
      rw [e]
      exact q _ F H (Same.refl _) st av_fi
    · cases e
  · cases e
def rIntA : List V → Hp → VK → Prop := fun xs H Q => (∃ i, xs = [.int i] ∧ Q (.int i) H) ∨ ∃ k, xs = [.bl k] ∧ Q (.int (if k then 1 else 0)) H
theorem opc_int : OpC X dInt rIntA := by
  intro Fr F H s σ a c x st e vx Q q
  unfold dInt at e
  split at e
  · cases e
    rw [vw_int vx]
    exact .inl ⟨_, rfl, q _ F H (Same.refl _) st av_fi⟩
  · cases e
    rw [vw_bl vx]
    exact .inr ⟨_, rfl, q _ F H (Same.refl _) st av_fi⟩
  · cases e
end
end PV
/-! PvT: isinstance, None, displays, fields, slices, get, chains, tests. -/
namespace PV
open PySem L2
section
variable {X : Cx} {e a b c o : Expr} {ra rb rc r : Rc} {pos : Pos}
/-! ### one operand: -x, x is None, o.f -/
def OpU (X : Cx) (f : D → Option AV) (r : V → Hp → VK → Prop) : Prop := ∀ {Fr : Fx} {F H : Hp} {s : List SV} {σ : List (Option V)} {a : D} {c : AV} {x : V}, StF X.K X.mg Fr F s σ H → f a = some c → View X.K X.mg F H a x →
  ∀ Q : VK, (∀ v F' H', Same F F' → StF X.K X.mg Fr F' s σ H' → AVal X.K X.mg Fr F' H' s σ c v → Q v H') → r x H Q
theorem x1u_run {f : D → Option AV} {r : V → Hp → VK → Prop} {σ : L2.St} {H : Hp} {Q : VK} (hd : OpU X f r) (h : tO X.K X.mg (x1 f ra) σ H Q) : tRc X.K X.mg ra σ H fun x H1 => r x H1 Q := by
  obtain ⟨Fr, G, s, d, s', st, em, q⟩ := h
  unfold x1 at em
  split at em
  · rename_i p s1 e1
    obtain ⟨z, e2, e3⟩ := Option.map_eq_some_iff.mp em
    cases e3
    exact ev1_run st e1 fun v F H' k st' v1 => hd st' e2 v1 Q fun v F' H2 k' st2 av => q v F' H2 (k.trans k') st2 av
  · cases em
theorem px_neg (ha : PRc X a ra) : PX X (.UnaryOp .USub a pos) (x1 dNeg ra) :=
  pe_imp (pe_un un_neg ha) fun σ H Q h => x1u_run (r := rU fun i => .int (-i)) (fun {Fr F H s σ a c x} st e vx Q q => by
    unfold dNeg at e
    split at e
    · cases e; exact ⟨_, vw_int vx, q _ F H (Same.refl _) st av_fi⟩
    · cases e) h
def isNonD : D → Bool
  | .non => true
  | _ => false
theorem rep_non_iff {K : PySem.W.Frag} {mg : Str → Option Value} {F H : Hp} {d : D} {v : V} (h : View K mg F H d v) : decide (v = V.non) = isNonD d := by
  cases d with
  | non => rw [vw_non h]; rfl
  | bl b => rw [vw_bl h]; rfl
  | int b => rw [vw_int h]; rfl
  | str b => rw [vw_str h]; rfl
  | lst _ =>
    rcases h with h | ⟨p, o, rfl, _⟩
    · unfold Rep at h; obtain ⟨_, _, rfl, _⟩ := h; rfl
    · rfl
  | tup _ =>
    rcases h with h | ⟨p, o, rfl, _⟩
    · unfold Rep at h; obtain ⟨_, _, rfl, _⟩ := h; rfl
    · rfl
  | dK _ =>
    rcases h with h | ⟨p, o, rfl, _⟩
    · unfold Rep at h; obtain ⟨_, _, _, rfl, _⟩ := h; rfl
    · rfl
  | dT _ =>
    rcases h with h | ⟨p, o, rfl, _⟩
    · unfold Rep at h; obtain ⟨_, _, _, rfl, _⟩ := h; rfl
    · rfl
  | ins _ _ =>
    rcases h with h | ⟨p, o, rfl, _⟩
    · unfold Rep at h; obtain ⟨_, _, _, _, rfl, _⟩ := h; rfl
    · rfl
  | scr _ =>
    rcases h with h | ⟨p, o, rfl, _⟩
    · unfold Rep at h; obtain ⟨_, rfl, _⟩ := h; rfl
    · rfl
  | ctp _ =>
    rcases h with h | ⟨p, o, rfl, _⟩
    · unfold Rep at h; obtain ⟨_, rfl, _⟩ := h; rfl
    · rfl
theorem opu_isN : OpU X dIsN (fun x H Q => Q (.bl (decide (x = .non))) H) := by
  intro Fr F H s σ a c x st e vx Q q
  have z := rep_non_iff vx
  rw [z]
  unfold dIsN at e
  split at e
  · cases e; exact q _ F H (Same.refl _) st av_fb
  · rename_i hn
    cases e
    cases a with
    | non => exact absurd rfl hn
    | _ => exact q _ F H (Same.refl _) st av_fb
theorem tB_run {m : XM} {t : TE} {σ : L2.St} {H : Hp} {Q : Bool → Hp → Prop} (i : ∀ Q', tO X.K X.mg m σ H Q' → t σ H Q') (h : tM X.K X.mg (PV.tB m) σ H Q) : t σ H fun x H' => ∃ k, x = .bl k ∧ Q k H' := by
  obtain ⟨Fr, G, s, d, s', st, em, q⟩ := h
  unfold PV.tB at em
  split at em
  · rename_i k s1 e1
    cases em
    exact i _ ⟨Fr, G, s, _, s', st, e1, fun v F H' k st' av => ⟨d, av_bl' av, q F H' k st'⟩⟩
  · cases em
theorem pt_isN {j pos'} (ha : PRc X a ra) : PTt X (.Compare a [.Is] [.Constant .none j pos'] pos) (tB (x1 dIsN ra)) :=
  pt_imp (L2.pt_cmp (pc_isN ha) rfl) fun σ H Q h => tB_run (fun Q' h' => x1u_run opu_isN h') h
/-- what the written part says of the classes whose fields are read -/
def ClsOk (X : Cx) (C : Str) (f : Str) : Prop := ∀ Ca, X.mg C = some (.ref Ca) → Cls X.K Ca ∧ NoAttr X.K Ca f
theorem RepF.val {K : PySem.W.Frag} {mg : Str → Option Value} {F : Hp} (k : Str) : ∀ {ds : List (Str × D)} {vs : List (Str × V)} {d : D}, RepF K mg F ds vs → gv ds k = some d → ∃ v, vs.lookup k = some v ∧ Rep K mg F d v
  | [], vs, d, h, e => by cases e
  | (k0, d0) :: ds, vs, d, h, e => by
    unfold RepF at h
    obtain ⟨v, r, rfl, h1, h⟩ := h
    unfold gv at e
    by_cases q : k0 = k
    · rw [List.find?_cons_of_pos (by simpa using q)] at e
      cases e
      refine ⟨v, ?_, h1⟩
      rw [List.lookup_cons, ← q]
      simp
    · rw [List.find?_cons_of_neg (by simpa using q)] at e
      obtain ⟨v', h2, h3⟩ := RepF.val k h e
      refine ⟨v', ?_, h3⟩
      rw [List.lookup_cons]
      have : (k == k0) = false := by simpa using (fun z => q z.symm)
      rw [this]
      exact h2
/-- o.f of an object of class C -/
def dFldC (C f : Str) : D → Option AV
  | .ins C' fs => if C' = C then (gv fs f).map .fz else none
  | _ => none
theorem px_fld {C f : Str} (hC : ClsOk X C f) (ho : PRc X o r) (hb : attributeBase o f X.env (eval o X.env) = eval o X.env) : PX X (.Attribute o f pos) (x1 (dFldC C f) r) :=
  pe_imp (pe_fld ho hb) fun σ H Q h => x1u_run (r := fun x H1 Q => ∃ a C dx fs v, x = .ref a ∧ H1 a = some (.ins C dx fs) ∧ Cls X.K C ∧ NoAttr X.K C f ∧ fs.lookup f = some v ∧ Q v H1) (fun {Fr F H s σ a c x} st e vx Q q => by
    unfold dFldC at e
    split at e
    · split at e
      · rename_i C' fs hc
        subst hc
        obtain ⟨d, e1, e2⟩ := Option.map_eq_some_iff.mp e
        subst e2
        obtain ⟨p, Ca, dx, ws, rfl, hp, hm, rf⟩ := vw_ins st.sub vx
        obtain ⟨v, h1, h2⟩ := rf.val f e1
        exact ⟨p, Ca, dx, ws, v, rfl, hp, (hC Ca hm).1, (hC Ca hm).2, h1, q v F H (Same.refl _) st (av_fz h2)⟩
      · cases e
    · cases e) h
/-! ### isinstance -/
theorem vw_type {Fr : Fx} {F H : Hp} {s : List SV} {σ : List (Option V)} {d : D} {v : V} {t : String} (st : StF X.K X.mg Fr F s σ H) (h : View X.K X.mg F H d v) (e : tyD d = some t) : TyX X.K H v (.type t) := by
  cases d with
  | non => cases e; rw [vw_non h]; exact .base .non
  | bl b => cases e; rw [vw_bl h]; exact .base (.bl b)
  | int b => cases e; rw [vw_int h]; exact .base (.int b)
  | str b => cases e; rw [vw_str h]; exact .base (.str b)
  | lst ds =>
    cases e
    obtain ⟨l, vs, rfl, hl, r⟩ := vw_lst st.sub h
    rcases hl with hl | ⟨o, hl⟩
    · exact .base (.lst hl)
    · exact .base (.frz hl)
  | tup ds =>
    cases e
    obtain ⟨l, vs, rfl, hl, r⟩ := vw_tup st.sub h
    exact .base (.tup hl)
  | dK ds =>
    cases e
    obtain ⟨l, vs, rfl, hl, r⟩ := vw_dK st.sub h
    rcases hl with hl | ⟨o, hl⟩
    · exact .base (.dK hl)
    · exact .fDict hl
  | dT ds => cases e
  | ins _ _ => cases e
  | scr _ => cases e
  | ctp _ => cases e
/-- the kinds of things that are asked of -/
def tyNames : List String := ["NoneType", "bool", "int", "str", "list", "tuple", "dict"]
theorem tyD_in {d : D} {t : String} (e : tyD d = some t) : t ∈ tyNames := by
  cases d <;> cases e <;> decide
theorem kit_all {K : PySem.W.Frag} {n t : String} (ht : t ∈ tyNames) (hn : (tyNames.all fun t => kitB t n == some (isaB n t)) = true) : PySem.W.kitOne K (.type t) (.type n) = some (isaB n t) := by
  have z := (List.all_eq_true.mp hn) t ht
  exact kit_ty (by simpa using z)
theorem px_isa {p pc : Pos} {cn n : Str} {nm : String} (hg : Gl X "isinstance") (hm : X.mg "isinstance" = none) (hv : bootBuiltins "isinstance" = some (.builtin "isinstance")) (ha : PRc X e r) (hc : PE X c (tC (.ty nm))) (hk : (tyNames.all fun t => kitB t nm == some (isaB nm t)) = true)
    (he : starEach [e, c] X.env = (false, eval e X.env) :: starEach [c] X.env) (he2 : starEach [c] X.env = [(false, eval c X.env)]) (hpl : (backTo pos (starEach [c] X.env)).any (·.1) = false) :
    PX X (.Call (.Name "isinstance" p) [e, c] [] pos) (x1 (dIsa [nm]) r) := by
  have hA : PA X [e, c] (tCons (tRc X.K X.mg r) (tCons (tC (.ty nm)) tNil)) := pa_cons ha (pa_cons hc pa_nil he2) he
  refine pe_imp (pe_callB call_isi hg hm hv hA (by decide) (by decide) he hpl) fun σ H Q h => ?_
  refine x1u_run (r := fun x H1 Q => rIsi X.K [x, .ty nm] H1 Q) (fun {Fr F H s σ a c x} st e vx Q q => ?_) h
  unfold dIsa at e
  obtain ⟨t, e1, e2⟩ := Option.map_eq_some_iff.mp e
  subst e2
  refine ⟨x, .ty nm, .type t, .type nm, isaB nm t, rfl, .ty nm, vw_type st vx e1, kit_all (tyD_in e1) hk, q _ F H (Same.refl _) st ?_⟩
  have z : ([nm].any fun n => isaB n t) = isaB nm t := by rw [List.any_cons, List.any_nil, Bool.or_false]
  rw [z]
  exact av_fb
/-- isinstance(x, (n, m)) -/
theorem px_isa2 {p pc pd pt : Pos} {n m : String} {k} {c d : Expr} (hg : Gl X "isinstance") (hm : X.mg "isinstance" = none) (hv : bootBuiltins "isinstance" = some (.builtin "isinstance")) (ha : PRc X e r) (hc : PE X c (tC (.ty n))) (hd : PE X d (tC (.ty m)))
    (hk : (tyNames.all fun t => kitB t n == some (isaB n t)) = true) (hk2 : (tyNames.all fun t => kitB t m == some (isaB m t)) = true)
    (hs1 : starEach [c, d] X.env = (false, eval c X.env) :: starEach [d] X.env) (hs2 : starEach [d] X.env = [(false, eval d X.env)])
    (he : starEach [e, .Tuple [c, d] k pt] X.env = (false, eval e X.env) :: starEach [.Tuple [c, d] k pt] X.env) (he2 : starEach [.Tuple [c, d] k pt] X.env = [(false, eval (.Tuple [c, d] k pt) X.env)]) (hpl : (backTo pos (starEach [.Tuple [c, d] k pt] X.env)).any (·.1) = false) :
    PX X (.Call (.Name "isinstance" p) [e, .Tuple [c, d] k pt] [] pos) (x1 (dIsa [n, m]) r) := by
  have hT : PE X (.Tuple [c, d] k pt) (tTup (tCons (tC (.ty n)) (tCons (tC (.ty m)) tNil))) := pe_tup (pa_cons hc (pa_cons hd pa_nil hs2) hs1)
  have hA : PA X [e, .Tuple [c, d] k pt] (tCons (tRc X.K X.mg r) (tCons (tTup (tCons (tC (.ty n)) (tCons (tC (.ty m)) tNil))) tNil)) := pa_cons ha (pa_cons hT pa_nil he2) he
  refine pe_imp (pe_callB call_isiT hg hm hv hA (by decide) (by decide) he hpl) fun σ H Q h => ?_
  refine x1u_run (r := fun x H1 Q => tTup (tCons (tC (.ty n)) (tCons (tC (.ty m)) tNil)) σ H1 fun y H2 => rIsiT X.K [x, y] H2 Q) (fun {Fr F H s σ' a c x} st e vx Q q => ?_) h
  unfold dIsa at e
  obtain ⟨t, e1, e2⟩ := Option.map_eq_some_iff.mp e
  subst e2
  refine ⟨by show 2 ≤ sizeLine; decide, fun tp hp => ?_⟩
  have st2 := st.new (o := .tup [.ty n, .ty m]) hp
  have vx2 : View X.K X.mg F (upd H tp (.tup [.ty n, .ty m])) a x := by
    rcases vx with vx | ⟨p, o, rfl, h1, h2⟩
    · exact .inl vx
    · refine .inr ⟨p, o, rfl, ?_, h2⟩
      rcases h1 with h1 | ⟨od, h1⟩
      · exact .inl (by rw [upd_ne (ne_of_none h1 hp)]; exact h1)
      · exact .inr ⟨od, by rw [upd_ne (ne_of_none h1 hp)]; exact h1⟩
  refine ⟨x, tp, [.ty n, .ty m], .type t, [.type n, .type m], isaB n t || isaB m t, rfl, upd_same, .cons (.ty n) (.cons (.ty m) .nil), vw_type st2 vx2 e1, ?_, q _ F _ (Same.refl _) st2 ?_⟩
  · refine kitAny_cons (kit_all (tyD_in e1) hk) (fun hb => ?_) (fun hb => by rw [hb]; rfl)
    rw [hb, Bool.false_or]
    refine kitAny_cons (kit_all (tyD_in e1) hk2) (fun hb => ?_) (fun hb => by rw [hb])
    rw [hb]
    exact kitAny_nil
  · have z : ([n, m].any fun n => isaB n t) = (isaB n t || isaB m t) := by rw [List.any_cons, List.any_cons, List.any_nil, Bool.or_false]
    rw [z]
    exact av_fb
/-! ### displays -/
theorem Views.reps {K : PySem.W.Frag} {mg : Str → Option Value} {F H : Hp} (all : ∀ d v, View K mg F H d v → Rep K mg F d v) : ∀ {ds : List D} {vs : List V}, Views K mg F H ds vs → Reps K mg F ds vs
  | [], vs, h => by unfold Views at h; subst h; exact reps_nil
  | d :: ds, vs, h => by
    unfold Views at h
    obtain ⟨v, r, rfl, h1, h2⟩ := h
    exact reps_cons (all d v h1) (Views.reps all h2)
/-- operands that are all values -/
def allE : List Rc → Bool
  | [] => true
  | .e _ :: rs => allE rs
  | .v _ :: _ => false
  | .f _ _ _ _ :: _ => false
theorem PendL.reps {K : PySem.W.Frag} {mg : Str → Option Value} {F : Hp} {σ : List (Option V)} {s : List SV} : ∀ {rs : List Rc} {as : List (Option D)} {vs : List V} {ds : List D}, allE rs = true → PendL K mg F σ rs as vs → finL rs as s = some ds → Reps K mg F ds vs
  | [], _, _, _, _, h, e => by
    obtain ⟨rfl, rfl⟩ := h
    cases e
    exact reps_nil
  | .v _ :: rs, _, _, _, a, _, _ => by cases a
  | .f _ _ _ _ :: rs, _, _, _, a, _, _ => by cases a
  | .e m :: rs, _, _, _, a, h, e => by
    obtain ⟨a0, as', v, vs', rfl, rfl, p, q⟩ := h
    unfold finL at e
    simp only [List.head?_cons, Option.getD_some, List.tail_cons] at e
    split at e
    · rename_i d1 ds1 f1 f2
      cases e
      obtain ⟨d, rfl, r⟩ := p
      cases f1
      exact reps_cons r (PendL.reps (rs := rs) a q f2)
    · cases e
theorem finL_len : ∀ {rs : List Rc} {as : List (Option D)} {s : S} {ds : List D}, finL rs as s = some ds → ds.length = rs.length
  | [], _, _, _, e => by cases e; rfl
  | r :: rs, as, s, _, e => by
    unfold finL at e
    split at e
    · rename_i d1 ds1 f1 f2
      cases e
      rw [List.length_cons, List.length_cons, finL_len f2]
    · cases e
theorem xL_run {f : List D → Option AV} {rs : List Rc} {σ : L2.St} {H : Hp} {Q : VK} {R : List V → Hp → Prop} (hE : allE rs = true)
    (k : ∀ {Fr : Fx} {F H : Hp} {s : List SV} {ds : List D} {c : AV} {vs : List V}, ds.length = rs.length → StF X.K X.mg Fr F s σ H → f ds = some c → Reps X.K X.mg F ds vs → (∀ v F' H', Same F F' → StF X.K X.mg Fr F' s σ H' → AVal X.K X.mg Fr F' H' s σ c v → Q v H') → R vs H)
    (h : tO X.K X.mg (xL f rs) σ H Q) : tRcs X.K X.mg rs σ H R := by
  obtain ⟨Fr, G, s, d, s', st, em, q⟩ := h
  unfold xL at em
  split at em
  · rename_i p s1 e1
    obtain ⟨z, e2, e3⟩ := Option.map_eq_some_iff.mp em
    cases e3
    unfold evL at e1
    split at e1
    · rename_i as s2 e4
      split at e1
      · rename_i ds e5
        cases e1
        exact preL_run st e4 fun vs F H' k' st' pl => k (finL_len e5) st' e2 (pl.reps hE e5) fun v F' H2 k2 st2 av => q v F' H2 (k'.trans k2) st2 av
      · cases e1
    · cases e1
  · cases em
/-- a list of operands, by their places -/
abbrev PAr (X : Cx) (es : List Expr) (rs : List Rc) : Prop := PA X es (tRcs X.K X.mg rs)
theorem par_nil : PAr X [] [] := pa_nil
theorem par_cons {es : List Expr} {rs : List Rc} (h : PRc X e r) (t : PAr X es rs) (hs : starEach (e :: es) X.env = (false, eval e X.env) :: starEach es X.env) : PAr X (e :: es) (r :: rs) := pa_cons h t hs
theorem px_list {es : List Expr} {rs : List Rc} (h : PAr X es rs) (hE : allE rs = true) (hl : rs.length ≤ SZ) : PX X (.List es pos) (xL dLst rs) :=
  pe_imp (pe_lst h) fun σ H Q q => xL_run hE (fun {Fr F H s ds c vs} l st e r q' => by
    cases e
    exact ⟨by rw [← r.len, l, ← sz_line]; exact hl, new_lst st r q'⟩) q
theorem px_tup {es : List Expr} {rs : List Rc} {k} (h : PAr X es rs) (hE : allE rs = true) (hl : rs.length ≤ SZ) : PX X (.Tuple es k pos) (xL dTup rs) :=
  pe_imp (pe_tup h) fun σ H Q q => xL_run hE (fun {Fr F H s ds c vs} l st e r q' => by
    cases e
    exact ⟨by rw [← r.len, l, ← sz_line]; exact hl, new_tup st r q'⟩) q
/-- {} -/
def dNewK : XM := xC0 (.ow (.dK []))
def dNewT : XM := xC0 (.ow (.dT []))
theorem px_dnewK : PX X (.Dict [] [] pos) dNewK := pe_imp pe_dnewK fun σ H Q q => by
  obtain ⟨Fr, G, s, d, s', st, em, q⟩ := q
  cases em
  exact new_dK st repk_nil q
theorem px_dnewT : PX X (.Dict [] [] pos) dNewT := pe_imp pe_dnewT fun σ H Q q => by
  obtain ⟨Fr, G, s, d, s', st, em, q⟩ := q
  cases em
  exact fun p hp => q _ G _ (Same.refl _) (st.new hp) (st.avNew hp ⟨[], rfl, rept_nil⟩)
/-! ### a thing laid for a while -/
section
variable {K : PySem.W.Frag} {mg : Str → Option Value} {Fr : Fx} {F H : Hp} {s : List SV} {σ : List (Option V)} {p : Addr} {o : HO}
theorem StF.hold (st : StF K mg Fr F s σ H) (hp : H p = none) : StF K mg ⟨upd Fr.hp p o, Fr.lt⟩ F s σ (upd H p o) := by
  have z := st.new (o := o) hp
  refine ⟨z.sub, fun b u e => ?_, fun b u e => ?_, z.len, fun i a e => ?_, z.lent, z.apart⟩
  · have e : upd Fr.hp p o b = some u := e
    by_cases hb : b = p
    · rw [hb, upd_same] at e ⊢; exact e
    · rw [upd_ne hb] at e; exact z.fr b u e
  · have e : upd Fr.hp p o b = some u := e
    by_cases hb : b = p
    · rw [hb]; exact st.sub.free hp
    · rw [upd_ne hb] at e; exact z.dis b u e
  · obtain ⟨w, hw, q⟩ := st.slot i a e
    refine ⟨w, hw, ?_⟩
    have go : ∀ b u, Fr b = none → H b = some u → upd Fr.hp p o b = none ∧ upd H p o b = some u := fun b u h2 h3 => by
      rw [upd_ne (ne_of_none h3 hp), upd_ne (ne_of_none h3 hp)]
      exact ⟨h2, h3⟩
    cases a with
    | un => trivial
    | fz d => exact q
    | ow d => obtain ⟨b, u, e1, h1, h2, h3, h4⟩ := q; exact ⟨b, u, e1, h1, (go b u h2 h3).1, (go b u h2 h3).2, h4⟩
    | io d => obtain ⟨b, u, e1, h1, h2, h3, h4⟩ := q; exact ⟨b, u, e1, h1, (go b u h2 h3).1, (go b u h2 h3).2, h4⟩
    | ob C fl => exact ObF.mono q (Same.refl _) (fun x C dx ws e => (upd_ne (ne_of_none (st.fr _ _ e) hp)).trans e) fun _ z => z
    | lk d => exact LkF.mono q (Same.refl _) fun x od u e => (upd_ne (ne_of_none (st.fr _ _ e) hp)).trans e
/-- .. is nobody's behind it, and may be changed -/
theorem StF.loose {u : HO} (st : StF K mg ⟨upd Fr.hp p o, Fr.lt⟩ F s σ H) (hp : Fr p = none) (no : ∀ C dx ws, o ≠ .ins C dx ws) (nf : ∀ od u, o ≠ .frz od u := by intro _ _ z; cases z) : StF K mg Fr F s σ (upd H p u) ∧ H p = some o ∧ F p = none ∧ ∀ (i : Nat) (a : SV), s[i]? = some a → a.own = true → σ[i]? ≠ some (some (V.ref p)) := by
  have ep : (⟨upd Fr.hp p o, Fr.lt⟩ : Fx).hp p = some o := upd_same
  have e1 : H p = some o := st.fr _ _ ep
  have e2 : F p = none := st.dis _ _ ep
  have ap : ∀ (i : Nat) (a : SV), s[i]? = some a → a.own = true → σ[i]? ≠ some (some (V.ref p)) := fun i a e ha hi => by
    obtain ⟨w, hw, q⟩ := st.slot i a e
    rw [hi] at hw
    cases hw
    cases a with
    | un => cases ha
    | fz d => cases ha
    | ow d => obtain ⟨p', o', e', _, h2, _, _⟩ := q; cases e'; rw [ep] at h2; cases h2
    | io d => obtain ⟨p', o', e', _, h2, _, _⟩ := q; cases e'; rw [ep] at h2; cases h2
    | ob _ _ => cases ha
    | lk _ => cases ha
  refine ⟨⟨fun b v e => ?_, fun b v e => ?_, fun b v e => ?_, st.len, fun i a e => ?_, st.lent, st.apart⟩, e1, e2, ap⟩
  · rw [upd_ne (ne_of_none e e2)]; exact st.sub b v e
  · have ne : b ≠ p := ne_of_none e hp
    have e' : (⟨upd Fr.hp p o, Fr.lt⟩ : Fx).hp b = some v := by show upd Fr.hp p o b = some v; rw [upd_ne ne]; exact e
    rw [upd_ne ne]; exact st.fr b v e'
  · have ne : b ≠ p := ne_of_none e hp
    have e' : (⟨upd Fr.hp p o, Fr.lt⟩ : Fx).hp b = some v := by show upd Fr.hp p o b = some v; rw [upd_ne ne]; exact e
    exact st.dis b v e'
  · obtain ⟨w, hw, q⟩ := st.slot i a e
    refine ⟨w, hw, ?_⟩
    have go : ∀ b v, w = some (V.ref b) → a.own = true → (upd Fr.hp p o) b = none → H b = some v → Fr b = none ∧ (upd H p u) b = some v := fun b v e3 ha h2 h3 => by
      have ne : b ≠ p := fun z => ap i a e ha (by rw [hw, e3, z])
      rw [upd_ne ne] at h2 ⊢
      exact ⟨h2, h3⟩
    cases a with
    | un => trivial
    | fz d => exact q
    | ow d => obtain ⟨b, v, e3, h1, h2, h3, h4⟩ := q; obtain ⟨g1, g2⟩ := go b v e3 rfl h2 h3; exact ⟨b, v, e3, h1, g1, g2, h4⟩
    | io d => obtain ⟨b, v, e3, h1, h2, h3, h4⟩ := q; obtain ⟨g1, g2⟩ := go b v e3 rfl h2 h3; exact ⟨b, v, e3, h1, g1, g2, h4⟩
    | ob C fl => exact ObF.mono q (Same.refl _) (fun x C dx ws e => by
        have e : upd Fr.hp p o x = some (.ins C dx ws) := e
        by_cases hx : x = p
        · rw [hx, upd_same] at e; exact absurd (Option.some.inj e) (no _ _ _)
        · rw [upd_ne hx] at e; exact e) fun _ z => z
    | lk d => exact LkF.mono q (Same.refl _) (fun x od v e => by
        have e : upd Fr.hp p o x = some (.frz od v) := e
        by_cases hx : x = p
        · rw [hx, upd_same] at e; exact absurd (Option.some.inj e) (nf _ _)
        · rw [upd_ne hx] at e; exact e)
end
/-! ### a written dict -/
/-- the keys' and values' operands, one pair behind the other -/
inductive PPr (X : Cx) (pos : Pos) : List (Option Expr) → List Expr → List Rc → Prop
  | nil : PPr X pos [] [] []
  | cons {k v : Expr} {ks : List (Option Expr)} {vs : List Expr} {a b : XM} {rs : List Rc} : PX X k a → PX X v b → PPr X pos ks vs rs → PPr X pos (some k :: ks) (v :: vs) (.e a :: .e b :: rs)
theorem PPr.all {keys : List (Option Expr)} {values : List Expr} {rs : List Rc} (h : PPr X pos keys values rs) : allE rs = true ∧ keys.all (·.isSome) = true ∧ keys.length = values.length ∧ rs.length = 2 * keys.length := by
  induction h with
  | nil => exact ⟨rfl, rfl, rfl, rfl⟩
  | cons _ _ _ ih =>
    obtain ⟨h1, h2, h3, h4⟩ := ih
    exact ⟨h1, by rw [List.all_cons, h2]; rfl, by rw [List.length_cons, List.length_cons, h3], by rw [List.length_cons, List.length_cons, List.length_cons, h4]; omega⟩
/-- two by two -/
def two : List V → List (V × V)
  | a :: b :: r => (a, b) :: two r
  | _ => []
/-! ### slices -/
def tPrt (K : PySem.W.Frag) (mg : Str → Option Value) : Option XM → TO
  | none => tNoPart
  | some m => tPart (tO K mg m)
theorem prt_run {K : PySem.W.Frag} {mg : Str → Option Value} {Fr : Fx} {G H0 : Hp} {s s' : List SV} {σ : List (Option V)} {r : Option XM} {o : Option Int} (st : StF K mg Fr G s σ H0) (e : prt r s = some (o, s')) {R : Option Int → Hp → Prop}
    (q : ∀ F H', Same G F → StF K mg Fr F s' σ H' → R o H') : tPrt K mg r σ H0 R := by
  cases r with
  | none =>
    cases e
    exact q G H0 (Same.refl _) st
  | some m =>
    simp only [prt] at e
    split at e
    · rename_i i s1 e1
      cases e
      exact ⟨Fr, G, s, _, s', st, e1, fun v F H' k st' av => ⟨i, rep_int' (show Rep K mg F (.int i) v from av), q F H' k st'⟩⟩
    · cases e
structure POr (X : Cx) (e : Option Expr) (r : Option XM) : Prop where
  po : PO X e (tPrt X.K X.mg r)
theorem por_none : POr X none none := ⟨po_none⟩
theorem por_some {m : XM} (h : PX X e m) : POr X (some e) (some m) := ⟨po_some h⟩
theorem cut_V {K : PySem.W.Frag} {mg : Str → Option Value} {F : Hp} {ds : List D} {vs : List V} (l h : Option Int) (r : Reps K mg F ds vs) : Reps K mg F (cut ds l h) (cutV vs l h) := by
  have e : ∀ n d o, cutIx n d o = HT.sIx n d o := fun n d o => by cases o <;> rfl
  unfold cut cutV
  rw [← r.len, e, e]
  exact (r.drop _).take _
theorem px_slice {lo hi : Option Expr} {rl rh : Option XM} {p2 : Pos} (he : PRc X e r) (hl : POr X lo rl) (hh : POr X hi rh) : PX X (.Subscript e (.Slice lo hi none p2) pos) (xSl r rl rh) := by
  refine pe_imp (pe_slice (SlR.or sl_list sl_tupA) he hl.po hh.po) fun σ H Q q => ?_
  obtain ⟨Fr, G, s, d, s', st, em, q⟩ := q
  unfold xSl at em
  split at em
  · rename_i a s1 e1
    split at em
    · rename_i l s2 e2
      split at em
      · rename_i h s3 e3
        split at em
        · rename_i dd e4
          obtain ⟨z, e5, e6⟩ := Option.map_eq_some_iff.mp em
          cases e6
          refine pre_run st e1 fun v F1 H1 k1 st1 pd => prt_run st1 e2 fun F2 H2 k2 st2 => prt_run st2 e3 fun F3 H3 k3 st3 => ?_
          have vw := (pd.mono (k2.trans k3)).view st3 e4
          unfold dSl at e5
          split at e5
          · cases e5
            obtain ⟨p, vs, rfl, hp, rr⟩ := vw_lst st3.sub vw
            exact .inl ⟨p, vs, rfl, .inl hp, new_lst st3 (cut_V l h rr) fun v F' H' k' st' av => q v F' H' (((k1.trans k2).trans k3).trans k') st' av⟩
          · rename_i ns
            cases e5
            obtain ⟨p, rfl, hp⟩ := vw_scr st3.sub vw
            have ec : (cut ns l h).map D.int = cut (ns.map D.int) l h := by
              unfold cut
              rw [List.length_map, List.map_take, List.map_drop]
            rw [ec] at q
            exact .inl ⟨p, ns.map V.int, rfl, hp, new_lst st3 (cut_V l h (reps_int ns)) fun v F' H' k' st' av => q v F' H' (((k1.trans k2).trans k3).trans k') st' av⟩
          · rename_i xs
            cases e5
            have vw0 := vw
            obtain ⟨p, vs, rfl, hp, rr⟩ := vw_tup st3.sub vw
            have cv := cut_V l h rr
            refine .inr ⟨p, vs, rfl, .of hp, fun hw => ?_, fun _ => new_tup st3 cv fun v F' H' k' st' av => q v F' H' (((k1.trans k2).trans k3).trans k') st' av⟩
            have e : ∀ n d o, cutIx n d o = HT.sIx n d o := fun n d o => by cases o <;> rfl
            have ed : cut xs l h = xs := by
              unfold cut
              rw [e, e, rr.len, hw.1, hw.2, List.drop_zero, Nat.sub_zero, ← rr.len]
              exact List.take_length
            rw [ed] at q
            exact q _ F3 H3 ((k1.trans k2).trans k3) st3 (av_fz (vw_tupR vw0))
          · cases e5
        · cases em
      · cases em
    · cases em
  · cases em
/-! ### d.get(k, x) -/
/-! ### tests -/
theorem truthy_D {pins : List (Addr × Obj)} {σ : L2.St} {Fr : Fx} {H F : Hp} {s0 : Shared} {s : List SV} {d : D} {x : V} {v : Value} {b : Bool} {Q : Bool → Hp → Prop} (I : Inv X pins σ H s0) (st : StF X.K X.mg Fr F s σ H) (h : Rep X.K X.mg F d x) (r : RelV x v) (e : dTru d = some b) (q : Q b H) :
    wpAny (model X.prog X.w) X.A (truthy v) (TP X pins σ Q) X.xe s0 := by
  have go : (∃ k, TruV X.K x H k ∧ Q k H) → wpAny (model X.prog X.w) X.A (truthy v) (TP X pins σ Q) X.xe s0 := fun h => tru_ok pins s0 σ H x v Q I r h
  have vw : View X.K X.mg F H d x := .inl h
  cases d with
  | non => cases e; rw [rep_non' h] at go; exact go ⟨_, rfl, q⟩
  | bl k => cases e; rw [rep_bl' h] at go; exact go ⟨_, rfl, q⟩
  | int k => cases e; rw [rep_int' h] at go; exact go ⟨_, rfl, q⟩
  | str k => cases e
  | ins _ _ => cases e
  | scr _ => cases e
  | ctp _ => cases e
  | lst ds =>
    cases e
    obtain ⟨p, vs, rfl, hp, rr⟩ := vw_lst st.sub vw
    refine go ⟨_, .inl ⟨vs, .inl hp, rfl⟩, ?_⟩
    have : vs.isEmpty = ds.isEmpty := by have := rr.len; cases ds <;> cases vs <;> simp at this ⊢
    rw [this]; exact q
  | tup ds =>
    cases e
    obtain ⟨p, vs, rfl, hp, rr⟩ := vw_tup st.sub vw
    refine go ⟨_, .inr (.inl ⟨vs, .inl (.inl hp), rfl⟩), ?_⟩
    have : vs.isEmpty = ds.isEmpty := by have := rr.len; cases ds <;> cases vs <;> simp at this ⊢
    rw [this]; exact q
  | dK ds =>
    cases e
    obtain ⟨p, vs, rfl, hp, rr⟩ := vw_dK st.sub vw
    cases r
    have : vs.isEmpty = ds.isEmpty := by have := rr.len; cases ds <;> cases vs <;> simp at this ⊢
    refine d_truth I hp fun s' I' => ⟨H, I', ?_⟩
    rw [this]; exact q
  | dT ds => cases e
/-- truth of any value, a locked dict's too -/
theorem pt_T {m : XM} (h : PX X e m) (he : ∀ whole, isTrue e X.env whole = (do let v ← whole; standAt e.pos; holding [v] (truthy v))) : PTt X e (tTru m) := by
  refine ⟨fun pins s0 σ H Q I q => ?_⟩
  obtain ⟨Fr, G, s, d, s', st, em, q⟩ := q
  unfold tTru at em
  split at em
  · rename_i a s1 e1
    obtain ⟨b, e2, e3⟩ := Option.map_eq_some_iff.mp em
    cases e3
    refine PyProof.Rows.isTrue_plain (thn (pe_F h |>.run pins s0 σ H (fun v H' => ∃ F, StF X.K X.mg Fr F s' σ H' ∧ Rep X.K X.mg F a.d v ∧ Q d H') I ⟨Fr, G, s, a.d, s', st, by unfold xF; rw [e1], fun v F H' k st' r => ⟨F, st', r, q F H' k st'⟩⟩) fun v s1 ⟨x, H1, I1, r1, F, st1, rep, q1⟩ => ?_) (he _)
    exact truthy_D I1 st1 rep r1 e2 q1
  · cases em
theorem pw_O {b : Expr} {t u : TM} {rest : List Expr} (ha : PTt X a t) (hb : PW X (.BoolOp .Or (b :: rest) pos) (tM X.K X.mg u)) : PW X (.BoolOp .Or (a :: b :: rest) pos) (tM X.K X.mg (PV.tOr t u)) := by
  refine ⟨fun wh pins s0 σ H Q I q => (pw_or ha hb).run wh pins s0 σ H Q I ?_⟩
  obtain ⟨Fr, G, s, d, s', st, em, q⟩ := q
  unfold PV.tOr at em
  split at em
  · rename_i s1 e1
    exact ⟨Fr, G, s, false, s1, st, e1, fun F H' k st' => iteF ⟨Fr, F, s1, d, s', st', em, fun F' H2 k' st2 => q F' H2 (k.trans k') st2⟩⟩
  · rename_i hn
    cases d with
    | false => exact absurd em (by intro z; exact hn _ z)
    | true => exact ⟨Fr, G, s, true, s', st, em, fun F H' k st' => iteT (q F H' k st')⟩
theorem pt_N {t : TM} (ha : PTt X a t) : PTt X (.UnaryOp .Not a pos) (PV.tNot t) := pt_imp (pt_not ha) fun σ H Q q => by
  obtain ⟨Fr, G, s, d, s', st, em, q⟩ := q
  unfold PV.tNot at em
  split at em
  · rename_i b s1 e1
    cases em
    exact ⟨Fr, G, s, b, s', st, e1, fun F H' k st' => q F H' k st'⟩
  · cases em
theorem px_if {b : Expr} {t : TM} {m n : XM} (hc : PTt X c t) (ha : PX X a m) (hb : PX X b n) : PX X (.IfExp c a b pos) (xIf t m n) := pe_imp (pe_ifExp hc ha hb) fun σ H Q q => by
  obtain ⟨Fr, G, s, d, s', st, em, q⟩ := q
  unfold xIf at em
  split at em
  · rename_i s1 e1
    exact ⟨Fr, G, s, true, s1, st, e1, fun F H' k st' => iteT ⟨Fr, F, s1, d, s', st', em, fun v F' H2 k' st2 => q v F' H2 (k.trans k') st2⟩⟩
  · rename_i s1 e1
    exact ⟨Fr, G, s, false, s1, st, e1, fun F H' k st' => iteF ⟨Fr, F, s1, d, s', st', em, fun v F' H2 k' st2 => q v F' H2 (k.trans k') st2⟩⟩
  · cases em
end
end PV
/-! PvS: statements, targets, loops. -/
namespace PV
open PySem L2
theorem asgTs_len : ∀ (ts : List Tg) {ds : List D} {s s' : List SV}, asgTs ts ds s = some s' → ts.length = ds.length
  | [], ds, s, s', e => by
    cases ds with
    | nil => rfl
    | cons _ _ => unfold asgTs at e; cases e
  | t :: ts, ds, s, s', e => by
    cases ds with
    | nil => unfold asgTs at e; cases e
    | cons d ds =>
      unfold asgTs at e
      split at e
      · rename_i s1 e1
        rw [List.length_cons, List.length_cons, asgTs_len ts e]
      · cases e
section
variable {K : PySem.W.Frag} {mg : Str → Option Value} {Fr : Fx} {F H : Hp} {s s' : List SV} {σ : List (Option V)} {v : V} {d : D} {i : Nat}
theorem EndS.same {D1 D2 : Ends} {o : Out} (h : EndS K mg D1 Fr F s σ H o) (e1 : o = .nx → D1.nx σ H → D2.nx σ H) (e2 : D1.rt = D2.rt) (e3 : D1.bk = D2.bk) (e4 : D1.ct = D2.ct) : EndS K mg D2 Fr F s σ H o := by
  cases o with
  | nx => exact e1 rfl h
  | bk => exact (show D2.bk σ H from e3 ▸ h)
  | ct => exact (show D2.ct σ H from e4 ▸ h)
  | rt a => exact fun v av => (show D2.rt v H from e2 ▸ h v av)
/-- a slot takes a value that is handed on -/
theorem put_run {a : AV} (st : StF K mg Fr F s σ H) (av : AVal K mg Fr F H s σ a v) (e : put i a.sv s = some s') : StF K mg Fr F s' (σ.set i (some v)) H := by
  unfold put at e
  split at e
  · rename_i b eb
    split at e
    · cases e
    rename_i hb
    cases e
    have hi : i < s.length := lt_of_get eb
    refine st.set_slot hi ?_ (fun ho p ep j c hj ej oc ec => ?_) fun p m => (st.not_lent eb (by simpa using hb) p m).elim
    · cases a with
      | fz d => exact ⟨v, rfl, av⟩
      | ow d => obtain ⟨p, o, rfl, h1, h2, h3, h4, h5⟩ := av; exact ⟨p, o, rfl, h1, h2, h3, h4⟩
    · cases a with
      | fz d => cases ho
      | ow d => obtain ⟨p', o, rfl, h1, h2, h3, h4, h5⟩ := av; cases ep; exact h5 j c ej oc ec
  · cases e
/-- a, b, .. = a tuple or a list of that length -/
def gSeq (K : PySem.W.Frag) (n : Nat) (t : TGs) : TG := fun v σ H Q => gTup K n t v σ H Q ∨ gLst K n t v σ H Q
theorem pg_seq {X : Cx} {pos : Pos} {es : List Expr} {k : Nat} {t : TGs} {n : Nat} (hc : X.calm = true) (h : PGs X es t)
    (hn : (assignEach es X.env).length = n := by rfl) (hst : (assignEach es X.env).findIdx? (·.1) = none := by rfl) : PG X (.Tuple es k pos) (gSeq X.K n t) := by
  refine ⟨fun pins s σ H v u Q I r hw => ?_⟩
  rcases hw with hw | hw
  · exact (pg_tup hc h hn hst).run pins s σ H v u Q I r hw
  · exact (pg_lst hc h hn hst).run pins s σ H v u Q I r hw
mutual
def tG (K : PySem.W.Frag) : Tg → TG
  | .nm i => gName i
  | .tp ts => gSeq K ts.length (tGs K ts)
def tGs (K : PySem.W.Frag) : List Tg → TGs
  | [] => gNil
  | t :: ts => gCons (tG K t) (tGs K ts)
end
mutual
theorem asgT_run : ∀ (tg : Tg) {d : D} {v : V} {s s' : List SV} {σ : List (Option V)} {R : L2.St → Hp → Prop}, StF K mg Fr F s σ H → Rep K mg F d v → asgT tg d s = some s' → (∀ σ', StF K mg Fr F s' σ' H → R σ' H) → tG K tg v σ H R
  | .nm i, d, v, s, s', σ, R, st, r, e, q => by
    unfold tG
    unfold asgT at e
    exact q _ (put_run (a := .fz d) st r e)
  | .tp ts, d, v, s, s', σ, R, st, r, e, q => by
    unfold tG
    unfold asgT at e
    cases d with
    | tup ds =>
      unfold Rep at r
      obtain ⟨a, vs, rfl, ha, rr⟩ := r
      refine .inl ⟨a, vs, rfl, .inl (.inl (st.sub _ _ ha)), ?_, asgTs_run ts st rr e q⟩
      rw [← rr.len]
      exact (asgTs_len ts e).symm
    | lst ds =>
      unfold Rep at r
      obtain ⟨a, vs, rfl, ha, rr⟩ := r
      refine .inr ⟨a, vs, rfl, .inl (rd_mono st.sub ha), ?_, asgTs_run ts st rr e q⟩
      rw [← rr.len]
      exact (asgTs_len ts e).symm
    | _ => cases e
theorem asgTs_run : ∀ (ts : List Tg) {ds : List D} {vs : List V} {s s' : List SV} {σ : List (Option V)} {R : L2.St → Hp → Prop}, StF K mg Fr F s σ H → Reps K mg F ds vs → asgTs ts ds s = some s' → (∀ σ', StF K mg Fr F s' σ' H → R σ' H) → tGs K ts vs σ H R
  | [], ds, vs, s, s', σ, R, st, r, e, q => by
    unfold tGs
    cases ds with
    | nil =>
      unfold Reps at r
      unfold asgTs at e
      cases e
      exact ⟨r, q σ st⟩
    | cons _ _ => unfold asgTs at e; cases e
  | t :: ts, ds, vs, s, s', σ, R, st, r, e, q => by
    unfold tGs
    cases ds with
    | nil => unfold asgTs at e; cases e
    | cons d ds =>
      unfold Reps at r
      obtain ⟨v, vr, rfl, h1, h2⟩ := r
      unfold asgTs at e
      split at e
      · rename_i s1 e1
        exact ⟨v, vr, rfl, asgT_run t st h1 e1 fun σ' st' => asgTs_run ts st' h2 e q⟩
      · cases e
end
end
section
variable {X : Cx} {st : Stmt} {rest : List Stmt} {e : Expr} {pos : Pos} {a b : MS} {m : XM}
theorem ss_nil : PSts X [] mSkip := pss_imp pss_nil fun D σ H q => by
  obtain ⟨Fr, G, s, o, s', h, em, q⟩ := q
  cases em
  exact q σ G H (Same.refl _) h
theorem ss_one (h : PSt X st a) : PSts X [st] a := pss_one h
theorem ss_cons (h : PSt X st a) (t : PSts X rest b) : PSts X (st :: rest) (mSeq a b) := pss_imp (pss_cons h t) fun D σ H q => by
  obtain ⟨Fr, G, s, o, s', h, em, q⟩ := q
  unfold mSeq at em
  split at em
  · rename_i s1 e1
    exact ⟨Fr, G, s, .nx, s1, h, e1, fun σ' F H' k st' => ⟨Fr, F, s1, o, s', st', em, fun σ2 F2 H2 k2 st2 => q σ2 F2 H2 (k.trans k2) st2⟩⟩
  · rename_i hn
    refine ⟨Fr, G, s, o, s', h, em, fun σ' F H' k st' => (q σ' F H' k st').same (fun ho _ => ?_) rfl rfl rfl⟩
    subst ho
    exact absurd em (hn s')
theorem ss_never : PSts X rest mNever := ⟨fun _ _ _ _ _ _ ⟨_, _, _, _, _, _, em, _⟩ => nomatch em⟩
theorem s_ret (h : PX X e m) : PSt X (.Return (some e) pos) (mRet m) := ps_imp (ps_ret h) fun D σ H q => by
  obtain ⟨Fr, G, s, o, s', h, em, q⟩ := q
  unfold mRet at em
  split at em
  · rename_i x s1 e1
    cases em
    exact ⟨Fr, G, s, x, s', h, e1, fun v F H' k st' av => q σ F H' k st' v av⟩
  · cases em
theorem s_retN : PSt X (.Return none pos) mRetN := ps_imp ps_retN fun D σ H q => by
  obtain ⟨Fr, G, s, o, s', h, em, q⟩ := q
  cases em
  exact q σ G H (Same.refl _) h _ av_non
theorem s_drop (h : PX X e m) (hs : swapsWith e none pos.line X.env = pure false) : PSt X (.Expr e pos) (mDrop m) := ps_imp (ps_expr h hs) fun D σ H q => by
  obtain ⟨Fr, G, s, o, s', h, em, q⟩ := q
  unfold mDrop at em
  split at em
  · rename_i x s1 e1
    cases em
    exact ⟨Fr, G, s, x, s', h, e1, fun v F H' k st' av => q σ F H' k st'⟩
  · cases em
theorem s_if {c : Expr} {p q : List Stmt} {t : TM} (hc : PTt X c t) (ha : PSts X p a) (hb : PSts X q b) : PSt X (.If c p q pos) (mIfS t a b) := ps_imp (ps_if hc ha hb) fun D σ H q => by
  obtain ⟨Fr, G, s, o, s', h, em, q⟩ := q
  unfold mIfS at em
  split at em
  · rename_i s1 e1
    exact ⟨Fr, G, s, true, s1, h, e1, fun F H' k st' => iteT ⟨Fr, F, s1, o, s', st', em, fun σ2 F2 H2 k2 st2 => q σ2 F2 H2 (k.trans k2) st2⟩⟩
  · rename_i s1 e1
    exact ⟨Fr, G, s, false, s1, h, e1, fun F H' k st' => iteF ⟨Fr, F, s1, o, s', st', em, fun σ2 F2 H2 k2 st2 => q σ2 F2 H2 (k.trans k2) st2⟩⟩
  · cases em
theorem asg_run {i : Nat} {D : Ends} {σ : L2.St} {H : Hp} (q : tS X.K X.mg (mAsg i m) D σ H) : tAsg (tO X.K X.mg m) (gName i) D σ H := by
  obtain ⟨Fr, G, s, o, s', h, em, q⟩ := q
  unfold mAsg at em
  split at em
  · rename_i x s1 e1
    split at em
    · rename_i s2 e2
      cases em
      exact ⟨Fr, G, s, x, s1, h, e1, fun v F H' k st' av => q _ F H' k (put_run st' av e2)⟩
    · cases em
  · cases em
theorem s_set {i : Nat} {x : Str} {pos' : Pos} (hN : X.N.Nodup) (hi : X.N[i]? = some x) (hx : Loc X.env.scope x) (h : PX X e m) (hs : swapsWith e (some (.Name x pos')) pos.line X.env = pure false) (hf : X.fn x = true ∨ X.env.scope.names.lookup x = some .local) :
    PSt X (.Assign [.Name x pos'] e pos) (mAsg i m) := ps_imp (ps_set hN hi hx h hs hf) fun D σ H q => asg_run q
/-! ### targets -/
abbrev PGr (X : Cx) (target : Expr) (t : Tg) : Prop := PG X target (tG X.K t)
structure PGsr (X : Cx) (ts : List Expr) (t : List Tg) : Prop where
  pgs : PGs X ts (tGs X.K t)
theorem pgr_nm {i : Nat} {x : Str} (hN : X.N.Nodup) (hi : X.N[i]? = some x) (hx : Loc X.env.scope x) (hf : X.fn x = true ∨ X.env.scope.names.lookup x = some .local) : PGr X (.Name x pos) (.nm i) := by
  unfold PGr tG
  exact pg_name hN hi hx hf
theorem pgsr_nil : PGsr X [] [] := ⟨by unfold tGs; exact pgs_nil⟩
theorem pgsr_cons {es : List Expr} {t : Tg} {ts : List Tg} (h1 : PGr X e t) (h2 : PGsr X es ts) (hs : (assignEach (e :: es) X.env).map (·.2) = assign e X.env :: (assignEach es X.env).map (·.2)) : PGsr X (e :: es) (t :: ts) := ⟨by unfold tGs; exact pgs_cons h1 h2.pgs hs⟩
theorem pgr_tp {es : List Expr} {k : Nat} {ts : List Tg} (hc : X.calm = true) (h : PGsr X es ts) (hn : (assignEach es X.env).length = ts.length) (hst : (assignEach es X.env).findIdx? (·.1) = none) : PGr X (.Tuple es k pos) (.tp ts) := by
  unfold PGr tG
  exact pg_seq hc h.pgs hn hst
/-- a, b = e -/
theorem s_asgT {tg : Expr} {t : Tg} (h : PX X e m) (hg : PGr X tg t) (hs : swapsWithSole [tg] e pos.line X.env = pure false) (hw : swappedStores [tg] e X.env = pure none) (h1 : (assignEach [tg] X.env).map (·.2) = [assign tg X.env]) :
    PSt X (.Assign [tg] e pos) (mAsgT t m) := ps_imp (ps_asg (pe_F h) hg hs hw h1) fun D σ H q => by
  obtain ⟨Fr, G, s, o, s', h, em, q⟩ := q
  unfold mAsgT at em
  split at em
  · rename_i x s1 e1
    split at em
    · rename_i s2 e2
      cases em
      exact ⟨Fr, G, s, x.d, s1, h, by unfold xF; rw [e1], fun v F H' k st' r => asgT_run t st' r e2 fun σ' st2 => q σ' F H' k st2⟩
    · cases em
  · cases em
/-! ### what is walked -/
/-- the state after a new pair was laid by an iterator, or none -/
def Laid (F H F' H' : Hp) : Prop := (F' = F ∧ H' = H) ∨ ∃ p o, H p = none ∧ F' = upd F p o ∧ H' = upd H p o
theorem Laid.keep {K : PySem.W.Frag} {mg : Str → Option Value} {Fr : Fx} {F H F' H' : Hp} {s : List SV} {σ : List (Option V)} (l : Laid F H F' H') (st : StF K mg Fr F s σ H) : StF K mg Fr F' s σ H' ∧ Same F F' := by
  rcases l with ⟨rfl, rfl⟩ | ⟨p, o, hp, rfl, rfl⟩
  · exact ⟨st, Same.refl _⟩
  · exact ⟨st.laid hp, same_upd (st.sub.free hp)⟩
/-- an iterator that gives these things while G stands -/
structure Gives (K : PySem.W.Frag) (mg : Str → Option Value) (G : Hp) (J : It) (ds : List D) : Prop where
  go : ∀ i H d, Same G H → ds[i]? = some d → J.go i H
  stop : ∀ H, Same G H → J.stop ds.length H
  yld : ∀ i F H d x H', Same G F → Same F H → ds[i]? = some d → J.yld i H x H' → ∃ F', Laid F H F' H' ∧ Rep K mg F' d x
def tSrc (K : PySem.W.Frag) (mg : Str → Option Value) (m : Src) : TI := fun σ H R => ∃ Fr G s ds s', StF K mg Fr G s σ H ∧ m s = some (ds, s') ∧ ∀ J F H', Same G F → StF K mg Fr F s' σ H' → Gives K mg F J ds → R J H'
abbrev PIr (X : Cx) (tg e : Expr) (m : Src) : Prop := PI X tg e (tSrc X.K X.mg m)
/-! ### for -/
theorem forL_run {K : PySem.W.Frag} {mg : Str → Option Value} {body : MS} {tg : Tg} {ds : List D} {J : It} {D : Ends} {σ : L2.St} {Fr : Fx} {G H : Hp} {s s' : List SV} {o : Out} (g : Gives K mg G J ds) (st : StF K mg Fr G s σ H) (e : forL tg body ds s = some (o, s'))
    (q : ∀ σ' F H', Same G F → StF K mg Fr F s' σ' H' → EndS K mg D Fr F s' σ' H' o) :
    ∃ W : Nat → Nat → L2.St → Hp → Prop, (∃ m, W 0 m σ H) ∧ ∀ i m σ H, W i m σ H →
      (J.stop i H ∧ D.nx σ H) ∨ (J.go i H ∧ ∃ N : L2.St → Hp → Prop, (∀ σ' H', N σ' H' → ∃ m', m' < m ∧ W (i + 1) m' σ' H') ∧ ∀ x H', J.yld i H x H' → tG K tg x σ H' fun σ2 H2 => tS K mg body { D with nx := N, ct := N, bk := D.nx } σ2 H2) := by
  refine ⟨fun i m σ H => m = ds.length - i ∧ i ≤ ds.length ∧ ∃ F s1, Same G F ∧ StF K mg Fr F s1 σ H ∧ forL tg body (ds.drop i) s1 = some (o, s'), ⟨ds.length, rfl, Nat.zero_le _, G, s, Same.refl _, st, e⟩, ?_⟩
  rintro i m σ1 H1 ⟨rfl, hi, F, s1, k, st1, e1⟩
  by_cases hlt : i < ds.length
  · have ed : ds.drop i = ds[i] :: ds.drop (i + 1) := List.drop_eq_getElem_cons hlt
    have eg : ds[i]? = some ds[i] := List.getElem?_eq_getElem hlt
    rw [ed] at e1
    unfold forL at e1
    split at e1
    · rename_i s2 e2
      refine .inr ⟨g.go i H1 _ (k.trans st1.sub) eg, fun σ' H' => ∃ F' s3, Same G F' ∧ StF K mg Fr F' s3 σ' H' ∧ forL tg body (ds.drop (i + 1)) s3 = some (o, s'), fun σ' H' ⟨F', s3, k', st', e'⟩ => ⟨ds.length - (i + 1), by omega, rfl, hlt, F', s3, k', st', e'⟩, fun x H' y => ?_⟩
      obtain ⟨F', l, r⟩ := g.yld i F H1 _ x H' k st1.sub eg y
      obtain ⟨st2, kf⟩ := l.keep st1
      refine asgT_run tg st2 r e2 fun σ2 st3 => ?_
      split at e1
      · rename_i s3 e3
        exact ⟨Fr, F', s2, .nx, s3, st3, e3, fun σ' F2 H2 k2 st4 => ⟨F2, s3, (k.trans kf).trans k2, st4, e1⟩⟩
      · rename_i s3 e3
        exact ⟨Fr, F', s2, .ct, s3, st3, e3, fun σ' F2 H2 k2 st4 => ⟨F2, s3, (k.trans kf).trans k2, st4, e1⟩⟩
      · rename_i s3 e3
        cases e1
        exact ⟨Fr, F', s2, .bk, s', st3, e3, fun σ' F2 H2 k2 st4 => q σ' F2 H2 ((k.trans kf).trans k2) st4⟩
      · rename_i a s3 e3
        cases e1
        exact ⟨Fr, F', s2, .rt a, s', st3, e3, fun σ' F2 H2 k2 st4 => q σ' F2 H2 ((k.trans kf).trans k2) st4⟩
      · cases e1
    · cases e1
  · have ei : i = ds.length := by omega
    subst ei
    rw [List.drop_length] at e1
    cases e1
    exact .inl ⟨g.stop H1 (k.trans st1.sub), q σ1 F H1 k st1⟩
theorem s_for {tg iter : Expr} {body : List Stmt} {src : Src} {t : Tg} (hp : PassesOwn (model X.prog X.w) X.A X.env X.xe) (hc : X.calm = true) (hi : PIr X tg iter src) (hg : PGr X tg t) (hb : PSts X body a) (hs : ∀ x, foldedSetIterable iter X.env x = pure x) :
    PSt X (.For tg iter body [] pos) (mFor src t a) := ps_imp (ps_for hp hc hi hg hb hs) fun D σ H q => by
  obtain ⟨Fr, G, s, o, s', h, em, q⟩ := q
  unfold mFor at em
  split at em
  · rename_i ds s1 e1
    exact ⟨Fr, G, s, ds, s1, h, e1, fun J F H' k st' g => forL_run g st' em fun σ2 F2 H2 k2 st2 => q σ2 F2 H2 (k.trans k2) st2⟩
  · cases em
theorem s_while {c : Expr} {body : List Stmt} {t : TM} (hp : PassesOwn (model X.prog X.w) X.A X.env X.xe) (hc : PTt X c t) (hb : PSts X body a) :
    PSt X (.While c body [] pos) (mWhile t a) := ps_imp (ps_while hp hc hb) fun D σ H q => by
  obtain ⟨Fr, G, s, o, s', h, em, q⟩ := q
  unfold mWhile at em
  generalize 1000000 = n at em
  refine ⟨fun m σ H => ∃ F s1, Same G F ∧ StF X.K X.mg Fr F s1 σ H ∧ whileL t a m s1 = some (o, s'), ⟨n, G, s, Same.refl _, h, em⟩, ?_⟩
  rintro m σ1 H1 ⟨F, s1, k, st1, e1⟩
  cases m with
  | zero => cases e1
  | succ m =>
    unfold whileL at e1
    split at e1
    · rename_i s2 e2
      refine ⟨Fr, F, s1, true, s2, st1, e2, fun F2 H2 k2 st2 => iteT ?_⟩
      refine ⟨fun σ' H' => ∃ F' s3, Same G F' ∧ StF X.K X.mg Fr F' s3 σ' H' ∧ whileL t a m s3 = some (o, s'), fun σ' H' h' => ⟨m, Nat.lt_succ_self _, h'⟩, ?_⟩
      split at e1
      · rename_i s3 e3
        exact ⟨Fr, F2, s2, .nx, s3, st2, e3, fun σ' F3 H3 k3 st3 => ⟨F3, s3, (k.trans k2).trans k3, st3, e1⟩⟩
      · rename_i s3 e3
        exact ⟨Fr, F2, s2, .ct, s3, st2, e3, fun σ' F3 H3 k3 st3 => ⟨F3, s3, (k.trans k2).trans k3, st3, e1⟩⟩
      · rename_i s3 e3
        cases e1
        exact ⟨Fr, F2, s2, .bk, s', st2, e3, fun σ' F3 H3 k3 st3 => q σ' F3 H3 ((k.trans k2).trans k3) st3⟩
      · rename_i x s3 e3
        cases e1
        exact ⟨Fr, F2, s2, .rt x, s', st2, e3, fun σ' F3 H3 k3 st3 => q σ' F3 H3 ((k.trans k2).trans k3) st3⟩
      · cases e1
    · rename_i s2 e2
      cases e1
      exact ⟨Fr, F, s1, false, s', st1, e2, fun F2 H2 k2 st2 => iteF (q σ1 F2 H2 (k.trans k2) st2)⟩
    · cases e1
end
end PV
/-! PvEt: enumerate over a tuple. -/
namespace PySem
open Sem (wp)
open AutoSeq1 (wpAny_loadPart')
section
variable {prog : Program} {w : World} {A : Around} {E : Value → Shared → Prop} {s : Shared}
theorem et_next_item {it l : Addr} {i : Nat} {items} {x : Value} {Q : Value → Shared → Prop} (hit : s.heap.IsTupleIter it l i) (hl : s.heap.IsTuple l items) (hx : items[i]? = some x)
    (hQ : ∀ h', h'.IsTupleIter it l (i + 1) → Heap.SameBut it s.heap h' → Q x { s with heap := h' }) : wpAny (model prog w) A (Builtin.SmallTypes.nextOf (.ref it)) Q E s := by
  obtain ⟨o, ho, hc, hd⟩ := id hit
  obtain ⟨ol, hol, _, nl, hdl⟩ := hl
  unfold Builtin.SmallTypes.nextOf
  refine wpAny_bind (wpAny_callSpecial?_slot (name := Str.ofString "__next__") hit.typeIs F.slot_tuple_iterator_next
    (wpAny_call_entry F.slot_tuple_iterator_next hit.typeIs F.entry_tuple_iterator_next ?_ (F.args_tuple_iterator_next_1 _)))
  show wpAny _ _ (field (.ref it) 0 >>= _) _ _ s
  refine wpAny_bind (wpAny_field ho hd (x := .ref l) rfl ?_)
  show wpAny _ _ (if (Value.ref l == Value.none) = true then _ else _) _ _ s
  rw [if_neg (show ¬ ((Value.ref l == Value.none) = true) from Bool.false_ne_true)]
  show wpAny _ _ (field (.ref it) 1 >>= _) _ _ s
  refine wpAny_bind (wpAny_field ho hd (x := .int i 0) rfl ?_)
  show wpAny _ _ (seqItems? (.ref l) >>= _) _ _ s
  refine wpAny_bind (wpAny_seqItems hol hdl ?_)
  simp only [Int.toNat_natCast, hx]
  refine wpAny_bind (wpAny_setField ho hd (by simp) (wpAny_pure ⟨x, rfl, wpAny_pure (hQ _ ?_ (Heap.SameBut.update ..))⟩))
  exact ⟨_, Heap.get?_update_self _ ho (Obj.isFreed_of_fields (Obj.data_mapFields hd _)), (Obj.cls_mapFields ..).trans hc, by
    rw [Obj.data_mapFields hd]; simp [rawInt]⟩
theorem et_next_end {it l : Addr} {i : Nat} {items} {Q : Value → Shared → Prop} (hh : A.handled = none) (hit : s.heap.IsTupleIter it l i) (hl : s.heap.IsTuple l items) (hx : items[i]? = none)
    (hE : ∀ h' e, Heap.ExtBut it s.heap h' → (∃ o, h'.get? e = some o ∧ o.cls = .type "StopIteration") → E (.ref e) { s with heap := h' }) : wpAny (model prog w) A (Builtin.SmallTypes.nextOf (.ref it)) Q E s := by
  obtain ⟨o, ho, hc, hd⟩ := id hit
  obtain ⟨ol, hol, _, nl, hdl⟩ := hl
  unfold Builtin.SmallTypes.nextOf
  refine wpAny_bind (wpAny_callSpecial?_slot (name := Str.ofString "__next__") hit.typeIs F.slot_tuple_iterator_next
    (wpAny_call_entry F.slot_tuple_iterator_next hit.typeIs F.entry_tuple_iterator_next ?_ (F.args_tuple_iterator_next_1 _)))
  show wpAny _ _ (field (.ref it) 0 >>= _) _ _ s
  refine wpAny_bind (wpAny_field ho hd (x := .ref l) rfl ?_)
  show wpAny _ _ (if (Value.ref l == Value.none) = true then _ else _) _ _ s
  rw [if_neg (show ¬ ((Value.ref l == Value.none) = true) from Bool.false_ne_true)]
  show wpAny _ _ (field (.ref it) 1 >>= _) _ _ s
  refine wpAny_bind (wpAny_field ho hd (x := .int i 0) rfl ?_)
  show wpAny _ _ (seqItems? (.ref l) >>= _) _ _ s
  refine wpAny_bind (wpAny_seqItems hol hdl ?_)
  simp only [Int.toNat_natCast, hx]
  refine wpAny_bind (wpAny_rule (wpAny_bind (wpAny_setField ho hd (by simp) ?_)))
  show wpAny _ _ (newExc (.type "StopIteration") [] >>= _) _ _ _
  refine wpAny_bind ?_
  simp only [newExc, newTuple]
  refine wpAny_bind (wpAny_newObj_type ?_ (by size_fits))
  refine wpAny_bind (m := firstArgMember _ _) (wpAny_of_eq (a := Value.none) (by first | rfl | (simp only [firstArgMember]; rfl)) ?_)
  refine wpAny_newObj_type ?_ (by size_fits)
  simp only [raiseNew]
  refine wpAny_bind (wpAny_handled ?_)
  first | rw [show A.in1.handled = none from hh] | rw [hh]
  refine wpAny_bind (wpAny_pure (wpAny_throw ?_))
  exact hE _ _ (((Heap.SameBut.update ..).extBut.push _).push _) ⟨_, Heap.get?_push_size _ rfl, rfl⟩
theorem et_draws (hh : A.handled = none) (it l : Addr) (hne : l ≠ it) (items : Array Value) :
    Draws prog w A it [it, l] items.size (fun i v => items[i]? = some v) (fun i h => h.IsTupleIter it l i ∧ h.IsTuple l items) where
  live := fun _ _ st => let ⟨o, ho, _⟩ := st.1; ⟨o, ho⟩
  frame := fun _ _ _ st hk => ⟨(let ⟨o, ho, r⟩ := st.1; ⟨o, hk it (by simp) o ho, r⟩), (let ⟨o, ho, r⟩ := st.2; ⟨o, hk l (by simp) o ho, r⟩)⟩
  item := fun i s Q E hi st hQ => by
    refine et_next_item st.1 st.2 (x := items[i]) (by simp [hi]) fun h' hit' hs' => ?_
    exact hQ _ h' s.toks (by simp [hi]) ⟨hit', st.2.extBut hs'.extBut hne⟩ hs'
  done := fun s Q E st hE => et_next_end hh st.1 st.2 (by simp) hE
end
theorem meets_enumerate_newT (l : Addr) (items : Array Value) (n : Nat) (dct : Option Addr) (sl : Array (Option Value)) :
    Meets (Builtin.«enumerate.__new__» ⟨[.type "enumerate", .ref l], []⟩) (fun _ R s => s.heap.get? l = some { cls := .type "tuple", dict := dct, data := .seq items n, slots := sl } ∧
      R (.ok (.ret (.ref (s.heap.push { cls := .type "tuple_iterator", data := .fields #[.ref l, .int 0 0] }).objs.size)))
        { s with heap := (s.heap.push { cls := .type "tuple_iterator", data := .fields #[.ref l, .int 0 0] }).push { cls := .type "enumerate", data := .fields #[.none, .bool false, .ref s.heap.objs.size, rawInt 0, .none, .none] } }) :=
  .of_wp fun prog w A R s h => by
    obtain ⟨hp, g, d, tk, os⟩ := s; obtain ⟨hl, h⟩ := h
    have hsub := sub_enumerate
    have hL : Heap.IsTuple (Shared.heap ⟨hp, g, d, tk, os⟩) l items := ⟨_, hl, rfl, n, rfl⟩
    wp_walk using wpAny_loadPart' hl
    refine wpAny_stack_any fun st => wpAny_pure ?_
    split
    · rename_i c _ _ _ _ _
      cases (c == Value.type "enumerate")
      · wp_walk using wpAny_loadPart' hl, wpAny_pyIter_tuple hL
        exact ⟨_, rfl, h⟩
      · wp_walk using wpAny_loadPart' hl, wpAny_pyIter_tuple hL
        exact ⟨_, rfl, h⟩
    · wp_walk using wpAny_loadPart' hl, wpAny_pyIter_tuple hL
      exact ⟨_, rfl, h⟩
section
variable {prog : Program} {w : World} {A : Around} {E : Value → Shared → Prop} {s : Shared}
theorem call_enumerate_tuple {l : Addr} {items : Array Value} {Q : Value → Shared → Prop} (hL : s.heap.IsTuple l items)
    (h : ∀ h', IsEnum h' (s.heap.objs.size + 1) s.heap.objs.size 0 .none → h'.IsTupleIter s.heap.objs.size l 0 → h'.objs.size = s.heap.objs.size + 2 →
      (∀ b o, s.heap.get? b = some o → h'.get? b = some o) → Q (.ref (s.heap.objs.size + 1)) { s with heap := h' }) :
    wpAny (model prog w) A (call (.type "enumerate") [.ref l]) Q E s := by
  obtain ⟨⟨c, dct, dt, sl⟩, hl, hc, n, hd⟩ := hL
  replace hc : c = .type "tuple" := hc
  replace hd : dt = .seq items n := hd
  subst hc hd
  refine callType_new F.called_enumerate (by decide) (F.typeCall_enumerate_1 _) (F.newCall_enumerate_1 _) (fun obj => F.args_object_init_2 obj _) F.entry_enumerate_new
    (meets_enumerate_newT l items n dct sl) ⟨hl, ?_⟩
  have hz : (s.heap.push { cls := .type "tuple_iterator", data := .fields #[.ref l, .int 0 0] }).objs.size = s.heap.objs.size + 1 := Heap.size_push ..
  show _ ∧ _
  rw [hz]
  have he : IsEnum ((s.heap.push { cls := .type "tuple_iterator", data := .fields #[.ref l, .int 0 0] }).push
      { cls := .type "enumerate", data := .fields #[.none, .bool false, .ref s.heap.objs.size, rawInt 0, .none, .none] }) (s.heap.objs.size + 1) s.heap.objs.size 0 .none := by
    have := Heap.get?_push_size (s.heap.push { cls := .type "tuple_iterator", data := .fields #[.ref l, .int 0 0] })
      (o := { cls := .type "enumerate", data := .fields #[.none, .bool false, .ref s.heap.objs.size, rawInt 0, .none, .none] }) rfl
    rw [hz] at this; exact this
  refine ⟨⟨_, he, rfl⟩, h _ he ⟨_, Heap.get?_push_of_some _ (Heap.get?_push_size _ rfl), rfl, rfl⟩ (by rw [Heap.size_push, hz]) fun b o x => Heap.get?_push_of_some _ (Heap.get?_push_of_some _ x)⟩
end
end PySem
namespace L2
open PySem PySem.Spec PyProof.Rows
/-- the tuple at a as it stands at each turn, each item in a new pair -/
def IteT (K : PySem.W.Frag) (a : Addr) : It :=
  ⟨fun i H => ∃ (xs : List V) (x : V), SqT K H a xs ∧ xs[i]? = some x, fun i H v H' => ∃ T x, v = .ref T ∧ H T = none ∧ H' = upd H T (.tup [.int (i : Nat), x]) ∧ ∀ xs, SqT K H a xs → xs[i]? = some x, fun i H => ∃ xs : List V, SqT K H a xs ∧ xs.length ≤ i⟩
theorem cls_ne {h : Heap} {a b : Addr} {o p : Obj} {x y : String} (ha : h.get? a = some o) (hb : h.get? b = some p) (ca : o.cls = .type x) (cb : p.cls = .type y) (hxy : x ≠ y) : a ≠ b := fun e => by
  subst e
  rw [ha] at hb
  cases hb
  rw [ca] at cb
  injection cb with z
  exact hxy z
theorem turn_enumT {P : Program} {w : World} {K : PySem.W.Frag} {elts : List Expr} {kk : Nat} {tpos : Pos} (a e it : Addr) :
    Turn P w K (.Tuple elts kk tpos) (IteT K a) [e, it] e (fun i h => (∃ old, IsEnum h e it ((i : Nat) : Int) old) ∧ h.IsTupleIter it a i ∧ e ≠ it) where
  mem := by simp
  obj := fun i h st b hb => by
    obtain ⟨⟨old, he⟩, ⟨o, ho, hc, hd⟩, _⟩ := st
    have e' : b = e ∨ b = it := by simpa using hb
    rcases e' with z | z
    · rw [z]; exact ⟨_, he, fun v q => nomatch q⟩
    · rw [z]; exact ⟨o, ho, fun v q => by rw [hd] at q; cases q⟩
  keep := fun i h h' st k => let ⟨⟨old, he⟩, hi, hne⟩ := st; ⟨⟨old, k e (by simp) _ he⟩, hi.at fun o q => k it (by simp) o q, hne⟩
  item := by
    intro X hP hw hK hc i pins s σ H E I hf st hg
    subst hP hw hK
    obtain ⟨⟨old, he⟩, hit, hne⟩ := st
    obtain ⟨xs, x, hq, hx⟩ := hg
    obtain ⟨its, rv, p, hz⟩ := I.tuple hq
    obtain ⟨u, hu, ru⟩ := rv.get hx
    have hel : e < s.heap.objs.size := Heap.lt_size he
    have hil : it < s.heap.objs.size := by obtain ⟨_, q, _⟩ := hit; exact Heap.lt_size q
    have hT0 : s.heap.IsTuple a its.toArray := p
    obtain ⟨oa, ea, ca, _⟩ := id hT0
    obtain ⟨oi, ei, ci, _⟩ := id hit
    have nai : a ≠ it := cls_ne ea ei ca ci (by decide)
    have nea : e ≠ a := fun z => cls_ne he ea rfl ca (by decide) z
    have hi : i < its.toArray.size := by
      have : its[i]? = some u := hu
      obtain ⟨q, _⟩ := List.getElem?_eq_some_iff.mp this
      simpa using q
    refine wpAny_pyNext_enum_itemD (et_draws (A := X.A.in1) (I.ok.hd hc) it a nai its.toArray) he ⟨hit, hT0⟩ hi hne (by simp [hne, nea]) fun x' h' tk hx' ho st' hT hsz hk => ?_
    have ex' : x' = u := by
      have z : its[i]? = some x' := by simpa using hx'
      rw [hu] at z; cases z; rfl
    subst ex'
    refine ⟨_, rfl, wpAny_letOwnedTupleGo_enum (s := { s with heap := h', toks := tk + 1 }) ho fun h'' he' sb => ?_⟩
    have hT2 : h''.get? s.heap.objs.size = some { cls := .type "tuple", data := .seq #[.int i tk, x'] } := (sb.2 _ (Nat.ne_of_gt hel)).trans hT
    have new : ObjOk X.prog X.w (upd H s.heap.objs.size (.tup [.int (i : Nat), x])) h'' s.heap.objs.size (.tup [.int (i : Nat), x]) :=
      ⟨by show 2 ≤ sizeLine; decide, [.int i tk, x'], .cons ⟨_, rfl⟩ (.cons ru .nil), ⟨_, hT2, rfl, _, rfl⟩⟩
    have I1 : Inv X pins σ (upd H s.heap.objs.size (.tup [.int (i : Nat), x])) { s with heap := h'', toks := tk + 1 } :=
      I.turnedNew (ch := [e, it]) (fun b ob hb q => (sb.2 b (fun z => hb (by simp [z]))).trans (hk b ob (fun z => hb (by simp [z])) (fun z => hb (by simp [z])) q)) hf (Nat.le_refl _) new
    refine ⟨.ref s.heap.objs.size, _, I1, rfl, ⟨_, x, rfl, I.hok.fresh (Nat.le_refl _), rfl, fun ys hy => by rw [I.tuple_inj hy hq]; exact hx⟩, ⟨⟨x', ?_⟩, st'.1.at fun o q => (sb.2 it (Ne.symm hne)).trans q, hne⟩, fun b hb => ?_⟩
    · have e1 : ((i + 1 : Nat) : Int) = (i : Int) + 1 := by omega
      rw [e1]; exact he'
    · have hb' : b < s.heap.objs.size := by
        have e' : b = e ∨ b = it := by simpa using hb
        rcases e' with z | z
        · rw [z]; exact hel
        · rw [z]; exact hil
      rw [upd_ne (Nat.ne_of_lt hb')]
      exact (hf b hb).1
  done := by
    intro X hP hw hK hc i pins s σ H E I hf st hg
    subst hP hw hK
    obtain ⟨⟨old, he⟩, hit, hne⟩ := st
    obtain ⟨xs, hq, hx⟩ := hg
    obtain ⟨its, rv, p, hz⟩ := I.tuple hq
    obtain ⟨f0, f1, f2, f3, f4, f5⟩ := hf it (by simp)
    have hl := rv.length
    have hT0 : s.heap.IsTuple a its.toArray := p
    have hT : s.TypeIs (.ref e) "enumerate" := ⟨_, he, rfl⟩
    refine wpAny_mono (?_ : wpAny _ _ (pyNext (.ref e)) (fun r s' => r = none ∧ ∃ h', Heap.ExtBut it s.heap h' ∧ s' = { s with heap := h' }) _ s) (fun r s' q => ?_) (fun _ _ q => q)
    · unfold pyNext
      refine wpAny_bind (wpAny_attempt (wpAny_callSpecial?_slot (name := Str.ofString "__next__") hT F.slot_enumerate_next
        (wpAny_call_entry F.slot_enumerate_next hT F.entry_enumerate_next ?_ (F.args_enumerate_next_1 _))))
      show wpAny _ _ (field (.ref e) 2 >>= _) _ _ _
      refine wpAny_bind (wpAny_field he rfl (x := .ref it) rfl ?_)
      refine wpAny_bind (et_next_end (I.ok.hd hc) hit hT0 (by simp; omega) fun h' x he' hx' => ?_)
      obtain ⟨o, ho, hc⟩ := hx'
      refine wpAny_bind (wpAny_isInstance (T := "StopIteration") (b := true) ⟨o, ho, hc⟩ isSubtype_stop ?_)
      exact wpAny_pure ⟨rfl, h', he', rfl⟩
    · obtain ⟨rfl, h', eb, rfl⟩ := q
      exact ⟨rfl, I.turned (t' := s.toks) (fun b o hb q => eb b o hb q) f0 f1 f3 f4 f5⟩
  self := fun A i s Q E st h => let ⟨⟨_, he⟩, _⟩ := st; wpAny_pyIter_enum he h
def iEnumT (K : PySem.W.Frag) (ta : TA) : TI := fun σ H R => ta σ H fun vs H1 => ∃ a xs, vs = [.ref a] ∧ SqT K H1 a xs ∧ R (IteT K a) H1
theorem pi_enumT {X : Cx} {e : Expr} {ta : TA} {p pos tpos : Pos} {elts : List Expr} {kk : Nat} (hg : Gl X "enumerate") (hm : X.mg "enumerate" = none) (ha : PA X [e] ta) (hs : starEach [e] X.env = [(false, eval e X.env)] := by rfl) :
    PI X (.Tuple elts kk tpos) (.Call (.Name "enumerate" p) [e] [] pos) (iEnumT X.K ta) := by
  refine ⟨fun pins s σ H R I h => ?_⟩
  refine Call_ (ld_blt I hg hm boot_enumerate (PyProof.Rows.callWith_type1 (thn (ha.run pos pins s σ H _ I h) fun us s1 ⟨vs, H1, I1, r1, q1⟩ => ?_) hs rfl))
  obtain ⟨a, xs, ex, hq, q⟩ := q1
  subst ex
  cases r1 with
  | cons r rr =>
    cases rr
    cases r
    obtain ⟨its, rv, p', hz⟩ := I1.tuple hq
    refine call_enumerate_tuple (show s1.heap.IsTuple a its.toArray from p') fun h' he hit hsz hk => wpAny_pyIter_enum he ?_
    have I2 : Inv X pins σ H1 { s1 with heap := h' } := I1.kept (t' := s1.toks) hk
    refine ⟨s1.heap.objs.size + 1, [s1.heap.objs.size + 1, s1.heap.objs.size], _, _, H1, rfl, I2, turn_enumT a (s1.heap.objs.size + 1) s1.heap.objs.size, ⟨⟨.none, he⟩, hit, Nat.succ_ne_self _⟩, fun b hb => ?_, q⟩
    have e' : b = s1.heap.objs.size + 1 ∨ b = s1.heap.objs.size := by simpa using hb
    have hle : s1.heap.objs.size ≤ b := by
      rcases e' with z | z
      · rw [z]; exact Nat.le_add_right _ _
      · rw [z]; exact Nat.le_refl _
    exact I1.fpOk hle (I1.hok.fresh hle)
end L2
/-! PvI: what is walked. -/
namespace PV
open PySem L2
section
variable {X : Cx} {tg e : Expr} {pos : Pos} {m : XM}
theorem pi_or {t u : TI} (h1 : PI X tg e t) (h2 : PI X tg e u) : PI X tg e (fun σ H R => t σ H R ∨ u σ H R) := ⟨fun pins s σ H R I q => by
  rcases q with q | q
  · exact h1.run pins s σ H R I q
  · exact h2.run pins s σ H R I q⟩
section
variable {K : PySem.W.Frag} {mg : Str → Option Value} {F : Hp}
theorem gives_lst {a : Addr} {ds : List D} {vs : List V} (h : Rd F a (.lst vs)) (r : Reps K mg F ds vs) : Gives K mg F (Itl K a) ds where
  go i H d k e := by
    obtain ⟨v, hv, _⟩ := r.get e
    exact ⟨vs, v, .inl (rd_mono k h), hv⟩
  stop H k := ⟨vs, .inl (rd_mono k h), by rw [r.len]; exact Nat.le_refl _⟩
  yld i F' H d x H' k1 k2 e y := by
    obtain ⟨v, hv, hr⟩ := r.get e
    obtain ⟨e1, y⟩ := y
    have z := y vs (.inl (rd_mono (k1.trans k2) h))
    rw [hv] at z
    cases z
    exact ⟨F', .inl ⟨rfl, e1⟩, hr.mono k1⟩
theorem gives_tup {a : Addr} {ds : List D} {vs : List V} (h : F a = some (.tup vs)) (r : Reps K mg F ds vs) : Gives K mg F (Itt K a) ds where
  go i H d k e := by
    obtain ⟨v, hv, _⟩ := r.get e
    exact ⟨vs, v, .inl (.inl (k _ _ h)), hv⟩
  stop H k := ⟨vs, .inl (.inl (k _ _ h)), by rw [r.len]; exact Nat.le_refl _⟩
  yld i F' H d x H' k1 k2 e y := by
    obtain ⟨v, hv, hr⟩ := r.get e
    obtain ⟨e1, y⟩ := y
    have z := y vs (.inl (.inl ((k1.trans k2) _ _ h)))
    rw [hv] at z
    cases z
    exact ⟨F', .inl ⟨rfl, e1⟩, hr.mono k1⟩
theorem RepK.get {ds : List (Key × D)} {ws : List (Key × V)} : ∀ {i : Nat} {k : Key} {v : V}, RepK K mg F ds ws → ws[i]? = some (k, v) → ∃ d, ds[i]? = some (k, d) ∧ Rep K mg F d v := by
  induction ds generalizing ws with
  | nil => intro i k v h e; unfold RepK at h; subst h; simp at e
  | cons p ds ih =>
    obtain ⟨k0, d0⟩ := p
    intro i k v h e
    unfold RepK at h
    obtain ⟨v', r, rfl, h1, h2⟩ := h
    cases i with
    | zero => simp at e; obtain ⟨rfl, rfl⟩ := e; exact ⟨d0, rfl, h1⟩
    | succ i => exact ih h2 (by simpa using e)
theorem RepT.get {ds : List (List Key × D)} {ws : List (List Key × V)} : ∀ {i : Nat} {k : List Key} {v : V}, RepT K mg F ds ws → ws[i]? = some (k, v) → ∃ d, ds[i]? = some (k, d) ∧ Rep K mg F d v := by
  induction ds generalizing ws with
  | nil => intro i k v h e; unfold RepT at h; subst h; simp at e
  | cons p ds ih =>
    obtain ⟨k0, d0⟩ := p
    intro i k v h e
    unfold RepT at h
    obtain ⟨v', r, rfl, h1, h2⟩ := h
    cases i with
    | zero => simp at e; obtain ⟨rfl, rfl⟩ := e; exact ⟨d0, rfl, h1⟩
    | succ i => exact ih h2 (by simpa using e)
theorem lt_len {α β γ : Type} {l : List α} {l2 : List β} {f : α → γ} {d : γ} {i : Nat} (e : (l.map f)[i]? = some d) (h : l.length = l2.length) : i < l2.length := by
  have := lt_of_get e
  rw [List.length_map] at this
  omega
theorem gives_keys {a : Addr} {o : Obj} {ds : List (Key × D)} {ws : List (Key × V)} (h : F a = some (.frz o (.dK ws))) (r : RepK K mg F ds ws) : Gives K mg F (Itk a o ws) (ds.map fun p => kD p.1) where
  go i H d k e := ⟨k _ _ h, lt_len e r.len⟩
  stop H k := ⟨k _ _ h, by rw [List.length_map, r.len]; exact Nat.le_refl _⟩
  yld i F' H d x H' k1 k2 e y := by
    obtain ⟨e1, key, v, hk, rfl⟩ := y
    obtain ⟨d', hd, _⟩ := r.get hk
    rw [List.getElem?_map, hd] at e
    cases e
    exact ⟨F', .inl ⟨rfl, e1⟩, rep_kD key⟩
theorem gives_items {a : Addr} {o : Obj} {ds : List (Key × D)} {ws : List (Key × V)} (h : F a = some (.frz o (.dK ws))) (r : RepK K mg F ds ws) : Gives K mg F (Iti a o ws) (ds.map fun p => .tup [kD p.1, p.2]) where
  go i H d k e := ⟨k _ _ h, lt_len e r.len⟩
  stop H k := ⟨k _ _ h, by rw [List.length_map, r.len]; exact Nat.le_refl _⟩
  yld i F' H d x H' k1 k2 e y := by
    obtain ⟨T, key, v, hk, rfl, hT, rfl⟩ := y
    obtain ⟨d', hd, hr⟩ := r.get hk
    rw [List.getElem?_map, hd] at e
    cases e
    have kf : Same F' (upd F' T (.tup [kV key, v])) := same_upd (k2.free hT)
    exact ⟨_, .inr ⟨T, _, hT, rfl, rfl⟩, rep_tup upd_same (reps_cons (rep_kD key) (reps_cons (hr.mono (k1.trans kf)) reps_nil))⟩
theorem gives_str {x : Str} : Gives K mg F (Its x) (x.cps.toList.map fun c => .str ⟨#[c]⟩) where
  go i H d k e := by
    have z := lt_of_get e
    rw [List.length_map] at z
    exact (show i < x.cps.size by simpa using z)
  stop H k := (show x.cps.size ≤ _ by simp)
  yld i F' H d w H' k1 k2 e y := by
    obtain ⟨e1, c, hc, rfl⟩ := y
    rw [List.getElem?_map, Array.getElem?_toList, hc] at e
    cases e
    exact ⟨F', .inl ⟨rfl, e1⟩, rep_str⟩
theorem gives_rng {a b : Int} : Gives K mg F (Itr a (b - a).toNat) (rngOf a b) where
  go i H d k e := by
    have z := lt_of_get e
    unfold rngOf at z
    rw [List.length_map, List.length_range] at z
    exact z
  stop H k := (show (b - a).toNat ≤ _ by unfold rngOf; simp)
  yld i F' H d w H' k1 k2 e y := by
    obtain ⟨e1, rfl⟩ := y
    have z := lt_of_get e
    unfold rngOf at e z
    rw [List.length_map, List.length_range] at z
    rw [List.getElem?_map, List.getElem?_range z] at e
    cases e
    exact ⟨F', .inl ⟨rfl, e1⟩, rep_int⟩
theorem enumOf_get : ∀ {ds : List D} {n i : Nat}, (enumOf n ds)[i]? = (ds[i]?).map fun d => .tup [.int ((n + i : Nat) : Int), d]
  | [], n, i => by unfold enumOf; simp
  | d :: ds, n, 0 => by unfold enumOf; rfl
  | d :: ds, n, i + 1 => by
    unfold enumOf
    rw [List.getElem?_cons_succ, List.getElem?_cons_succ, enumOf_get, show n + 1 + i = n + (i + 1) by omega]
theorem enumOf_len : ∀ {ds : List D} {n : Nat}, (enumOf n ds).length = ds.length
  | [], n => by unfold enumOf; rfl
  | d :: ds, n => by unfold enumOf; rw [List.length_cons, List.length_cons, enumOf_len]
theorem gives_enum {a : Addr} {ds : List D} {vs : List V} (h : Rd F a (.lst vs)) (r : Reps K mg F ds vs) : Gives K mg F (Ite K a) (enumOf 0 ds) where
  go i H d k e := by
    rw [enumOf_get] at e
    obtain ⟨d', hd, _⟩ := Option.map_eq_some_iff.mp e
    obtain ⟨v, hv, _⟩ := r.get hd
    exact ⟨vs, v, .inl (rd_mono k h), hv⟩
  stop H k := ⟨vs, .inl (rd_mono k h), by rw [enumOf_len, r.len]; exact Nat.le_refl _⟩
  yld i F' H d x H' k1 k2 e y := by
    rw [enumOf_get] at e
    obtain ⟨d', hd, rfl⟩ := Option.map_eq_some_iff.mp e
    obtain ⟨v, hv, hr⟩ := r.get hd
    obtain ⟨T, w, rfl, hT, rfl, y⟩ := y
    have z := y vs (.inl (rd_mono (k1.trans k2) h))
    rw [hv] at z
    cases z
    have kf : Same F' (upd F' T (.tup [.int (i : Nat), v])) := same_upd (k2.free hT)
    refine ⟨_, .inr ⟨T, _, hT, rfl, rfl⟩, rep_tup upd_same (reps_cons ?_ (reps_cons (hr.mono (k1.trans kf)) reps_nil))⟩
    rw [Nat.zero_add]
    exact rep_int
theorem gives_enumT {a : Addr} {ds : List D} {vs : List V} (h : F a = some (.tup vs)) (r : Reps K mg F ds vs) : Gives K mg F (IteT K a) (enumOf 0 ds) where
  go i H d k e := by
    rw [enumOf_get] at e
    obtain ⟨d', hd, _⟩ := Option.map_eq_some_iff.mp e
    obtain ⟨v, hv, _⟩ := r.get hd
    exact ⟨vs, v, .inl (.inl (k _ _ h)), hv⟩
  stop H k := ⟨vs, .inl (.inl (k _ _ h)), by rw [enumOf_len, r.len]; exact Nat.le_refl _⟩
  yld i F' H d x H' k1 k2 e y := by
    rw [enumOf_get] at e
    obtain ⟨d', hd, rfl⟩ := Option.map_eq_some_iff.mp e
    obtain ⟨v, hv, hr⟩ := r.get hd
    obtain ⟨T, w, rfl, hT, rfl, y⟩ := y
    have z := y vs (.inl (.inl ((k1.trans k2) _ _ h)))
    rw [hv] at z
    cases z
    have kf : Same F' (upd F' T (.tup [.int (i : Nat), v])) := same_upd (k2.free hT)
    refine ⟨_, .inr ⟨T, _, hT, rfl, rfl⟩, rep_tup upd_same (reps_cons ?_ (reps_cons (hr.mono (k1.trans kf)) reps_nil))⟩
    rw [Nat.zero_add]
    exact rep_int
end
/-! ### the rules -/
theorem sOf_run {f : D → Option (List D)} {σ : L2.St} {H : Hp} {R : It → Hp → Prop} (h : tSrc X.K X.mg (sOf f m) σ H R) : ∃ Fr G s a ds s', StF X.K X.mg Fr G s σ H ∧ m s = some (a, s') ∧ f a.d = some ds ∧ xF m s = some (a.d, s') ∧
    ∀ J F H', Same G F → StF X.K X.mg Fr F s' σ H' → Gives X.K X.mg F J ds → R J H' := by
  obtain ⟨Fr, G, s, ds, s', st, em, q⟩ := h
  unfold sOf at em
  split at em
  · rename_i a s1 e1
    obtain ⟨z, e2, e3⟩ := Option.map_eq_some_iff.mp em
    cases e3
    exact ⟨Fr, G, s, a, _, _, st, e1, e2, by unfold xF; rw [e1], q⟩
  · cases em
theorem pi_it (h : PX X e m) : PIr X tg e (sIt m) := by
  refine pi_imp (pi_or (pi_list (pe_F h)) (pi_or (pi_tup (pe_F h)) (pi_or (pi_keys (pe_F h)) (pi_str (pe_F h))))) fun σ H R q => ?_
  obtain ⟨Fr, G, s, a, ds, s', st, em, ef, ex, q⟩ := sOf_run q
  cases ed : a.d with
  | lst xs =>
    rw [ed] at ef ex
    cases ef
    refine .inl ⟨Fr, G, s, _, s', st, ex, fun v F H' k st' r => ?_⟩
    unfold Rep at r
    obtain ⟨p, vs, rfl, hp, rr⟩ := r
    exact ⟨p, rfl, ⟨vs, .inl (rd_mono st'.sub hp)⟩, q _ F H' k st' (gives_lst hp rr)⟩
  | tup xs =>
    rw [ed] at ef ex
    cases ef
    refine .inr (.inl ⟨Fr, G, s, _, s', st, ex, fun v F H' k st' r => ?_⟩)
    unfold Rep at r
    obtain ⟨p, vs, rfl, hp, rr⟩ := r
    exact ⟨p, rfl, ⟨vs, .inl (.inl (st'.sub _ _ hp))⟩, q _ F H' k st' (gives_tup hp rr)⟩
  | dK xs =>
    rw [ed] at ef ex
    cases ef
    refine .inr (.inr (.inl ⟨Fr, G, s, _, s', st, ex, fun v F H' k st' r => ?_⟩))
    unfold Rep at r
    obtain ⟨p, o, vs, rfl, hp, rr⟩ := r
    exact ⟨p, o, rfl, .inl ⟨vs, st'.sub _ _ hp, q _ F H' k st' (gives_keys hp rr)⟩⟩
  | str x =>
    rw [ed] at ef ex
    cases ef
    refine .inr (.inr (.inr ⟨Fr, G, s, _, s', st, ex, fun v F H' k st' r => ?_⟩))
    exact ⟨x, rep_str' r, q _ F H' k st' gives_str⟩
  | _ => rw [ed] at ef; cases ef
theorem pi_its {elts : List Expr} {kk : Nat} {tpos apos cpos : Pos} (h : PX X e m) (hb : attributeBase e "items" X.env (eval e X.env) = eval e X.env) (hl : (apos.endLine == cpos.line) = true) : PIr X (.Tuple elts kk tpos) (.Call (.Attribute e "items" apos) [] [] cpos) (sItems m) := by
  refine pi_imp (pi_items (pe_F h) hb hl) fun σ H R q => ?_
  obtain ⟨Fr, G, s, a, ds, s', st, em, ef, ex, q⟩ := sOf_run q
  cases ed : a.d with
  | dK xs =>
    rw [ed] at ef ex
    cases ef
    refine ⟨Fr, G, s, _, s', st, ex, fun v F H' k st' r => ?_⟩
    unfold Rep at r
    obtain ⟨p, o, vs, rfl, hp, rr⟩ := r
    exact ⟨p, o, vs, rfl, st'.sub _ _ hp, q _ F H' k st' (gives_items hp rr)⟩
  | _ => rw [ed] at ef; cases ef
theorem pi_en {elts : List Expr} {kk : Nat} {tpos p : Pos} (hg : Gl X "enumerate") (hm : X.mg "enumerate" = none) (h : PX X e m) (hs : starEach [e] X.env = [(false, eval e X.env)]) :
    PIr X (.Tuple elts kk tpos) (.Call (.Name "enumerate" p) [e] [] pos) (sEnum m) := by
  refine pi_imp (pi_or (pi_enum hg hm (pa_cons (pe_F h) pa_nil hs) hs) (pi_enumT hg hm (pa_cons (pe_F h) pa_nil hs) hs)) fun σ H R q => ?_
  obtain ⟨Fr, G, s, a, ds, s', st, em, ef, ex, q⟩ := sOf_run q
  cases ed : a.d with
  | lst xs =>
    rw [ed] at ef ex
    cases ef
    refine .inl ⟨Fr, G, s, _, s', st, ex, fun v F H' k st' r => ?_⟩
    unfold Rep at r
    obtain ⟨p, vs, rfl, hp, rr⟩ := r
    exact ⟨p, vs, rfl, .inl (rd_mono st'.sub hp), q _ F H' k st' (gives_enum hp rr)⟩
  | tup xs =>
    rw [ed] at ef ex
    cases ef
    refine .inr ⟨Fr, G, s, _, s', st, ex, fun v F H' k st' r => ?_⟩
    unfold Rep at r
    obtain ⟨p, vs, rfl, hp, rr⟩ := r
    exact ⟨p, vs, rfl, .inl (.inl (st'.sub _ _ hp)), q _ F H' k st' (gives_enumT hp rr)⟩
  | _ => rw [ed] at ef; cases ef
theorem pi_rng1 {p : Pos} {r : Rc} (hg : Gl X "range") (hm : X.mg "range" = none) (h : PRc X e r) (hs : starEach [e] X.env = [(false, eval e X.env)]) : PIr X tg (.Call (.Name "range" p) [e] [] pos) (sRange1 r) := by
  refine pi_imp (pi_range1 hg hm (pa_cons h pa_nil hs) hs) fun σ H R q => ?_
  obtain ⟨Fr, G, s, ds, s', st, em, q⟩ := q
  unfold sRange1 at em
  split at em
  · rename_i b s1 e1
    split at em
    · rename_i hb
      cases em
      refine ev1_run st e1 fun v F H' k st' vw => ⟨b, by rw [vw_int vw], hb.1, hb.2, ?_⟩
      have z : Gives X.K X.mg F (Itr 0 (b - 0).toNat) (rngOf 0 b) := gives_rng
      rw [Int.sub_zero] at z
      exact q _ F H' k st' z
    · cases em
  · cases em
end
end PV
/-! PvC: comprehensions. -/
namespace PV
open PySem L2
section
variable {K : PySem.W.Frag} {mg : Str → Option Value} {Fr : Fx} {F H : Hp} {σ : List (Option V)}
theorem calm_get : ∀ {vs : List Nat} {s : S}, calm s vs = true → ∀ v ∈ vs, ∃ a, s[v]? = some a ∧ a.own = false ∧ a.pin = false
  | [], _, _, v, hv => by cases hv
  | w :: vs, s, h, v, hv => by
    unfold calm at h
    rw [Bool.and_eq_true] at h
    rcases List.mem_cons.mp hv with rfl | hv
    · obtain ⟨h1, _⟩ := h
      split at h1
      · rename_i a ea
        exact ⟨a, ea, by simpa using h1⟩
      · cases h1
    · exact calm_get h.2 v hv
theorem wipeS_get : ∀ {vs : List Nat} {s : S} {i : Nat}, (wipeS s vs)[i]? = if i ∈ vs ∧ i < s.length then some .un else s[i]?
  | [], s, i => by simp [wipeS]
  | w :: vs, s, i => by
    have ih := wipeS_get (vs := vs) (s := s) (i := i)
    have hl : (wipeS s vs).length = s.length := by
      clear ih
      induction vs with
      | nil => rfl
      | cons x xs ih => unfold wipeS; rw [List.length_set, ih]
    unfold wipeS
    by_cases hw : w = i
    · subst hw
      by_cases h : w < s.length
      · rw [List.getElem?_set_self (by rw [hl]; exact h), if_pos ⟨List.mem_cons_self, h⟩]
      · rw [List.getElem?_eq_none (by rw [List.length_set, hl]; omega), if_neg (fun z => h z.2), List.getElem?_eq_none (by omega)]
    · rw [List.getElem?_set_ne hw, ih]
      by_cases h : i ∈ vs ∧ i < s.length
      · rw [if_pos h, if_pos ⟨List.mem_cons_of_mem _ h.1, h.2⟩]
      · rw [if_neg h, if_neg]
        rintro ⟨h1, h2⟩
        rcases List.mem_cons.mp h1 with e | h1
        · exact hw e.symm
        · exact h ⟨h1, h2⟩
theorem wipe_get : ∀ {vs : List Nat} {σ : L2.St} {i : Nat}, (wipe σ vs)[i]? = if i ∈ vs ∧ i < σ.length then some none else σ[i]?
  | [], s, i => by simp [wipe]
  | w :: vs, s, i => by
    have ih := wipe_get (vs := vs) (σ := s) (i := i)
    have hl : (wipe s vs).length = s.length := wipe_length s vs
    unfold wipe
    by_cases hw : w = i
    · subst hw
      by_cases h : w < s.length
      · rw [List.getElem?_set_self (by rw [hl]; exact h), if_pos ⟨List.mem_cons_self, h⟩]
      · rw [List.getElem?_eq_none (by rw [List.length_set, hl]; omega), if_neg (fun z => h z.2), List.getElem?_eq_none (by omega)]
    · rw [List.getElem?_set_ne hw, ih]
      by_cases h : i ∈ vs ∧ i < s.length
      · rw [if_pos h, if_pos ⟨List.mem_cons_of_mem _ h.1, h.2⟩]
      · rw [if_neg h, if_neg]
        rintro ⟨h1, h2⟩
        rcases List.mem_cons.mp h1 with e | h1
        · exact hw e.symm
        · exact h ⟨h1, h2⟩
theorem wipeS_len (s : S) : ∀ vs : List Nat, (wipeS s vs).length = s.length
  | [] => rfl
  | v :: vs => by unfold wipeS; rw [List.length_set, wipeS_len s vs]
/-- the block's own slots are emptied -/
theorem StF.wiped {s : List SV} {vs : List Nat} (st : StF K mg Fr F s σ H) (c : ∀ v ∈ vs, ∃ a, s[v]? = some a ∧ a.own = false ∧ a.pin = false) : StF K mg Fr F (wipeS s vs) (wipe σ vs) H := by
  have e0 : ∀ {i a}, (wipeS s vs)[i]? = some a → a.own = true → i ∉ vs ∧ s[i]? = some a := fun {i a} e ho => by
    rw [wipeS_get] at e
    split at e
    · cases e; cases ho
    · rename_i h
      exact ⟨fun z => h ⟨z, lt_of_get e⟩, e⟩
  have e1 : ∀ {i}, i ∉ vs → (wipe σ vs)[i]? = σ[i]? := fun {i} h => by rw [wipe_get, if_neg (fun z => h z.1)]
  refine ⟨st.sub, st.fr, st.dis, by rw [wipeS_len, wipe_length]; exact st.len, fun i a e => ?_, fun i p m => ?_, fun i j a b p q1 q2 o1 o2 w1 w2 => ?_⟩
  · rw [wipeS_get] at e
    split at e
    · rename_i h
      cases e
      exact ⟨none, by rw [wipe_get, if_pos ⟨h.1, by rw [← st.len]; exact h.2⟩], trivial⟩
    · rename_i h
      have hn : i ∉ vs := fun z => h ⟨z, lt_of_get e⟩
      obtain ⟨w, hw, q⟩ := st.slot i a e
      exact ⟨w, by rw [e1 hn]; exact hw, q⟩
  · obtain ⟨z1, b, z2, z3⟩ := st.lent i p m
    have hn : i ∉ vs := fun z => by
      obtain ⟨a, ea, _, ha⟩ := c i z
      rw [z2] at ea
      cases ea
      rw [z3] at ha
      cases ha
    refine ⟨by rw [e1 hn]; exact z1, b, ?_, z3⟩
    rw [wipeS_get, if_neg (fun z => hn z.1)]
    exact z2
  · obtain ⟨n1, q1⟩ := e0 q1 o1
    obtain ⟨n2, q2⟩ := e0 q2 o2
    rw [e1 n1] at w1
    rw [e1 n2] at w2
    exact st.apart i j a b p q1 q2 o1 o2 w1 w2
/-- back in the def: its own slots again -/
theorem back_get (s0 : S) : ∀ {vs : List Nat} {s : S} {i : Nat}, (back s0 s vs)[i]? = if i ∈ vs ∧ i < s.length then some (s0[i]?.getD .un) else s[i]?
  | [], s, i => by simp [back]
  | w :: vs, s, i => by
    have ih := back_get s0 (vs := vs) (s := s) (i := i)
    have hl : (back s0 s vs).length = s.length := by
      clear ih
      induction vs with
      | nil => rfl
      | cons x xs ih => unfold back; rw [List.length_set, ih]
    unfold back
    by_cases hw : w = i
    · subst hw
      by_cases h : w < s.length
      · rw [List.getElem?_set_self (by rw [hl]; exact h), if_pos ⟨List.mem_cons_self, h⟩]
      · rw [List.getElem?_eq_none (by rw [List.length_set, hl]; omega), if_neg (fun z => h z.2), List.getElem?_eq_none (by omega)]
    · rw [List.getElem?_set_ne hw, ih]
      by_cases h : i ∈ vs ∧ i < s.length
      · rw [if_pos h, if_pos ⟨List.mem_cons_of_mem _ h.1, h.2⟩]
      · rw [if_neg h, if_neg]
        rintro ⟨h1, h2⟩
        rcases List.mem_cons.mp h1 with e | h1
        · exact hw e.symm
        · exact h ⟨h1, h2⟩
theorem back_len (s0 s : S) : ∀ vs : List Nat, (back s0 s vs).length = s.length
  | [] => rfl
  | v :: vs => by unfold back; rw [List.length_set, back_len s0 s vs]
theorem StF.back {s0 s : List SV} {vs : List Nat} {G H0 : Hp} (st0 : StF K mg Fr G s0 σ H0) (c : ∀ v ∈ vs, ∃ a, s0[v]? = some a ∧ a.own = false ∧ a.pin = false) (k : Same G F) (st : StF K mg Fr F s (wipe σ vs) H) : StF K mg Fr F (back s0 s vs) σ H := by
  have ll : s.length = σ.length := by rw [st.len, wipe_length]
  have e1 : ∀ {i}, i ∉ vs → (wipe σ vs)[i]? = σ[i]? := fun {i} h => by rw [wipe_get, if_neg (fun z => h z.1)]
  have e0 : ∀ {i a}, (PV.back s0 s vs)[i]? = some a → a.own = true → i ∉ vs ∧ s[i]? = some a := fun {i a} e ho => by
    rw [back_get] at e
    split at e
    · rename_i h
      obtain ⟨b, eb, hb, hb'⟩ := c i h.1
      rw [eb] at e
      cases e
      have ho : b.own = true := ho
      rw [hb] at ho
      cases ho
    · rename_i h
      exact ⟨fun z => h ⟨z, lt_of_get e⟩, e⟩
  refine ⟨st.sub, st.fr, st.dis, by rw [back_len]; exact ll, fun i a e => ?_, fun i p m => ?_, fun i j a b p q1 q2 o1 o2 w1 w2 => ?_⟩
  · rw [back_get] at e
    split at e
    · rename_i h
      obtain ⟨b, eb, hb, hb'⟩ := c i h.1
      rw [eb] at e
      cases e
      obtain ⟨w, hw, q⟩ := st0.slot i b eb
      refine ⟨w, hw, ?_⟩
      cases b with
      | un => trivial
      | fz d => obtain ⟨v, e, r⟩ := q; exact ⟨v, e, r.mono k⟩
      | ow d => cases hb
      | io d => cases hb
      | ob C fl => exact ObF.mono q k (fun _ _ _ _ z => z) fun _ z => z
      | lk d => exact LkF.mono q k fun _ _ _ z => z
    · rename_i h
      have hn : i ∉ vs := fun z => h ⟨z, lt_of_get e⟩
      obtain ⟨w, hw, q⟩ := st.slot i a e
      exact ⟨w, by rw [← e1 hn]; exact hw, q⟩
  · obtain ⟨z1, b, z2, z3⟩ := st0.lent i p m
    have hn : i ∉ vs := fun z => by
      obtain ⟨a, ea, _, ha⟩ := c i z
      rw [z2] at ea
      cases ea
      rw [z3] at ha
      cases ha
    refine ⟨z1, ?_⟩
    obtain ⟨_, b', z4, z5⟩ := st.lent i p m
    refine ⟨b', ?_, z5⟩
    rw [back_get, if_neg (fun z => hn z.1)]
    exact z4
  · obtain ⟨n1, q1⟩ := e0 q1 o1
    obtain ⟨n2, q2⟩ := e0 q2 o2
    rw [← e1 n1] at w1
    rw [← e1 n2] at w2
    exact st.apart i j a b p q1 q2 o1 o2 w1 w2
mutual
/-- the slots that a target sets -/
def Tg.slots : Tg → List Nat
  | .nm i => [i]
  | .tp ts => slotsL ts
def slotsL : List Tg → List Nat
  | [] => []
  | t :: ts => t.slots ++ slotsL ts
end
/-- behind a target's store only its slots are others -/
def Off (is : List Nat) (σ σ' : L2.St) : Prop := σ'.length = σ.length ∧ ∀ i, i ∉ is → σ'[i]? = σ[i]?
theorem Off.wipe {is vs : List Nat} {σ σ' : L2.St} (h : Off is (wipe σ vs) σ') (hs : ∀ i ∈ is, i ∈ vs) : L2.wipe σ' vs = L2.wipe σ vs := by
  have hl : σ'.length = σ.length := by rw [h.1, wipe_length]
  apply List.ext_getElem?
  intro i
  rw [wipe_get, wipe_get, hl]
  by_cases c : i ∈ vs ∧ i < σ.length
  · rw [if_pos c, if_pos c]
  · rw [if_neg c, if_neg c]
    by_cases hi : i ∈ vs
    · have : ¬ i < σ.length := fun z => c ⟨hi, z⟩
      rw [List.getElem?_eq_none (by omega), List.getElem?_eq_none (by omega)]
    · rw [h.2 i (fun z => hi (hs i z)), wipe_get, if_neg (fun z => hi z.1)]
mutual
theorem asgT_off : ∀ (tg : Tg) {d : D} {v : V} {s s' : List SV} {σ : List (Option V)} {R : L2.St → Hp → Prop}, StF K mg Fr F s σ H → Rep K mg F d v → asgT tg d s = some s' → (∀ σ', StF K mg Fr F s' σ' H → Off tg.slots σ σ' → R σ' H) → tG K tg v σ H R
  | .nm i, d, v, s, s', σ, R, st, r, e, q => by
    unfold tG
    unfold asgT at e
    refine q _ (put_run (a := .fz d) st r e) ⟨List.length_set, fun j hj => ?_⟩
    unfold Tg.slots at hj
    rw [List.getElem?_set_ne (fun z => hj (by rw [z]; exact List.mem_cons_self))]
  | .tp ts, d, v, s, s', σ, R, st, r, e, q => by
    unfold tG
    unfold asgT at e
    cases d with
    | tup ds =>
      unfold Rep at r
      obtain ⟨a, vs, rfl, ha, rr⟩ := r
      refine .inl ⟨a, vs, rfl, .inl (.inl (st.sub _ _ ha)), ?_, asgTs_off ts st rr e fun σ' st' o => q σ' st' (by unfold Tg.slots; exact o)⟩
      rw [← rr.len]
      exact (asgTs_len ts e).symm
    | lst ds =>
      unfold Rep at r
      obtain ⟨a, vs, rfl, ha, rr⟩ := r
      refine .inr ⟨a, vs, rfl, .inl (rd_mono st.sub ha), ?_, asgTs_off ts st rr e fun σ' st' o => q σ' st' (by unfold Tg.slots; exact o)⟩
      rw [← rr.len]
      exact (asgTs_len ts e).symm
    | _ => cases e
theorem asgTs_off : ∀ (ts : List Tg) {ds : List D} {vs : List V} {s s' : List SV} {σ : List (Option V)} {R : L2.St → Hp → Prop}, StF K mg Fr F s σ H → Reps K mg F ds vs → asgTs ts ds s = some s' → (∀ σ', StF K mg Fr F s' σ' H → Off (slotsL ts) σ σ' → R σ' H) → tGs K ts vs σ H R
  | [], ds, vs, s, s', σ, R, st, r, e, q => by
    unfold tGs
    cases ds with
    | nil =>
      unfold Reps at r
      unfold asgTs at e
      cases e
      exact ⟨r, q σ st ⟨rfl, fun _ _ => rfl⟩⟩
    | cons _ _ => unfold asgTs at e; cases e
  | t :: ts, ds, vs, s, s', σ, R, st, r, e, q => by
    unfold tGs
    cases ds with
    | nil => unfold asgTs at e; cases e
    | cons d ds =>
      unfold Reps at r
      obtain ⟨v, vr, rfl, h1, h2⟩ := r
      unfold asgTs at e
      split at e
      · rename_i s1 e1
        refine ⟨v, vr, rfl, asgT_off t st h1 e1 fun σ1 st' o1 => asgTs_off ts st' h2 e fun σ2 st2 o2 => q σ2 st2 ⟨o2.1.trans o1.1, fun i hi => ?_⟩⟩
        unfold slotsL at hi
        rw [List.mem_append, not_or] at hi
        rw [o2.2 i hi.2, o1.2 i hi.1]
      · cases e
end
end
section
variable {K : PySem.W.Frag} {mg : Str → Option Value} {Fr : Fx} {F H : Hp} {s : List SV} {σ : List (Option V)} {p : Addr} {o u : HO}
/-- what is held is changed -/
theorem StF.reheld (st : StF K mg ⟨upd Fr.hp p o, Fr.lt⟩ F s σ H) (hp : Fr p = none) (no : ∀ C dx ws, o ≠ .ins C dx ws) (nf : ∀ od v, o ≠ .frz od v := by intro _ _ z; cases z) : StF K mg ⟨upd Fr.hp p u, Fr.lt⟩ F s σ (upd H p u) := by
  obtain ⟨z, e1, e2, ap⟩ := st.loose (u := u) hp no nf
  refine ⟨z.sub, fun b v e => ?_, fun b v e => ?_, z.len, fun i a e => ?_, z.lent, z.apart⟩
  · have e : upd Fr.hp p u b = some v := e
    by_cases hb : b = p
    · rw [hb, upd_same] at e ⊢; exact e
    · rw [upd_ne hb] at e; exact z.fr b v e
  · have e : upd Fr.hp p u b = some v := e
    by_cases hb : b = p
    · rw [hb]; exact e2
    · rw [upd_ne hb] at e; exact z.dis b v e
  · obtain ⟨w, hw, q⟩ := z.slot i a e
    refine ⟨w, hw, ?_⟩
    have go : ∀ b, w = some (V.ref b) → a.own = true → Fr b = none → upd Fr.hp p u b = none := fun b e3 ha h2 => by
      have ne : b ≠ p := fun z => ap i a e ha (by rw [hw, e3, z])
      rw [upd_ne ne]
      exact h2
    cases a with
    | un => trivial
    | fz d => exact q
    | ow d => obtain ⟨b, v, e3, h1, h2, h3, h4⟩ := q; exact ⟨b, v, e3, h1, go b e3 rfl h2, h3, h4⟩
    | io d => obtain ⟨b, v, e3, h1, h2, h3, h4⟩ := q; exact ⟨b, v, e3, h1, go b e3 rfl h2, h3, h4⟩
    | ob C fl => exact ObF.mono q (Same.refl _) (fun x C dx ws e => (upd_ne (ne_of_none e hp)).trans e) fun _ z => z
    | lk d => exact LkF.mono q (Same.refl _) fun x od u e => (upd_ne (ne_of_none e hp)).trans e
end
section
variable {X : Cx} {pos : Pos}
/-- behind the block: the new thing, in the def's state -/
theorem lc_end {K : PySem.W.Frag} {mg : Str → Option Value} {Fr : Fx} {G F H0 H : Hp} {s0 s : List SV} {vs : List Nat} {σ : List (Option V)} {p : Addr} {o : HO} {d : D} (st0 : StF K mg Fr G s0 σ H0) (c : ∀ v ∈ vs, ∃ a, s0[v]? = some a ∧ a.own = false ∧ a.pin = false) (k : Same G F)
    (st : StF K mg ⟨upd Fr.hp p o, Fr.lt⟩ F s (wipe σ vs) H) (hp : Fr p = none) (sh : Sh K mg F d o) : StF K mg Fr F (PV.back s0 s vs) σ H ∧ AVal K mg Fr F H (PV.back s0 s vs) σ (.ow d) (.ref p) := by
  obtain ⟨z, e1, e2, ap⟩ := st.loose (u := o) hp (fun C dx ws z => by subst z; cases d <;> first | exact sh.elim | (obtain ⟨_, h, _⟩ := sh; cases h)) (fun od u z => by subst z; cases d <;> first | exact sh.elim | (obtain ⟨_, h, _⟩ := sh; cases h))
  rw [upd_id e1] at z
  refine ⟨st0.back c k z, p, o, rfl, e2, hp, e1, sh, fun i a e ha hi => ?_⟩
  rw [back_get] at e
  split at e
  · rename_i h
    obtain ⟨b, eb, hb, hb'⟩ := c i h.1
    rw [eb] at e
    cases e
    have ha : b.own = true := ha
    rw [hb] at ha
    cases ha
  · rename_i h
    have hn : i ∉ vs := fun z => h ⟨z, lt_of_get e⟩
    refine ap i a e ha ?_
    rw [wipe_get, if_neg (fun z => hn z.1)]
    exact hi
abbrev PTsr (X : Cx) (ifs : List Expr) (t : TM) : Prop := PTs X ifs (tM X.K X.mg t)
theorem ptsr_nil : PTsr X [] PV.tYes := ⟨fun pins s0 σ H Q I h => by
  obtain ⟨Fr, G, s, d, s', st, em, q⟩ := h
  cases em
  exact pts_nil.run pins s0 σ H Q I (q G H (Same.refl _) st)⟩
theorem ptsr_one {c : Expr} {t : TM} (h : PTt X c t) : PTsr X [c] t := pts_one h
theorem lc_run {tg : Tg} {vs : List Nat} {t : TM} {e : XM} {src : Src} {σ : L2.St} {H : Hp} {Q : VK} (hv : ∀ i ∈ tg.slots, i ∈ vs) (h : tO X.K X.mg (xLc vs src tg t e) σ H Q) :
    tLc (tSrc X.K X.mg src) (tG X.K tg) (tM X.K X.mg t) (tE X.K X.mg (xF e)) vs σ H Q := by
  obtain ⟨Fr, G, s, d, s', st, em, q⟩ := h
  unfold xLc at em
  split at em
  · rename_i ds s1 e1
    split at em
    · rename_i hc
      split at em
      · rename_i out s2 e2
        cases em
        refine ⟨Fr, G, s, ds, s1, st, e1, fun J F1 H1 k1 st1 g Dd hD => ?_⟩
        have hFr : Fr Dd = none := st1.fr.free hD
        have cl := calm_get hc
        refine ⟨fun i m H => m = ds.length - i ∧ i ≤ ds.length ∧ ∃ F s3 acc ws, Same F1 F ∧ StF X.K X.mg ⟨upd Fr.hp Dd (.lst ws), Fr.lt⟩ F s3 (wipe σ vs) H ∧ Reps X.K X.mg F acc ws ∧ lcL vs tg t e (ds.drop i) acc s3 = some (out, s2), ⟨ds.length, rfl, Nat.zero_le _, F1, _, [], [], Same.refl _, (st1.wiped cl).hold hD, reps_nil, e2⟩, ?_⟩
        rintro i m H2 ⟨rfl, hi, F, s3, acc, ws, k, st2, hr, e3⟩
        by_cases hlt : i < ds.length
        · have ed : ds.drop i = ds[i] :: ds.drop (i + 1) := List.drop_eq_getElem_cons hlt
          have eg : ds[i]? = some ds[i] := List.getElem?_eq_getElem hlt
          rw [ed] at e3
          unfold lcL at e3
          split at e3
          · rename_i s4 e4
            refine .inr ⟨g.go i H2 _ (k.trans st2.sub) eg, fun H' => ∃ F s3 acc ws, Same F1 F ∧ StF X.K X.mg ⟨upd Fr.hp Dd (.lst ws), Fr.lt⟩ F s3 (wipe σ vs) H' ∧ Reps X.K X.mg F acc ws ∧ lcL vs tg t e (ds.drop (i + 1)) acc s3 = some (out, s2), fun H' z => ⟨ds.length - (i + 1), by omega, rfl, hlt, z⟩, fun x H' y => ?_⟩
            obtain ⟨F', l, r⟩ := g.yld i F H2 _ x H' k st2.sub eg y
            obtain ⟨st3, kf⟩ := l.keep st2
            refine asgT_off tg st3 r e4 fun σ2 st4 off => ⟨off.wipe hv, ?_⟩
            split at e3
            · rename_i s5 e5
              refine ⟨_, F', s4, true, s5, st4, e5, fun F2 H3 k2 st5 => iteT ?_⟩
              split at e3
              · rename_i a s6 e6
                split at e3
                · rename_i hz
                  refine ⟨_, F2, s5, a.d, s6, st5, by unfold xF; rw [e6], fun y F3 H4 k3 st6 ry => ?_⟩
                  have hD4 : H4 Dd = some (.lst ws) := st6.fr _ _ upd_same
                  have hr3 := ((hr.mono kf).mono k2).mono k3
                  refine ⟨ws, hD4, by rw [← hr3.len, ← sz_line]; exact hz.1, F3, wipeS s6 vs, acc ++ [a.d], ws ++ [y], ((k.trans kf).trans k2).trans k3, ?_, hr3.app (reps_cons ry reps_nil), e3⟩
                  have z := (st6.wiped (calm_get hz.2)).reheld (u := .lst (ws ++ [y])) hFr (fun _ _ _ z => nomatch z)
                  rw [off.wipe hv] at z
                  exact z
                · cases e3
              · cases e3
            · rename_i s5 e5
              refine ⟨_, F', s4, false, s5, st4, e5, fun F2 H3 k2 st5 => iteF ?_⟩
              split at e3
              · rename_i hz
                have z := st5.wiped (calm_get hz)
                rw [off.wipe hv] at z
                exact ⟨F2, wipeS s5 vs, acc, ws, (k.trans kf).trans k2, z, (hr.mono kf).mono k2, e3⟩
              · cases e3
            · cases e3
          · cases e3
        · have ei : i = ds.length := by omega
          subst ei
          rw [List.drop_length] at e3
          cases e3
          obtain ⟨z1, z2⟩ := lc_end (d := .lst out) st1 cl k st2 hFr ⟨ws, rfl, hr⟩
          exact .inl ⟨g.stop H2 (k.trans st2.sub), q _ F H2 (k1.trans k) z1 z2⟩
      · cases em
    · cases em
  · cases em
theorem ev2_both {K : PySem.W.Frag} {mg : Str → Option Value} {Fr : Fx} {G H0 : Hp} {s s' : List SV} {σ : List (Option V)} {a b : XM} {x : D × D} (st : StF K mg Fr G s σ H0) (e : ev2 (.e a) (.e b) s = some (x, s')) {R : V → V → Hp → Prop}
  (q : ∀ v w F H', Same G F → StF K mg Fr F s' σ H' → Rep K mg F x.1 v → Rep K mg F x.2 w → R v w H') : tE K mg (xF a) σ H0 fun v H1 => tE K mg (xF b) σ H1 fun w H2 => R v w H2 := by
  unfold ev2 at e
  split at e
  · rename_i d1 s1 e1
    split at e
    · rename_i d2 s2 e2
      split at e
      · rename_i z1 z2 f1 f2
        cases e
        refine pre_run (r := .e a) st e1 fun v F1 H1 k1 st1 p1 => pre_run (r := .e b) st1 e2 fun w F2 H2 k2 st2 p2 => ?_
        obtain ⟨_, rfl, r1⟩ := p1.mono k2
        obtain ⟨_, rfl, r2⟩ := p2
        cases f1
        cases f2
        exact q v w F2 H2 (k1.trans k2) st2 r1 r2
      · cases e
    · cases e
  · cases e
theorem dc_run {tg : Tg} {vs : List Nat} {t : TM} {kx e : XM} {src : Src} {σ : L2.St} {H : Hp} {Q : VK} (hv : ∀ i ∈ tg.slots, i ∈ vs) (h : tO X.K X.mg (xDc vs src tg t kx e) σ H Q) :
    tDc (tSrc X.K X.mg src) (tG X.K tg) (tM X.K X.mg t) (tE X.K X.mg (xF kx)) (tE X.K X.mg (xF e)) vs σ H Q := by
  obtain ⟨Fr, G, s, d, s', st, em, q⟩ := h
  unfold xDc at em
  split at em
  · rename_i ds s1 e1
    split at em
    · rename_i hc
      split at em
      · rename_i out s2 e2
        cases em
        refine ⟨Fr, G, s, ds, s1, st, e1, fun J F1 H1 k1 st1 g Dd hD => ?_⟩
        have hFr : Fr Dd = none := st1.fr.free hD
        have cl := calm_get hc
        refine ⟨fun i m H => m = ds.length - i ∧ i ≤ ds.length ∧ ∃ F s3 acc ws, Same F1 F ∧ StF X.K X.mg ⟨upd Fr.hp Dd (.dK ws), Fr.lt⟩ F s3 (wipe σ vs) H ∧ RepK X.K X.mg F acc ws ∧ dcL vs tg t kx e (ds.drop i) acc s3 = some (out, s2), ⟨ds.length, rfl, Nat.zero_le _, F1, _, [], [], Same.refl _, (st1.wiped cl).hold hD, repk_nil, e2⟩, ?_⟩
        rintro i m H2 ⟨rfl, hi, F, s3, acc, ws, k, st2, hr, e3⟩
        by_cases hlt : i < ds.length
        · have ed : ds.drop i = ds[i] :: ds.drop (i + 1) := List.drop_eq_getElem_cons hlt
          have eg : ds[i]? = some ds[i] := List.getElem?_eq_getElem hlt
          rw [ed] at e3
          unfold dcL at e3
          split at e3
          · rename_i s4 e4
            refine .inr ⟨g.go i H2 _ (k.trans st2.sub) eg, fun H' => ∃ F s3 acc ws, Same F1 F ∧ StF X.K X.mg ⟨upd Fr.hp Dd (.dK ws), Fr.lt⟩ F s3 (wipe σ vs) H' ∧ RepK X.K X.mg F acc ws ∧ dcL vs tg t kx e (ds.drop (i + 1)) acc s3 = some (out, s2), fun H' z => ⟨ds.length - (i + 1), by omega, rfl, hlt, z⟩, fun x H' y => ?_⟩
            obtain ⟨F', l, r⟩ := g.yld i F H2 _ x H' k st2.sub eg y
            obtain ⟨st3, kf⟩ := l.keep st2
            refine asgT_off tg st3 r e4 fun σ2 st4 off => ⟨off.wipe hv, ?_⟩
            split at e3
            · rename_i s5 e5
              refine ⟨_, F', s4, true, s5, st4, e5, fun F2 H3 k2 st5 => iteT ?_⟩
              split at e3
              · rename_i kd vd s6 e6
                split at e3
                · rename_i key ek
                  split at e3
                  · rename_i hz
                    have two : ev2 (.e kx) (.e e) s5 = some ((kd, vd), s6) := e6
                    refine ev2_both st5 two fun y z F3 H4 k3 st6 ry rz => ?_
                    have hD4 : H4 Dd = some (.dK ws) := st6.fr _ _ upd_same
                    have hr3 := ((hr.mono kf).mono k2).mono k3
                    refine ⟨ws, key, rep_key ry ek, hD4, by rw [← hr3.len, ← sz_line]; exact hz.1, F3, wipeS s6 vs, gp acc key vd, putK ws key z, ((k.trans kf).trans k2).trans k3, ?_, hr3.put key rz, e3⟩
                    have z := (st6.wiped (calm_get hz.2)).reheld (u := .dK (putK ws key z)) hFr (fun _ _ _ z => nomatch z)
                    rw [off.wipe hv] at z
                    exact z
                  · cases e3
                · cases e3
              · cases e3
            · rename_i s5 e5
              refine ⟨_, F', s4, false, s5, st4, e5, fun F2 H3 k2 st5 => iteF ?_⟩
              split at e3
              · rename_i hz
                have z := st5.wiped (calm_get hz)
                rw [off.wipe hv] at z
                exact ⟨F2, wipeS s5 vs, acc, ws, (k.trans kf).trans k2, z, (hr.mono kf).mono k2, e3⟩
              · cases e3
            · cases e3
          · cases e3
        · have ei : i = ds.length := by omega
          subst ei
          rw [List.drop_length] at e3
          cases e3
          obtain ⟨z1, z2⟩ := lc_end (d := .dK out) st1 cl k st2 hFr ⟨ws, rfl, hr⟩
          exact .inl ⟨g.stop H2 (k.trans st2.sub), q _ F H2 (k1.trans k) z1 z2⟩
      · cases em
    · cases em
  · cases em
/-- [elt for target in iter if ..] -/
theorem px_lc {elt tg iter : Expr} {ifs : List Expr} {scope : Scope} {own : List (Str × Nat)} {src : Src} {g : Tg} {t : TM} {m : XM} (hc : X.calm = true) (hN : X.N.Nodup) (hi : PIr X tg iter src) (ok : BlkOk X.N X.env.scope scope own) (hv : ∀ i ∈ g.slots, i ∈ own.map (·.2))
    (hg : ∀ (s : Shared) (H : Hp) (C : Addr) (cl : List (Str × Addr)) (fp : List Addr), PGr (X.blk s H scope (compEnvC scope cl C X.env) fp) tg g) (ht : ∀ (s : Shared) (H : Hp) (C : Addr) (cl : List (Str × Addr)) (fp : List Addr), PTsr (X.blk s H scope (compEnvC scope cl C X.env) fp) ifs t)
    (he : ∀ (s : Shared) (H : Hp) (C : Addr) (cl : List (Str × Addr)) (fp : List Addr), PX (X.blk s H scope (compEnvC scope cl C X.env) fp) elt m) (hs : ∀ x, foldedSetIterable iter X.env x = pure x) :
    PX X (.ListComp elt [⟨tg, iter, ifs, 0⟩] scope pos) (xLc (own.map (·.2)) src g t m) :=
  pe_imp (pe_lc hc hN hi ok hg ht (fun s H C cl fp => pe_F (he s H C cl fp)) hs) fun σ H Q q => lc_run hv q
/-- name = [elt for target in iter if ..] -/
theorem s_setLc {i : Nat} {y : Str} {py spos : Pos} {elt tg iter : Expr} {ifs : List Expr} {scope : Scope} {own : List (Str × Nat)} {src : Src} {g : Tg} {t : TM} {m : XM} (hc : X.calm = true) (hN : X.N.Nodup) (hy : X.N[i]? = some y) (hyl : X.env.scope.names.lookup y = some .local)
    (hsw : swapsWith (.ListComp elt [⟨tg, iter, ifs, 0⟩] scope pos) (some (.Name y py)) spos.line X.env = pure true) (hi : PIr X tg iter src) (ok : BlkOk X.N X.env.scope scope own) (hv : ∀ i ∈ g.slots, i ∈ own.map (·.2))
    (hg : ∀ (s : Shared) (H : Hp) (C : Addr) (cl : List (Str × Addr)) (fp : List Addr), PGr (X.blk s H scope (compEnvC scope cl C X.env) fp) tg g) (ht : ∀ (s : Shared) (H : Hp) (C : Addr) (cl : List (Str × Addr)) (fp : List Addr), PTsr (X.blk s H scope (compEnvC scope cl C X.env) fp) ifs t)
    (he : ∀ (s : Shared) (H : Hp) (C : Addr) (cl : List (Str × Addr)) (fp : List Addr), PX (X.blk s H scope (compEnvC scope cl C X.env) fp) elt m) (hs : ∀ x, foldedSetIterable iter X.env x = pure x) :
    PSt X (.Assign [.Name y py] (.ListComp elt [⟨tg, iter, ifs, 0⟩] scope pos) spos) (mAsg i (xLc (own.map (·.2)) src g t m)) :=
  ps_imp (ps_setLc hc hN hy hyl hsw hi ok hg ht (fun s H C cl fp => pe_F (he s H C cl fp)) hs) fun D σ H q => lc_run hv (asg_run q)
/-- {k: v for target in iter if ..} -/
theorem px_dc {kx vx tg iter : Expr} {ifs : List Expr} {scope : Scope} {own : List (Str × Nat)} {src : Src} {g : Tg} {t : TM} {k m : XM} (hc : X.calm = true) (hN : X.N.Nodup) (hi : PIr X tg iter src) (ok : BlkOk X.N X.env.scope scope own) (hv : ∀ i ∈ g.slots, i ∈ own.map (·.2))
    (hg : ∀ (s : Shared) (H : Hp) (C : Addr) (cl : List (Str × Addr)) (fp : List Addr), PGr (X.blk s H scope (compEnvC scope cl C X.env) fp) tg g) (ht : ∀ (s : Shared) (H : Hp) (C : Addr) (cl : List (Str × Addr)) (fp : List Addr), PTsr (X.blk s H scope (compEnvC scope cl C X.env) fp) ifs t)
    (hk : ∀ (s : Shared) (H : Hp) (C : Addr) (cl : List (Str × Addr)) (fp : List Addr), PX (X.blk s H scope (compEnvC scope cl C X.env) fp) kx k) (he : ∀ (s : Shared) (H : Hp) (C : Addr) (cl : List (Str × Addr)) (fp : List Addr), PX (X.blk s H scope (compEnvC scope cl C X.env) fp) vx m) (hs : ∀ x, foldedSetIterable iter X.env x = pure x) :
    PX X (.DictComp kx vx [⟨tg, iter, ifs, 0⟩] scope pos) (xDc (own.map (·.2)) src g t k m) :=
  pe_imp (pe_dc hc hN hi ok hg ht (fun s H C cl fp => pe_F (hk s H C cl fp)) (fun s H C cl fp => pe_F (he s H C cl fp)) hs) fun σ H Q q => dc_run hv q
end
end PV
/-! PvF: defs by their mirrors, and their calls. -/
namespace PV
open PySem PySem.Spec PyProof.Rows L2
theorem svs_at : ∀ {io : List Bool} {ds : List D} {i : Nat} {a : SV}, (svs io ds)[i]? = some a → ∃ b d, io[i]? = some b ∧ ds[i]? = some d ∧ a = if b = true then .io d else .fz d
  | [], ds, i, a, e => by unfold svs at e; simp at e
  | true :: io, [], i, a, e => by unfold svs at e; simp at e
  | false :: io, [], i, a, e => by unfold svs at e; simp at e
  | true :: io, d :: ds, 0, a, e => by unfold svs at e; simp at e; exact ⟨true, d, rfl, rfl, by rw [if_pos rfl, e]⟩
  | false :: io, d :: ds, 0, a, e => by unfold svs at e; simp at e; exact ⟨false, d, rfl, rfl, by rw [if_neg (by decide), e]⟩
  | true :: io, d :: ds, i + 1, a, e => by unfold svs at e; exact svs_at (io := io) (ds := ds) (i := i) (by simpa using e)
  | false :: io, d :: ds, i + 1, a, e => by unfold svs at e; exact svs_at (io := io) (ds := ds) (i := i) (by simpa using e)
theorem svo_at : ∀ {io : List Bool} {ds : List D} {i : Nat} {a : SV}, (svo io ds)[i]? = some a → ∃ b d, io[i]? = some b ∧ ds[i]? = some d ∧ a = if b = true then .io d else .un
  | [], ds, i, a, e => by unfold svo at e; simp at e
  | true :: io, [], i, a, e => by unfold svo at e; simp at e
  | false :: io, [], i, a, e => by unfold svo at e; simp at e
  | true :: io, d :: ds, 0, a, e => by unfold svo at e; simp at e; exact ⟨true, d, rfl, rfl, by rw [if_pos rfl, e]⟩
  | false :: io, d :: ds, 0, a, e => by unfold svo at e; simp at e; exact ⟨false, d, rfl, rfl, by rw [if_neg (by decide), e]⟩
  | true :: io, d :: ds, i + 1, a, e => by unfold svo at e; exact svo_at (io := io) (ds := ds) (i := i) (by simpa using e)
  | false :: io, d :: ds, i + 1, a, e => by unfold svo at e; exact svo_at (io := io) (ds := ds) (i := i) (by simpa using e)
theorem svs_len : ∀ {io : List Bool} {ds : List D}, ds.length = io.length → (svs io ds).length = io.length
  | [], [], _ => rfl
  | [], _ :: _, h => by simp at h
  | true :: io, [], h => by simp at h
  | false :: io, [], h => by simp at h
  | true :: io, d :: ds, h => by unfold svs; rw [List.length_cons, List.length_cons, svs_len (by simpa using h)]
  | false :: io, d :: ds, h => by unfold svs; rw [List.length_cons, List.length_cons, svs_len (by simpa using h)]
theorem svo_len : ∀ {io : List Bool} {ds : List D}, ds.length = io.length → (svo io ds).length = io.length
  | [], [], _ => rfl
  | [], _ :: _, h => by simp at h
  | true :: io, [], h => by simp at h
  | false :: io, [], h => by simp at h
  | true :: io, d :: ds, h => by unfold svo; rw [List.length_cons, List.length_cons, svo_len (by simpa using h)]
  | false :: io, d :: ds, h => by unfold svo; rw [List.length_cons, List.length_cons, svo_len (by simpa using h)]
theorem svs_io : ∀ {io : List Bool} {ds : List D} {i : Nat} {d : D}, io[i]? = some true → ds[i]? = some d → (svs io ds)[i]? = some (.io d)
  | [], ds, i, d, h, _ => by simp at h
  | true :: io, [], i, d, _, h => by simp at h
  | false :: io, [], i, d, _, h => by simp at h
  | true :: io, d0 :: ds, 0, d, _, h => by simp at h; subst h; rfl
  | false :: io, d0 :: ds, 0, d, h, _ => by simp at h
  | true :: io, d0 :: ds, i + 1, d, h, h2 => by unfold svs; exact svs_io (io := io) (ds := ds) (i := i) (by simpa using h) (by simpa using h2)
  | false :: io, d0 :: ds, i + 1, d, h, h2 => by unfold svs; exact svs_io (io := io) (ds := ds) (i := i) (by simpa using h) (by simpa using h2)
theorem svo_io : ∀ {io : List Bool} {ds : List D} {i : Nat} {d : D}, io[i]? = some true → ds[i]? = some d → (svo io ds)[i]? = some (.io d)
  | [], ds, i, d, h, _ => by simp at h
  | true :: io, [], i, d, _, h => by simp at h
  | false :: io, [], i, d, _, h => by simp at h
  | true :: io, d0 :: ds, 0, d, _, h => by simp at h; subst h; rfl
  | false :: io, d0 :: ds, 0, d, h, _ => by simp at h
  | true :: io, d0 :: ds, i + 1, d, h, h2 => by unfold svo; exact svo_io (io := io) (ds := ds) (i := i) (by simpa using h) (by simpa using h2)
  | false :: io, d0 :: ds, i + 1, d, h, h2 => by unfold svo; exact svo_io (io := io) (ds := ds) (i := i) (by simpa using h) (by simpa using h2)
theorem outsOf_at : ∀ {io : List Bool} {s : List SV} {outs : List D}, outsOf io s = some outs → outs.length = io.length ∧ ∀ (i : Nat), io[i]? = some true → ∃ d, s[i]? = some (SV.io d) ∧ outs[i]? = some d
  | [], s, outs, e => by unfold outsOf at e; cases e; exact ⟨rfl, fun i h => by simp at h⟩
  | true :: io, [], outs, e => by unfold outsOf at e; cases e
  | false :: io, [], outs, e => by unfold outsOf at e; cases e
  | true :: io, a :: s, outs, e => by
    cases a with
    | io d =>
      unfold outsOf at e
      obtain ⟨o, e1, rfl⟩ := Option.map_eq_some_iff.mp e
      obtain ⟨h1, h2⟩ := outsOf_at e1
      refine ⟨by rw [List.length_cons, List.length_cons, h1], fun i h => ?_⟩
      cases i with
      | zero => exact ⟨d, rfl, rfl⟩
      | succ i => exact h2 i (by simpa using h)
    | _ => unfold outsOf at e; cases e
  | false :: io, a :: s, outs, e => by
    unfold outsOf at e
    obtain ⟨o, e1, rfl⟩ := Option.map_eq_some_iff.mp e
    obtain ⟨h1, h2⟩ := outsOf_at e1
    refine ⟨by rw [List.length_cons, List.length_cons, h1], fun i h => ?_⟩
    cases i with
    | zero => simp at h
    | succ i => exact h2 i (by simpa using h)
/-- a def's promise by its mirror: the lent things are changed, the rest stays, the value comes back -/
def spF (K : PySem.W.Frag) (mg : Str → Option Value) (io : List Bool) (f : Fn) : Sp := fun vs H Q _ => ∃ (Fr : Fx) (G : Hp) (ds : List D) (r : AV) (outs : List D), ds.length = io.length ∧ vs.length = io.length ∧ outs.length = io.length ∧ Fr.lt = [] ∧ StF K mg Fr G (svs io ds) (vs.map some) H ∧
  f ds = some (r, outs) ∧ ∀ v F H', Same G F → StF K mg Fr F (svo io outs) (vs.map some) H' → AVal K mg Fr F H' (svo io outs) (vs.map some) r v → Q v H'
def lts (io : List Bool) (vs : List V) : List (Nat × Addr) := (List.range io.length).filterMap fun (i : Nat) => match io[i]?, vs[i]? with
  | some true, some (V.ref p) => some (i, p)
  | _, _ => none
theorem mem_lts {io : List Bool} {vs : List V} {i : Nat} {p : Addr} : (i, p) ∈ lts io vs ↔ io[i]? = some true ∧ vs[i]? = some (.ref p) := by
  unfold lts
  rw [List.mem_filterMap]
  constructor
  · rintro ⟨j, hj, e⟩
    split at e
    · rename_i p' h1 h2
      cases e
      exact ⟨h1, h2⟩
    · cases e
  · rintro ⟨h1, h2⟩
    refine ⟨i, List.mem_range.mpr (lt_of_get h1), ?_⟩
    rw [h1, h2]
section
variable {P : Program} {w : World} {K : PySem.W.Frag} {mg : Str → Option Value} {base : Heap}
theorem fun_read {io : List Bool} {N : List Str} {m : MS} {vs : List V} {H : Hp} {Q : VK} {E : XK} (hN : io.length ≤ N.length) (h : spF K mg io (mFun io N.length m) vs H Q E) : tS K mg m { nx := fun _ H' => Q .non H', rt := Q } (L2.start N vs) H := by
  obtain ⟨Fr, G, ds, r, outs, l1, l2, l3, l4, st, ef, q⟩ := h
  have lv : (vs.map some).length = vs.length := List.length_map ..
  have ls : (svs io ds).length = vs.length := by rw [svs_len l1, l2]
  have st0 : StF K mg ⟨Fr.hp, lts io vs⟩ G (svs io ds ++ List.replicate (N.length - ds.length) .un) (L2.start N vs) H := by
    refine ⟨st.sub, st.fr, st.dis, ?_, fun i a e => ?_, fun i p hm => ?_, fun i j a b p e1 e2 o1 o2 w1 w2 => ?_⟩
    · unfold L2.start
      rw [List.length_append, List.length_append, List.length_replicate, List.length_replicate, ls, lv, l1, l2]
    · by_cases hi : i < vs.length
      · rw [List.getElem?_append_left (by omega)] at e
        obtain ⟨w, hw, z⟩ := st.slot i a e
        refine ⟨w, ?_, by obtain ⟨bb, d, _, _, rfl⟩ := svs_at e; cases bb <;> exact z⟩
        unfold L2.start
        rw [List.getElem?_append_left (by omega)]
        exact hw
      · rw [List.getElem?_append_right (by omega), List.getElem?_replicate] at e
        split at e
        · rename_i h
          cases e
          refine ⟨none, ?_, trivial⟩
          unfold L2.start
          rw [List.getElem?_append_right (by omega), List.getElem?_replicate, if_pos (by omega)]
        · cases e
    · obtain ⟨h1, h2⟩ := mem_lts.mp hm
      have hi := lt_of_get h2
      refine ⟨?_, ?_⟩
      · unfold L2.start
        rw [List.getElem?_append_left (by omega), List.getElem?_map, h2]
        rfl
      · have hd : ds[i]? = some (ds[i]'(by omega)) := List.getElem?_eq_getElem (by omega)
        exact ⟨_, by rw [List.getElem?_append_left (by omega), svs_io h1 hd], rfl⟩
    · have fst : ∀ {i : Nat} {a : SV}, (svs io ds ++ List.replicate (N.length - ds.length) SV.un)[i]? = some a → a.own = true → i < vs.length := fun {i a} e o => by
        by_cases hi : i < vs.length
        · exact hi
        · rw [List.getElem?_append_right (by omega), List.getElem?_replicate] at e
          split at e
          · cases e; cases o
          · cases e
      have hi := fst e1 o1
      have hj := fst e2 o2
      rw [List.getElem?_append_left (by omega)] at e1 e2
      unfold L2.start at w1 w2
      rw [List.getElem?_append_left (by omega)] at w1 w2
      exact st.apart i j a b p e1 e2 o1 o2 w1 w2
  unfold mFun at ef
  rw [if_pos l1] at ef
  -- what comes back, whatever ended the body
  have fin : ∀ {s' : List SV} {outs' : List D} {σ' : L2.St} {F H' : Hp} {a : AV} {v : V}, outsOf io s' = some outs' → Same G F → StF K mg ⟨Fr.hp, lts io vs⟩ F s' σ' H' → AVal K mg ⟨Fr.hp, lts io vs⟩ F H' s' σ' a v → StF K mg Fr F (svo io outs') (vs.map some) H' ∧ AVal K mg Fr F H' (svo io outs') (vs.map some) a v := fun {s' outs' σ' F H' a v} eo k st' av => by
    obtain ⟨ol, oat⟩ := outsOf_at eo
    -- a lent one's slot
    have key : ∀ {i : Nat} {a : SV}, (svo io outs')[i]? = some a → a.own = true → ∃ (d : D) (p : Addr), a = SV.io d ∧ s'[i]? = some (SV.io d) ∧ σ'[i]? = some (some (V.ref p)) ∧ (vs.map some)[i]? = some (some (V.ref p)) := fun {i a} e o => by
      obtain ⟨b, d, h1, h2, rfl⟩ := svo_at e
      cases b with
      | false => cases o
      | true =>
        obtain ⟨d', g1, g2⟩ := oat i h1
        rw [h2] at g2
        cases g2
        have hli := lt_of_get h1
        have hd : ds[i]? = some (ds[i]'(by omega)) := List.getElem?_eq_getElem (by omega)
        obtain ⟨w, hw, p, o', rfl, _⟩ := st.slot i _ (svs_io h1 hd)
        rw [List.getElem?_map] at hw
        obtain ⟨v0, hv0, ev0⟩ := Option.map_eq_some_iff.mp hw
        cases ev0
        obtain ⟨z1, _⟩ := st'.lent i p (mem_lts.mpr ⟨h1, hv0⟩)
        exact ⟨d, p, rfl, g1, z1, by rw [List.getElem?_map, hv0]; rfl⟩
    refine ⟨⟨st'.sub, st'.fr, st'.dis, by rw [svo_len ol, lv, l2], fun i a e => ?_, fun i p hm => ?_, fun i j a b p e1 e2 o1 o2 w1 w2 => ?_⟩, ?_⟩
    · have hi : i < vs.length := by have := lt_of_get e; rw [svo_len ol] at this; omega
      cases ha : a.own with
      | true =>
        obtain ⟨d, p, rfl, g1, g2, g3⟩ := key e ha
        obtain ⟨w, hw, z⟩ := st'.slot i _ g1
        rw [g2] at hw
        cases hw
        exact ⟨_, g3, z⟩
      | false =>
        obtain ⟨b, d, h1, h2, rfl⟩ := svo_at e
        cases b with
        | true => cases ha
        | false => exact ⟨(vs.map some)[i]'(by omega), List.getElem?_eq_getElem (by omega), trivial⟩
    · rw [l4] at hm
      cases hm
    · obtain ⟨d1, p1, rfl, g1, g2, g3⟩ := key e1 o1
      obtain ⟨d2, p2, rfl, f1, f2, f3⟩ := key e2 o2
      rw [w1] at g3
      rw [w2] at f3
      cases g3
      cases f3
      exact st'.apart i j _ _ p g1 f1 rfl rfl g2 f2
    · cases a with
      | fz d => exact av
      | ow d =>
        obtain ⟨p, o, rfl, h1, h2, h3, h4, h5⟩ := av
        refine ⟨p, o, rfl, h1, h2, h3, h4, fun i a e ha hi => ?_⟩
        obtain ⟨d1, p1, rfl, g1, g2, g3⟩ := key e ha
        rw [hi] at g3
        cases g3
        exact h5 i _ g1 rfl g2
  split at ef
  · rename_i a s' e1
    obtain ⟨o, e2, e3⟩ := Option.map_eq_some_iff.mp ef
    cases e3
    exact ⟨_, G, _, .rt r, s', st0, e1, fun σ' F H' k st' v av => by
      obtain ⟨z1, z2⟩ := fin e2 k st' av
      exact q v F H' k z1 z2⟩
  · rename_i s' e1
    obtain ⟨o, e2, e3⟩ := Option.map_eq_some_iff.mp ef
    cases e3
    exact ⟨_, G, _, .nx, s', st0, e1, fun σ' F H' k st' => by
      obtain ⟨z1, z2⟩ := fin e2 k st' (av_non)
      exact q .non F H' k z1 z2⟩
  · cases ef
/-- THE RULE for a def: its body's mirror -/
theorem fn_ok {x qual : Str} {st : Stmt} {f : Addr} {fd : FuncData} {N ps : List Str} {k : Nat} {io : List Bool} {m : MS} (F : Fun K x qual st f fd) (S : FnScope N ps (defScope st)) (hio : io.length = ps.length)
    (hbody : ∀ (cdv : Value) (A : Around) (outer : List Env) (s : Shared) (H : Hp) (E : XK), Room k (A.deeper (envOfC qual (defScope st) s.heap.objs.size f cdv)) → PSts (cxOf CX0 P w K mg base N qual (defScope st) f cdv A outer s H E).nox (defBody st) m) :
    FnOk P w K mg base CX0 (k + 1) f fd ps (spF K mg io (mFun io N.length m)) := by
  refine F.ok S (fun vs H Q E h => ?_) fun cdv A outer s H vs Q E hr h => ⟨_, hbody cdv A outer s H E hr, fun_read ?_ h⟩
  · obtain ⟨_, _, _, _, _, _, l2, _⟩ := h
    rw [l2, hio]
  · have := congrArg List.length S.pre
    rw [List.length_take] at this
    omega
end
end PV
/-! PvG: calls. -/
namespace PV
open PySem PySem.Spec PyProof.Rows L2
def lentIx : List Rc → List Nat
  | [] => []
  | .v i :: rs => i :: lentIx rs
  | .e _ :: rs => lentIx rs
  | .f _ _ _ _ :: rs => lentIx rs
def SV.re (d : D) : SV → SV
  | .ow _ => .ow d
  | .io _ => .io d
  | a => a
theorem mem_lentIx : ∀ {rs : List Rc} {i : Nat}, i ∈ lentIx rs → ∃ k : Nat, rs[k]? = some (Rc.v i)
  | [], i, h => by cases h
  | .v j :: rs, i, h => by
    unfold lentIx at h
    rcases List.mem_cons.mp h with rfl | h
    · exact ⟨0, rfl⟩
    · obtain ⟨k, hk⟩ := mem_lentIx (rs := rs) h
      exact ⟨k + 1, by simpa using hk⟩
  | .e m :: rs, i, h => by
    unfold lentIx at h
    obtain ⟨k, hk⟩ := mem_lentIx (rs := rs) h
    exact ⟨k + 1, by simpa using hk⟩
  | .f _ _ _ _ :: rs, i, h => by
    unfold lentIx at h
    obtain ⟨k, hk⟩ := mem_lentIx (rs := rs) h
    exact ⟨k + 1, by simpa using hk⟩
theorem upds_nof : ∀ {rs : List Rc} {ds : List D} {s s2 : List SV}, upds rs ds s = some s2 → ∀ (k i : Nat) (C n : Str) (j : Nat), rs[k]? ≠ some (Rc.f i C n j)
  | [], _, _, _, _, k, i, C, n, j => by simp
  | .f _ _ _ _ :: rs, ds, s, s2, h, k, i, C, n, j => by cases ds <;> (unfold upds at h; cases h)
  | .v a :: rs, [], s, s2, h, k, i, C, n, j => by unfold upds at h; cases h
  | .e a :: rs, [], s, s2, h, k, i, C, n, j => by unfold upds at h; cases h
  | .e a :: rs, d :: ds, s, s2, h, k, i, C, n, j => by
    unfold upds at h
    cases k with
    | zero => simp
    | succ k => simpa using upds_nof (rs := rs) h k i C n j
  | .v a :: rs, d :: ds, s, s2, h, k, i, C, n, j => by
    unfold upds at h
    split at h
    · cases k with
      | zero => simp
      | succ k => simpa using upds_nof (rs := rs) h k i C n j
    · cases k with
      | zero => simp
      | succ k => simpa using upds_nof (rs := rs) h k i C n j
    · cases h
theorem lentIx_of : ∀ {rs : List Rc} {k i : Nat}, rs[k]? = some (Rc.v i) → i ∈ lentIx rs
  | [], k, i, h => by simp at h
  | .v j :: rs, 0, i, h => by simp at h; subst h; unfold lentIx; exact List.mem_cons_self ..
  | .e j :: rs, 0, i, h => by simp at h
  | .f _ _ _ _ :: rs, 0, i, h => by simp at h
  | .f _ _ _ _ :: rs, k + 1, i, h => by unfold lentIx; exact lentIx_of (rs := rs) (k := k) (by simpa using h)
  | .v j :: rs, k + 1, i, h => by unfold lentIx; exact List.mem_cons_of_mem _ (lentIx_of (rs := rs) (k := k) (by simpa using h))
  | .e j :: rs, k + 1, i, h => by unfold lentIx; exact lentIx_of (rs := rs) (k := k) (by simpa using h)
theorem lentIx_inj : ∀ {rs : List Rc} {k l i : Nat}, (lentIx rs).Nodup → rs[k]? = some (Rc.v i) → rs[l]? = some (Rc.v i) → k = l
  | [], k, l, i, _, h, _ => by simp at h
  | .e m :: rs, k, l, i, n, h, h2 => by
    unfold lentIx at n
    cases k with
    | zero => simp at h
    | succ k => cases l with
      | zero => simp at h2
      | succ l => rw [lentIx_inj (rs := rs) (k := k) (l := l) n (by simpa using h) (by simpa using h2)]
  | .f _ _ _ _ :: rs, k, l, i, n, h, h2 => by
    unfold lentIx at n
    cases k with
    | zero => simp at h
    | succ k => cases l with
      | zero => simp at h2
      | succ l => rw [lentIx_inj (rs := rs) (k := k) (l := l) n (by simpa using h) (by simpa using h2)]
  | .v j :: rs, k, l, i, n, h, h2 => by
    unfold lentIx at n
    rw [List.nodup_cons] at n
    cases k with
    | zero => cases l with
      | zero => rfl
      | succ l =>
        have e : Rc.v j = Rc.v i := by simpa using h
        cases e
        exact absurd (lentIx_of (rs := rs) (k := l) (by simpa using h2)) n.1
    | succ k => cases l with
      | zero =>
        have e : Rc.v j = Rc.v i := by simpa using h2
        cases e
        exact absurd (lentIx_of (rs := rs) (k := k) (by simpa using h)) n.1
      | succ l => rw [lentIx_inj (rs := rs) (k := k) (l := l) n.2 (by simpa using h) (by simpa using h2)]
theorem upds_get : ∀ {rs : List Rc} {ds : List D} {s s2 : List SV}, upds rs ds s = some s2 → (lentIx rs).Nodup →
    s2.length = s.length ∧ rs.length = ds.length ∧ (∀ i, i ∉ lentIx rs → s2[i]? = s[i]?) ∧ ∀ (k i : Nat), rs[k]? = some (Rc.v i) → ∃ b d, s[i]? = some b ∧ b.own = true ∧ ds[k]? = some d ∧ s2[i]? = some (b.re d)
  | [], [], s, s2, h, _ => by unfold upds at h; cases h; exact ⟨rfl, rfl, fun _ _ => rfl, fun k i e => by simp at e⟩
  | [], d :: ds, s, s2, h, _ => by unfold upds at h; cases h
  | .v j :: rs, [], s, s2, h, _ => by unfold upds at h; cases h
  | .e j :: rs, [], s, s2, h, _ => by unfold upds at h; cases h
  | .f _ _ _ _ :: rs, ds, s, s2, h, _ => by cases ds <;> (unfold upds at h; cases h)
  | .e m :: rs, d :: ds, s, s2, h, n => by
    unfold upds at h
    obtain ⟨h1, h2, h3, h4⟩ := upds_get (rs := rs) h (by unfold lentIx at n; exact n)
    refine ⟨h1, by rw [List.length_cons, List.length_cons, h2], fun i hi => h3 i (by unfold lentIx at hi; exact hi), fun k i e => ?_⟩
    cases k with
    | zero => simp at e
    | succ k =>
      obtain ⟨b, d', z1, z2, z3, z4⟩ := h4 k i (by simpa using e)
      exact ⟨b, d', z1, z2, by simpa using z3, z4⟩
  | .v j :: rs, d :: ds, s, s2, h, n => by
    unfold lentIx at n
    rw [List.nodup_cons] at n
    have go : ∀ b : SV, s[j]? = some b → b.own = true → upds rs ds (s.set j (b.re d)) = some s2 → _ := fun b hb ob hu => by
      obtain ⟨h1, h2, h3, h4⟩ := upds_get (rs := rs) hu n.2
      have hj := (List.getElem?_eq_some_iff.mp hb).1
      refine (⟨by rw [h1, List.length_set], by rw [List.length_cons, List.length_cons, h2], fun i hi => ?_, fun k i e => ?_⟩ : s2.length = s.length ∧ (Rc.v j :: rs).length = (d :: ds).length ∧ (∀ i, i ∉ lentIx (.v j :: rs) → s2[i]? = s[i]?) ∧
        ∀ (k i : Nat), (Rc.v j :: rs)[k]? = some (Rc.v i) → ∃ b d', s[i]? = some b ∧ b.own = true ∧ (d :: ds)[k]? = some d' ∧ s2[i]? = some (b.re d'))
      · unfold lentIx at hi
        rw [List.mem_cons] at hi
        rw [h3 i (fun z => hi (.inr z)), List.getElem?_set_ne (fun z => hi (.inl z.symm))]
      · cases k with
        | zero =>
          have e' : Rc.v j = Rc.v i := by simpa using e
          cases e'
          exact ⟨b, d, hb, ob, rfl, by rw [h3 j n.1, List.getElem?_set_self hj]⟩
        | succ k =>
          have e' : rs[k]? = some (Rc.v i) := by simpa using e
          obtain ⟨b', d', z1, z2, z3, z4⟩ := h4 k i e'
          have ne : j ≠ i := fun z => n.1 (by rw [z]; exact lentIx_of e')
          rw [List.getElem?_set_ne ne] at z1
          exact ⟨b', d', z1, z2, by simpa using z3, z4⟩
    unfold upds at h
    split at h
    · rename_i d0 e0
      exact go _ e0 rfl h
    · rename_i d0 e0
      exact go _ e0 rfl h
    · cases h
section
variable {K : PySem.W.Frag} {mg : Str → Option Value} {Fr : Fx} {F G H : Hp} {s s' : List SV} {σ : List (Option V)} {d : D} {v : V}
theorem PendL.at : ∀ {rs : List Rc} {as : List (Option D)} {vs : List V} {ds : List D} {k : Nat} {r : Rc}, PendL K mg F σ rs as vs → finL rs as s = some ds → rs[k]? = some r →
    ∃ a v d, vs[k]? = some v ∧ ds[k]? = some d ∧ Pend K mg F σ r a v ∧ r.fin a s = some d
  | [], as, vs, ds, k, r, _, _, h => by simp at h
  | r0 :: rs, _, _, ds, k, r, p, e, h => by
    obtain ⟨a, as', v, vs', rfl, rfl, p1, p2⟩ := p
    unfold finL at e
    simp only [List.head?_cons, Option.getD_some, List.tail_cons] at e
    split at e
    · rename_i d1 ds1 f1 f2
      cases e
      cases k with
      | zero =>
        have e' : r0 = r := by simpa using h
        subst e'
        exact ⟨a, v, d1, rfl, rfl, p1, f1⟩
      | succ k =>
        obtain ⟨a', v', d', z1, z2, z3, z4⟩ := PendL.at (rs := rs) (k := k) (r := r) p2 f2 (by simpa using h)
        exact ⟨a', v', d', by simpa using z1, by simpa using z2, z3, z4⟩
    · cases e
theorem PendL.len : ∀ {rs : List Rc} {as : List (Option D)} {vs : List V} {ds : List D}, PendL K mg F σ rs as vs → finL rs as s = some ds → vs.length = rs.length ∧ ds.length = rs.length
  | [], as, vs, ds, p, e => by obtain ⟨_, rfl⟩ := p; unfold finL at e; cases e; exact ⟨rfl, rfl⟩
  | r0 :: rs, _, _, ds, p, e => by
    obtain ⟨a, as', v, vs', rfl, rfl, p1, p2⟩ := p
    unfold finL at e
    simp only [List.head?_cons, Option.getD_some, List.tail_cons] at e
    split at e
    · rename_i d1 ds1 f1 f2
      cases e
      obtain ⟨h1, h2⟩ := PendL.len (rs := rs) p2 f2
      exact ⟨by rw [List.length_cons, List.length_cons, h1], by rw [List.length_cons, List.length_cons, h2]⟩
    · cases e
/-- what the caller owns and does not lend -/
def Mine (s : List SV) (σ : List (Option V)) (rs : List Rc) (p : Addr) : Prop := ∃ (i : Nat) (a : SV), s[i]? = some a ∧ a.own = true ∧ σ[i]? = some (some (V.ref p)) ∧ i ∉ lentIx rs
open Classical in
noncomputable def frOf (Fr : Fx) (s : List SV) (σ : List (Option V)) (rs : List Rc) (H : Hp) : Fx := ⟨fun p => if Fr p ≠ none ∨ Mine s σ rs p then H p else none, []⟩
theorem frOf_of {rs : List Rc} {p : Addr} (h : Fr p ≠ none ∨ Mine s σ rs p) : (frOf Fr s σ rs H).hp p = H p := by
  unfold frOf
  exact if_pos h
theorem frOf_not {rs : List Rc} {p : Addr} (h : ¬ (Fr p ≠ none ∨ Mine s σ rs p)) : (frOf Fr s σ rs H).hp p = none := by
  unfold frOf
  exact if_neg h
theorem frOf_inv {rs : List Rc} {p : Addr} {o : HO} (h : (frOf Fr s σ rs H).hp p = some o) : (Fr p ≠ none ∨ Mine s σ rs p) ∧ H p = some o := by
  by_cases z : Fr p ≠ none ∨ Mine s σ rs p
  · exact ⟨z, by rw [← frOf_of (H := H) z]; exact h⟩
  · rw [frOf_not z] at h
    cases h
theorem own_addr {i : Nat} {a : SV} (st : StF K mg Fr F s σ H) (e : s[i]? = some a) (ha : a.own = true) : ∃ p o d, σ[i]? = some (some (V.ref p)) ∧ F p = none ∧ Fr p = none ∧ H p = some o ∧ a.get = some d ∧ Sh K mg F d o := by
  obtain ⟨w, hw, q⟩ := st.slot i a e
  cases a with
  | un => cases ha
  | fz d => cases ha
  | ow d => obtain ⟨p, o, rfl, h1, h2, h3, h4⟩ := q; exact ⟨p, o, d, hw, h1, h2, h3, rfl, h4⟩
  | io d => obtain ⟨p, o, rfl, h1, h2, h3, h4⟩ := q; exact ⟨p, o, d, hw, h1, h2, h3, rfl, h4⟩
  | ob _ _ => cases ha
  | lk _ => cases ha
theorem map_lent {rs : List Rc} {k : Nat} {b : Bool} (h : (rs.map Rc.lent)[k]? = some b) : ∃ r, rs[k]? = some r ∧ r.lent = b := by
  rw [List.getElem?_map] at h
  obtain ⟨r, h1, h2⟩ := Option.map_eq_some_iff.mp h
  exact ⟨r, h1, h2⟩
/-- a call's state, for the callee -/
theorem call_in {rs : List Rc} {as : List (Option D)} {vs : List V} {ds outs : List D} {s2 : List SV} (nd : (lentIx rs).Nodup) (st : StF K mg Fr F s σ H) (pd : PendL K mg F σ rs as vs) (ef : finL rs as s = some ds) (eu : upds rs outs s = some s2) :
    StF K mg (frOf Fr s σ rs H) F (svs (rs.map Rc.lent) ds) (vs.map some) H := by
  obtain ⟨lv, ld⟩ := pd.len ef
  obtain ⟨u1, u2, u3, u4⟩ := upds_get eu nd
  have lr : (rs.map Rc.lent).length = rs.length := List.length_map ..
  have key : ∀ {k : Nat} {a : SV}, (svs (rs.map Rc.lent) ds)[k]? = some a → a.own = true → ∃ (i : Nat) (b : SV) (p : Addr) (o : HO) (d : D), rs[k]? = some (Rc.v i) ∧ s[i]? = some b ∧ b.own = true ∧ a = .io d ∧ vs[k]? = some (.ref p) ∧ σ[i]? = some (some (V.ref p)) ∧ F p = none ∧ Fr p = none ∧ H p = some o ∧ Sh K mg F d o := fun {k a} e ha => by
    obtain ⟨bb, d, h1, h2, rfl⟩ := svs_at e
    obtain ⟨r, hr, hl⟩ := map_lent h1
    cases bb with
    | false => cases ha
    | true =>
      cases r with
      | e m => cases hl
      | f i C n j => exact absurd hr (upds_nof eu _ _ _ _ _)
      | v i =>
        obtain ⟨a0, v, d', z1, z2, z3, z4⟩ := pd.at ef hr
        rw [h2] at z2
        cases z2
        obtain ⟨b, d0, y1, y2, y3, y4⟩ := u4 k i hr
        obtain ⟨p, o, d2, x1, x2, x3, x4, x5, x6⟩ := own_addr st y1 y2
        have hv : σ[i]? = some (some v) := z3
        rw [x1] at hv
        cases hv
        unfold Rc.fin at z4
        simp only [y1] at z4
        rw [x5] at z4
        cases z4
        exact ⟨i, b, p, o, _, hr, y1, y2, rfl, z1, x1, x2, x3, x4, x6⟩
  refine ⟨st.sub, fun p o e => (frOf_inv e).2, fun p o e => ?_, ?_, fun k a e => ?_, fun i p hm => (nomatch hm), fun i j a b p e1 e2 o1 o2 w1 w2 => ?_⟩
  · obtain ⟨z, _⟩ := frOf_inv e
    rcases z with z | ⟨i, a, h1, h2, h3, h4⟩
    · cases hp : Fr.hp p with
      | none => exact absurd hp z
      | some o => exact st.dis p o hp
    · obtain ⟨p', o', d', x1, x2, _⟩ := own_addr st h1 h2
      rw [h3] at x1
      cases x1
      exact x2
  · rw [svs_len (by rw [ld, lr]), List.length_map, List.length_map, lv]
  · cases ha : a.own with
    | true =>
      obtain ⟨i, b, p, o, d, y0, y1, y2, rfl, y4, y5, y6, y7, y8, y9⟩ := key e ha
      refine ⟨some (.ref p), by rw [List.getElem?_map, y4]; rfl, p, o, rfl, y6, frOf_not fun z => ?_, y8, y9⟩
      rcases z with z | ⟨j, c, h1, h2, h3, h4⟩
      · exact z y7
      · have := st.apart j i c b p h1 y1 h2 y2 h3 y5
        subst this
        exact h4 (lentIx_of y0)
    | false =>
      obtain ⟨bb, d, h1, h2, rfl⟩ := svs_at e
      obtain ⟨r, hr, hl⟩ := map_lent h1
      cases bb with
      | true => cases ha
      | false =>
        cases r with
        | v i => cases hl
        | f i C n j => cases hl
        | e m =>
          obtain ⟨a0, v, d', z1, z2, z3, z4⟩ := pd.at ef hr
          rw [h2] at z2
          cases z2
          obtain ⟨d0, z5, z6⟩ := z3
          subst z5
          cases z4
          exact ⟨some v, by rw [List.getElem?_map, z1]; rfl, v, rfl, z6⟩
  · obtain ⟨i1, b1, p1, o1', d1, y0, y1, y2, _, y4, y5, _⟩ := key e1 o1
    obtain ⟨i2, b2, p2, o2', d2, t0, t1, t2, _, t4, t5, _⟩ := key e2 o2
    rw [List.getElem?_map, y4] at w1
    rw [List.getElem?_map, t4] at w2
    cases w1
    cases w2
    have := st.apart i1 i2 b1 b2 _ y1 t1 y2 t2 y5 t5
    subst this
    exact lentIx_inj nd y0 t0
theorem re_own {b : SV} {d : D} : (b.re d).own = b.own := by cases b <;> rfl
/-- and what the caller has behind it -/
theorem call_out {rs : List Rc} {as : List (Option D)} {vs : List V} {ds outs : List D} {s2 : List SV} {F' H' : Hp} {a : AV} (nd : (lentIx rs).Nodup) (st : StF K mg Fr F s σ H) (pd : PendL K mg F σ rs as vs) (ef : finL rs as s = some ds) (eu : upds rs outs s = some s2)
    (k : Same F F') (st' : StF K mg (frOf Fr s σ rs H) F' (svo (rs.map Rc.lent) outs) (vs.map some) H') (av : AVal K mg (frOf Fr s σ rs H) F' H' (svo (rs.map Rc.lent) outs) (vs.map some) a v) :
    StF K mg Fr F' s2 σ H' ∧ AVal K mg Fr F' H' s2 σ a v := by
  obtain ⟨u1, u2, u3, u4⟩ := upds_get eu nd
  have lr : (rs.map Rc.lent).length = rs.length := List.length_map ..
  -- an own slot behind the call
  have key : ∀ {i : Nat} {c : SV}, s2[i]? = some c → ∃ b : SV, s[i]? = some b ∧ b.own = c.own ∧ ((i ∉ lentIx rs ∧ c = b) ∨ ∃ (n : Nat) (d : D), rs[n]? = some (Rc.v i) ∧ outs[n]? = some d ∧ c = b.re d ∧ b.own = true) := fun {i c} e => by
    by_cases hi : i ∈ lentIx rs
    · obtain ⟨n, hn⟩ := mem_lentIx hi
      obtain ⟨b, d, y1, y2, y3, y4⟩ := u4 n i hn
      rw [y4] at e
      cases e
      exact ⟨b, y1, re_own.symm, .inr ⟨n, d, hn, y3, rfl, y2⟩⟩
    · exact ⟨c, by rw [← u3 i hi]; exact e, rfl, .inl ⟨hi, rfl⟩⟩
  -- the callee's slot of a lent one
  have lent : ∀ {i n : Nat} {b : SV} {d : D}, rs[n]? = some (Rc.v i) → s[i]? = some b → b.own = true → outs[n]? = some d → ∃ p o, σ[i]? = some (some (V.ref p)) ∧ (vs.map some)[n]? = some (some (V.ref p)) ∧ F' p = none ∧ Fr p = none ∧ H' p = some o ∧ Sh K mg F' d o ∧ (svo (rs.map Rc.lent) outs)[n]? = some (SV.io d) := fun {i n b d} hn hb ob hd => by
    obtain ⟨p, o, d2, x1, x2, x3, x4, x5, x6⟩ := own_addr st hb ob
    obtain ⟨a0, v0, d', z1, z2, z3, z4⟩ := pd.at ef hn
    have hv : σ[i]? = some (some v0) := z3
    rw [x1] at hv
    cases hv
    have hs : (svo (rs.map Rc.lent) outs)[n]? = some (SV.io d) := svo_io (by rw [List.getElem?_map, hn]; rfl) hd
    obtain ⟨w, hw, p', o', e', y1, y2, y3, y4⟩ := st'.slot n _ hs
    rw [List.getElem?_map, z1] at hw
    cases hw
    cases e'
    exact ⟨p, o', x1, by rw [List.getElem?_map, z1]; rfl, y1, x3, y3, y4, hs⟩
  refine ⟨⟨st'.sub, fun p o e => ?_, fun p o e => ?_, by rw [u1]; exact st.len, fun i c e => ?_, fun i p hm => ?_, fun i j c c' p e1 e2 o1 o2 w1 w2 => ?_⟩, ?_⟩
  · refine st'.fr p o ?_
    rw [frOf_of (.inl (by rw [e]; exact fun z => nomatch z))]
    exact st.fr p o e
  · refine st'.dis p o ?_
    rw [frOf_of (.inl (by rw [e]; exact fun z => nomatch z))]
    exact st.fr p o e
  · obtain ⟨b, hb, ho, z⟩ := key e
    rcases z with ⟨hi, rfl⟩ | ⟨n, d, hn, hd, rfl, ob⟩
    · obtain ⟨w, hw, q⟩ := st.slot i _ hb
      refine ⟨w, hw, q.mono k fun p o oc ew h1 h2 h3 => ?_⟩
      have hfr : (frOf Fr s σ rs H).hp p = some o := by
        rw [frOf_of (.inr ⟨i, _, hb, oc, by rw [hw, ew], hi⟩)]
        exact h3
      exact ⟨st'.dis p o hfr, st'.fr p o hfr⟩
    · obtain ⟨p, o, x1, x2, x3, x4, x5, x6, _⟩ := lent hn hb ob hd
      refine ⟨_, x1, ?_⟩
      cases b with
      | un => cases ob
      | fz _ => cases ob
      | ow _ => exact ⟨p, o, rfl, x3, x4, x5, x6⟩
      | io _ => exact ⟨p, o, rfl, x3, x4, x5, x6⟩
      | ob _ _ => cases ob
      | lk _ => cases ob
  · obtain ⟨h1, b0, h2, h3⟩ := st.lent i p hm
    refine ⟨h1, ?_⟩
    by_cases hi : i ∈ lentIx rs
    · obtain ⟨n, hn⟩ := mem_lentIx hi
      obtain ⟨b, d', y1, y2, y3, y4⟩ := u4 n i hn
      rw [h2] at y1
      cases y1
      exact ⟨_, y4, by cases b0 <;> first | exact h3 | cases y2⟩
    · exact ⟨b0, by rw [u3 i hi]; exact h2, h3⟩
  · obtain ⟨b, hb, ho, _⟩ := key e1
    obtain ⟨b', hb', ho', _⟩ := key e2
    exact st.apart i j b b' p hb hb' (by rw [ho]; exact o1) (by rw [ho']; exact o2) w1 w2
  · cases a with
    | fz d => exact av
    | ow d =>
      obtain ⟨p, o, rfl, h1, h2, h3, h4, h5⟩ := av
      have hnot : ¬ (Fr p ≠ none ∨ Mine s σ rs p) := fun z => by
        rw [frOf_of z] at h2
        rcases z with z | ⟨i, c, y1, y2, y3, y4⟩
        · cases hp : Fr.hp p with
          | none => exact z hp
          | some o => rw [st.fr p o hp] at h2; cases h2
        · obtain ⟨p', o', d', x1, x2, x3, x4, _⟩ := own_addr st y1 y2
          rw [y3] at x1
          cases x1
          rw [x4] at h2
          cases h2
      refine ⟨p, o, rfl, h1, ?_, h3, h4, fun i c e oc hi => ?_⟩
      · cases hp : Fr.hp p with
        | none => rfl
        | some o => exact absurd (.inl (by rw [hp]; exact fun z => nomatch z)) hnot
      · obtain ⟨b, hb, ho, z⟩ := key e
        rcases z with ⟨hi', rfl⟩ | ⟨n, d', hn, hd, rfl, ob⟩
        · exact hnot (.inr ⟨i, _, hb, oc, hi, hi'⟩)
        · obtain ⟨p', o', x1, x2, x3, x4, x5, x6, x7⟩ := lent hn hb ob hd
          rw [hi] at x1
          cases x1
          exact h5 n _ x7 rfl x2
theorem call_run {io : List Bool} {g : Fn} {rs : List Rc} {a : AV} {s2 : List SV} {Q : VK} {E : XK} (hio : io = rs.map Rc.lent) (nd : (lentIx rs).Nodup) (st : StF K mg Fr G s σ H) (e : xCall g rs s = some (a, s2))
    (q : ∀ v F H', Same G F → StF K mg Fr F s2 σ H' → AVal K mg Fr F H' s2 σ a v → Q v H') : tRcs K mg rs σ H fun vs H1 => spF K mg io g vs H1 Q E := by
  subst hio
  unfold xCall at e
  split at e
  · rename_i ds s1 e1
    unfold evL at e1
    split at e1
    · rename_i as s1' e2
      split at e1
      · rename_i ds' e3
        cases e1
        split at e
        · rename_i a' outs e4
          split at e
          · rename_i s2' e5
            cases e
            refine preL_run st e2 fun vs F1 H1 k1 st1 pd => ?_
            obtain ⟨lv, ld⟩ := pd.len e3
            obtain ⟨_, lo, _⟩ := upds_get e5 nd
            refine ⟨frOf Fr s1 σ rs H1, F1, ds, a, outs, by rw [List.length_map, ld], by rw [List.length_map, lv], by rw [List.length_map, lo], rfl, call_in nd st1 pd e3 e5, e4, fun v F' H' k2 st' av => ?_⟩
            obtain ⟨z1, z2⟩ := call_out nd st1 pd e3 e5 k2 st' av
            exact q v F' H' (k1.trans k2) z1 z2
          · cases e
        · cases e
      · cases e1
    · cases e1
  · cases e
end
section
variable {X : Cx} {k : Nat} {f : Addr} {fd : FuncData} {ps : List Str} {io : List Bool} {g : Fn} {rs : List Rc} {x : Str} {p pos : Pos} {e : Expr} {es : List Expr}
theorem px_call (F : FnOk X.prog X.w X.K X.mg X.base CX0 k f fd ps (spF X.K X.mg io g)) (hr : Room k X.A) (hg : Gl X x) (hm : X.mg x = some (.ref f)) (hk : PySem.W.keepIn X.K (.ref f) = true) (hb : Binds X.K fd ps [])
    (ha : PA X (e :: es) (tRcs X.K X.mg rs)) (hio : io = rs.map Rc.lent := by rfl) (nd : (lentIx rs).Nodup := by decide) (hdb : (x == ("__debug__" : Str)) = false := by decide) (he : starEach (e :: es) X.env = (false, eval e X.env) :: starEach es X.env := by rfl) (hpl : (backTo pos (starEach es X.env)).any (·.1) = false := by rfl) :
    PX X (.Call (.Name x p) (e :: es) [] pos) (xCall g rs) := by
  refine pe_imp (pe_call (E := E0) (dvs := []) F hr hg hm hk hb .nil pass0 ha hdb he hpl) fun σ H Q q => ?_
  obtain ⟨Fr, G, s, d, s', st, em, q⟩ := q
  unfold tCall
  have := call_run (E := E0) hio nd st em q
  simpa only [List.append_nil] using this
end
end PV
/-! PvM: own things that are changed. -/
namespace PV
open PySem PySem.Spec PyProof.Rows L2
section
variable {K : PySem.W.Frag} {mg : Str → Option Value} {Fr : Fx} {F G H : Hp} {s s' : List SV} {σ : List (Option V)} {d d' : D} {v : V} {p : Addr} {o o' : HO} {i : Nat} {b : SV}
/-- an own thing's content becomes another -/
theorem StF.change (st : StF K mg Fr F s σ H) (e : s[i]? = some b) (ob : b.own = true) (hp : σ[i]? = some (some (V.ref p))) (h1 : F p = none) (h2 : Fr p = none) (sh : Sh K mg F d' o') :
    StF K mg Fr F (s.set i (b.re d')) σ (upd H p o') := by
  have hi := lt_of_get e
  have at_ : ∀ {j : Nat} {a : SV}, (s.set i (b.re d'))[j]? = some a → ∃ a0, s[j]? = some a0 ∧ a0.own = a.own ∧ ((j = i ∧ a = b.re d') ∨ (j ≠ i ∧ a = a0)) := fun {j a} ej => by
    by_cases hj : i = j
    · subst hj
      rw [List.getElem?_set_self hi] at ej
      cases ej
      exact ⟨b, e, re_own.symm, .inl ⟨rfl, rfl⟩⟩
    · rw [List.getElem?_set_ne hj] at ej
      exact ⟨a, ej, rfl, .inr ⟨Ne.symm hj, rfl⟩⟩
  refine ⟨fun c u q => ?_, fun c u q => ?_, st.dis, by rw [List.length_set]; exact st.len, fun j a ej => ?_, fun j c hm => ?_, fun j k a a' c e1 e2 o1 o2 w1 w2 => ?_⟩
  · rw [upd_ne (ne_of_none q h1)]; exact st.sub c u q
  · rw [upd_ne (ne_of_none q h2)]; exact st.fr c u q
  · obtain ⟨a0, g1, g2, ⟨rfl, rfl⟩ | ⟨hj, rfl⟩⟩ := at_ ej
    · refine ⟨_, hp, ?_⟩
      cases b with
      | un => cases ob
      | fz _ => cases ob
      | ow _ => exact ⟨p, o', rfl, h1, h2, upd_same, sh⟩
      | io _ => exact ⟨p, o', rfl, h1, h2, upd_same, sh⟩
      | ob _ _ => cases ob
      | lk _ => cases ob
    · obtain ⟨w, hw, q⟩ := st.slot j _ g1
      refine ⟨w, hw, q.mono (Same.refl _) fun c u ha ew q1 q2 q3 => ?_⟩
      have ne : c ≠ p := fun z => hj (st.apart j i _ b p g1 e ha ob (by rw [hw, ew, z]) hp)
      rw [upd_ne ne]
      exact ⟨q1, q3⟩
  · obtain ⟨g1, a0, g2, g3⟩ := st.lent j c hm
    refine ⟨g1, ?_⟩
    by_cases hj : i = j
    · subst hj
      rw [e] at g2
      cases g2
      exact ⟨_, List.getElem?_set_self hi, by cases b <;> first | exact g3 | cases ob⟩
    · exact ⟨a0, by rw [List.getElem?_set_ne hj]; exact g2, g3⟩
  · obtain ⟨a0, g1, g2, _⟩ := at_ e1
    obtain ⟨a1, f1, f2, _⟩ := at_ e2
    exact st.apart j k a0 a1 c g1 f1 (by rw [g2]; exact o1) (by rw [f2]; exact o2) w1 w2
theorem chg_inv {f : D → Option (D × AV)} {a : AV} {s2 : List SV} (h : chg i f s = some (a, s2)) : ∃ b d d', s[i]? = some b ∧ b.own = true ∧ b.get = some d ∧ f d = some (d', a) ∧ s2 = s.set i (b.re d') := by
  unfold chg at h
  split at h
  · rename_i d0 e0
    split at h
    · rename_i d1 a1 e1
      cases h
      exact ⟨_, d0, d1, e0, rfl, rfl, e1, rfl⟩
    · cases h
  · rename_i d0 e0
    split at h
    · rename_i d1 a1 e1
      cases h
      exact ⟨_, d0, d1, e0, rfl, rfl, e1, rfl⟩
    · cases h
  · cases h
/-- a slot that holds a list, own or not -/
theorem slot_lst {ds : List D} (st : StF K mg Fr F s σ H) (e : s[i]? = some b) (g : b.get = some (.lst ds)) : ∃ p vs, σ[i]? = some (some (V.ref p)) ∧ Rd H p (.lst vs) := by
  obtain ⟨w, hw, q⟩ := st.slot i b e
  cases b with
  | un => cases g
  | fz d =>
    cases g
    obtain ⟨v, rfl, r⟩ := q
    obtain ⟨p, vs, rfl, h1, _⟩ := vw_lst st.sub (.inl r : View K mg F H _ _)
    exact ⟨p, vs, hw, h1⟩
  | ow d => cases g; obtain ⟨p, o, rfl, h1, h2, h3, vs, rfl, _⟩ := q; exact ⟨p, vs, hw, .inl h3⟩
  | io d => cases g; obtain ⟨p, o, rfl, h1, h2, h3, vs, rfl, _⟩ := q; exact ⟨p, vs, hw, .inl h3⟩
  | ob _ _ => cases g
  | lk d => cases g; obtain ⟨p, od, o, rfl, h1, vs, rfl, _⟩ := q; exact ⟨p, vs, hw, .inr ⟨od, st.fr _ _ h1⟩⟩
/-- an own slot: its address and content -/
theorem own_sh (st : StF K mg Fr F s σ H) (e : s[i]? = some b) (ob : b.own = true) (g : b.get = some d) : ∃ p o, σ[i]? = some (some (V.ref p)) ∧ F p = none ∧ Fr p = none ∧ H p = some o ∧ Sh K mg F d o := by
  obtain ⟨p, o, d2, x1, x2, x3, x4, x5, x6⟩ := own_addr st e ob
  rw [g] at x5
  cases x5
  exact ⟨p, o, x1, x2, x3, x4, x6⟩
end
section
variable {X : Cx} {o e : Expr} {apos cpos pos : Pos} {r0 r : Rc} {m : XM}
theorem tgt_run {K : PySem.W.Frag} {mg : Str → Option Value} {Fr : Fx} {F H : Hp} {s : List SV} {σ : List (Option V)} {r0 : Rc} {i : Nat} {z : Option D × S} (st : StF K mg Fr F s σ H) (ht : r0.tgt = some i) (hp : r0.pre s = some z) {R : V → Hp → Prop} (q : ∀ v, σ[i]? = some (some v) → R v H) : tRc K mg r0 σ H R := by
  cases r0 with
  | e m => cases ht
  | v j =>
    cases ht
    unfold Rc.pre at hp
    simp only at hp
    split at hp
    · rename_i b eb
      split at hp
      · rename_i d0 ed
        obtain ⟨w, hw⟩ := get_has st eb ed
        exact ⟨w, hw, q w hw⟩
      · cases hp
    · cases hp
  | f k C n j =>
    have ht : some j = some i := ht
    cases ht
    obtain ⟨z1, z2⟩ := z
    have key : tRc K mg (.f k C n i) σ H fun v H' => σ[i]? = some (some v) := pre_run st hp fun v F H' _ _ pd => pd
    obtain ⟨x, Ca, dx, ws, v, h1, h2, h3, h4, h5, h6⟩ := key
    exact ⟨x, Ca, dx, ws, v, h1, h2, h3, h4, h5, q v h5⟩
theorem ev1_e {s : List SV} : ev1 (.e m) s = xF m s := by
  cases h : m s with
  | none => simp only [ev1, Rc.pre, Rc.fin, xF, h]
  | some x => obtain ⟨a, s'⟩ := x; simp only [ev1, Rc.pre, Rc.fin, xF, h]
theorem tLst_ok {p : Addr} {vs : List V} {H : Hp} (h : Rd H p (.lst vs)) : tyV X.K "list" (.ref p) H := .inl ⟨rfl, vs, .inl h⟩
theorem chgR_inv {f : D → D → Option (D × AV)} {s s2 : List SV} {a : AV} (h : chgR r0 f r s = some (a, s2)) : ∃ i z b0 ds0 x s1, r0.tgt = some i ∧ r0.pre s = some z ∧ s[i]? = some b0 ∧ b0.get = some (.lst ds0) ∧ ev1 r s = some (x, s1) ∧ chg i (fun d => f d x) s1 = some (a, s2) := by
  unfold chgR at h
  split at h
  · rename_i i z ht hp
    split at h
    · rename_i b0 e0
      split at h
      · rename_i ds0 g0
        split at h
        · rename_i x s1 e1
          exact ⟨i, z, b0, ds0, x, s1, ht, hp, e0, g0, e1, h⟩
        · cases h
      · cases h
    · cases h
  · cases h
theorem px_append (ho : PRc X o r0) (he : PX X e m) (hbase : attributeBase o "append" X.env (eval o X.env) = eval o X.env) (hfew : ((backTo cpos (starEach [e] X.env)).all (fun x => !x.1) && (backToKw cpos (keywordEach [] X.env)).all (fun x => x.1.isSome)
      && decide (([e] : List Expr).length + ([] : List Keyword).length + (if ([] : List Keyword).isEmpty then 0 else 1) < 30)) = true)
    (hline : (apos.endLine == cpos.line) = true) (hs : starEach [e] X.env = (false, eval e X.env) :: starEach [] X.env) (hplain : (backTo cpos (starEach [] X.env)).any (·.1) = false) :
    PX X (.Call (.Attribute o "append" apos) [e] [] cpos) (chgR r0 cApp (.e m)) := by
  refine pe_imp (pe_bm (r := rAppend) F.plainAttrs_list F.slot_list_append F.type_list_append mt_append ho (pa_cons (pe_F he) pa_nil hs) hbase hfew hline hs hplain) fun σ H Q q => ?_
  obtain ⟨Fr, G, s, a, s2, st, em, q⟩ := q
  obtain ⟨i, z, b0, ds0, x, s1, ht, hpre, e0, g0, e1, em⟩ := chgR_inv em
  obtain ⟨p0, vs0, hp0, rd0⟩ := slot_lst st e0 g0
  refine tgt_run st ht hpre fun v0 hv0 => ?_
  rw [hp0] at hv0
  cases hv0
  rw [ev1_e] at e1
  refine ⟨tLst_ok rd0, Fr, G, s, x, s1, st, e1, fun v F H' k st' rep => ?_⟩
  obtain ⟨b, d, d', g1, g2, g3, g4, rfl⟩ := chg_inv em
  obtain ⟨p, o, x1, x2, x3, x4, x5⟩ := own_sh st' g1 g2 g3
  rw [hp0] at x1
  cases x1
  unfold cApp at g4
  split at g4
  · split at g4
    · rename_i hz
      cases g4
      obtain ⟨vs, rfl, rr⟩ := x5
      exact ⟨_, vs, v, rfl, rfl, x4, by rw [← sz_line, ← rr.len]; exact hz, q .non F _ k (st'.change g1 g2 hp0 x2 x3 (d' := .lst _) ⟨_, rfl, rr.app (reps_cons rep reps_nil)⟩) av_non⟩
    · cases g4
  · cases g4
theorem px_popAt (ho : PRc X o r0) (he : PRc X e r) (hbase : attributeBase o "pop" X.env (eval o X.env) = eval o X.env) (hfew : ((backTo cpos (starEach [e] X.env)).all (fun x => !x.1) && (backToKw cpos (keywordEach [] X.env)).all (fun x => x.1.isSome)
      && decide (([e] : List Expr).length + ([] : List Keyword).length + (if ([] : List Keyword).isEmpty then 0 else 1) < 30)) = true)
    (hline : (apos.endLine == cpos.line) = true) (hs : starEach [e] X.env = (false, eval e X.env) :: starEach [] X.env) (hplain : (backTo cpos (starEach [] X.env)).any (·.1) = false) :
    PX X (.Call (.Attribute o "pop" apos) [e] [] cpos) (chgR r0 cPopAt r) := by
  refine pe_imp (pe_bm (r := rPopAt) F.plainAttrs_list F.slot_list_pop F.type_list_pop mt_popAt ho (pa_cons he pa_nil hs) hbase hfew hline hs hplain) fun σ H Q q => ?_
  obtain ⟨Fr, G, s, a, s2, st, em, q⟩ := q
  obtain ⟨i, z, b0, ds0, x, s1, ht, hpre, e0, g0, e1, em⟩ := chgR_inv em
  obtain ⟨p0, vs0, hp0, rd0⟩ := slot_lst st e0 g0
  refine tgt_run st ht hpre fun v0 hv0 => ?_
  rw [hp0] at hv0
  cases hv0
  refine ⟨tLst_ok rd0, ev1_run st e1 fun v F H' k st' vx => ?_⟩
  obtain ⟨b, d, d', g1, g2, g3, g4, rfl⟩ := chg_inv em
  obtain ⟨p, o, x1, x2, x3, x4, x5⟩ := own_sh st' g1 g2 g3
  rw [hp0] at x1
  cases x1
  unfold cPopAt at g4
  split at g4
  · rename_i xs n
    split at g4
    · rename_i hz
      obtain ⟨y, hy, g5⟩ := Option.map_eq_some_iff.mp g4
      cases g5
      obtain ⟨vs, rfl, rr⟩ := x5
      obtain ⟨w, hw, ry⟩ := rr.get hy
      have hlt := lt_of_get hy
      rw [vw_int vx]
      refine ⟨_, vs, n, n.toNat, w, rfl, rfl, x4, by omega, hz.2, ?_, hw, q w F _ k (st'.change g1 g2 hp0 x2 x3 (d' := .lst _) ⟨_, rfl, rr.erase _⟩) ry⟩
      have hl := rr.len
      unfold seqIndex?
      have e1 : ¬ (n < 0) := by omega
      simp only [if_neg e1]
      have e2 : (decide (0 ≤ n) && decide (n < (vs.length : Int))) = true := by
        rw [Bool.and_eq_true, decide_eq_true_eq, decide_eq_true_eq]
        omega
      rw [if_pos e2]
    · cases g4
  · cases g4
/-- a method of an own list without operand -/
def chg0 (r0 : Rc) (f : D → Option (D × AV)) : XM := chgR r0 (fun d _ => f d) (.e (xC .non))
theorem chg0_inv {f : D → Option (D × AV)} {s s2 : List SV} {a : AV} (h : chg0 r0 f s = some (a, s2)) : ∃ i z b0 ds0, r0.tgt = some i ∧ r0.pre s = some z ∧ s[i]? = some b0 ∧ b0.get = some (.lst ds0) ∧ chg i f s = some (a, s2) := by
  obtain ⟨i, z, b0, ds0, x, s1, ht, hpre, e0, g0, e1, em⟩ := chgR_inv h
  rw [ev1_e] at e1
  cases e1
  exact ⟨i, z, b0, ds0, ht, hpre, e0, g0, em⟩
theorem px_pop (ho : PRc X o r0) (hbase : attributeBase o "pop" X.env (eval o X.env) = eval o X.env) (hline : (apos.endLine == cpos.line) = true) : PX X (.Call (.Attribute o "pop" apos) [] [] cpos) (chg0 r0 cPop) := by
  refine pe_imp (pe_bm0 (r := rPop) F.plainAttrs_list F.slot_list_pop F.type_list_pop mt_pop ho hbase hline) fun σ H Q q => ?_
  obtain ⟨Fr, G, s, a, s2, st', em, q⟩ := q
  obtain ⟨i, z, b0, ds0, ht, hpre, e0, g0, em⟩ := chg0_inv em
  obtain ⟨p0, vs0, hp0, rd0⟩ := slot_lst st' e0 g0
  refine tgt_run st' ht hpre fun v0 hv0 => ?_
  rw [hp0] at hv0
  cases hv0
  refine ⟨tLst_ok rd0, ?_⟩
  obtain ⟨b, d, d', g1, g2, g3, g4, rfl⟩ := chg_inv em
  obtain ⟨p, o, x1, x2, x3, x4, x5⟩ := own_sh st' g1 g2 g3
  rw [hp0] at x1
  cases x1
  unfold cPop at g4
  split at g4
  · obtain ⟨y, hy, g5⟩ := Option.map_eq_some_iff.mp g4
    cases g5
    obtain ⟨vs, rfl, rr⟩ := x5
    obtain ⟨w, hw, ry⟩ := rr.get hy
    exact ⟨_, vs, w, rfl, rfl, x4, by rw [← rr.len]; exact hw, q w G _ (Same.refl _) (st'.change g1 g2 hp0 x2 x3 (d' := .lst _) ⟨_, rfl, rr.dropLast⟩) ry⟩
  · cases g4
/-! ### o[k] = v -/
def rSetA : TSet := fun o i v H Q => rSetL o i v H Q ∨ rSetD o i v H Q
theorem set_any (hu : X.A.units + 1 < cLine) : PSet X rSetA := fun pins s σ H o i v ov iv u Q I ro ri rv h => by
  rcases h with h | h
  · exact set_list pins s σ H o i v ov iv u Q I ro ri rv h
  · exact set_dict hu pins s σ H o i v ov iv u Q I ro ri rv h
def mPut (r0 : Rc) (mv : XM) (rk : Rc) : MS := fun s => match mv s with
  | some (a, s1) => match r0.tgt, r0.pre s1 with
    | some i, some _ => match ev1 rk s1 with
        | some (k, s2) => match chg i (fun d => cPut d a.d k) s2 with
          | some (_, s3) => some (.nx, s3)
          | none => none
        | none => none
    | _, _ => none
  | none => none
/-- o[k] = v: the own thing's name -/
theorem s_put {k value : Expr} {mv : XM} {rk : Rc} {pos' : Pos} (hu : X.A.units + 1 < cLine) (ho : PRc X o r0) (hv : PX X value mv) (hk : PRc X k rk)
    (ha : ∀ v, assign (.Subscript o k pos') X.env v = (do
      let ov ← holding [v] (eval o X.env)
      let iv ← holding [v, ov] (eval k X.env)
      standAt pos'
      holding [v, ov, iv] (setItem ov iv v)
      release [v, ov, iv] [])) (hs : swapsWithSole [.Subscript o k pos'] value pos.line X.env = pure false) (hw : swappedStores [.Subscript o k pos'] value X.env = pure none) (h1 : (assignEach [.Subscript o k pos'] X.env).map (·.2) = [assign (.Subscript o k pos') X.env]) :
    PSt X (.Assign [.Subscript o k pos'] value pos) (mPut r0 mv rk) := by
  refine ps_imp (ps_asg (pe_F hv) (pg_sub ho hk (set_any hu) ha) hs hw h1) fun D σ H q => ?_
  obtain ⟨Fr, G, s, oo, s2, st, em, q⟩ := q
  unfold mPut at em
  split at em
  · rename_i av s1 e1
    split at em
    · rename_i i z0 ht hpre
      split at em
      · rename_i kd t2 e2
        split at em
        · rename_i oa s3 e3
          cases em
          refine ⟨Fr, G, s, av.d, s1, st, by unfold xF; rw [e1], fun v F1 H1 k1 st1 rep => ?_⟩
          refine tgt_run st1 ht hpre fun w hw0 => ?_
          refine ev1_run st1 e2 fun kv F H' k2 st' vk => ?_
          obtain ⟨b, d, d', g1, g2, g3, g4, rfl⟩ := chg_inv e3
          obtain ⟨p, o', x1, x2, x3, x4, x5⟩ := own_sh st' g1 g2 g3
          rw [hw0] at x1
          cases x1
          have fin : ∀ o2, Sh X.K X.mg F d' o2 → D.nx σ (upd H' p o2) := fun o2 sh => q σ F _ (k1.trans k2) (st'.change g1 g2 hw0 x2 x3 sh)
          have rep' := rep.mono k2
          unfold cPut at g4
          split at g4
          · rename_i kvs vv kk
            split at g4
            · rename_i key ek
              split at g4
              · rename_i hz
                cases g4
                obtain ⟨ws, rfl, rr⟩ := x5
                rw [vw_key vk ek]
                exact .inr ⟨p, _, rfl, .k x4 (by rw [← sz_line, ← rr.len]; exact hz), fin _ ⟨_, rfl, rr.put key rep'⟩⟩
              · cases g4
            · cases g4
          · rename_i kvs vv ks
            split at g4
            · rename_i key ek
              split at g4
              · rename_i hz
                cases g4
                obtain ⟨ws, rfl, rr⟩ := x5
                obtain ⟨c, vs, rfl, hc, r2⟩ := vw_tup st'.sub vk
                rw [keysOf_map ek] at r2
                rw [reps_keys r2] at hc
                exact .inr ⟨p, _, rfl, .t x4 hc (by rw [← sz_line, ← rr.len]; exact hz), fin _ ⟨_, rfl, rr.put key rep'⟩⟩
              · cases g4
            · cases g4
          · rename_i xs vv n
            split at g4
            · rename_i hz
              cases g4
              obtain ⟨ws, rfl, rr⟩ := x5
              rw [vw_int vk]
              refine .inl ⟨p, ws, n, n.toNat, rfl, rfl, x4, ?_, fin _ ⟨_, rfl, rr.set _ rep'⟩⟩
              unfold ixN
              rw [if_pos hz.1, if_pos (by rw [← rr.len]; exact hz.2)]
            · cases g4
          · cases g4
        · cases em
      · cases em
    · cases em
  · cases em
end
end PV
/-! PvV: lists of a dict's pairs and values, or by truth, methods, names of the text, chains, a try that runs through. -/
namespace PV
open PySem PySem.Spec PyProof.Rows L2
def dValsL : D → Option AV
  | .dK kvs => some (.ow (.lst (kvs.map (·.2))))
  | _ => none
section
variable {K : PySem.W.Frag} {mg : Str → Option Value} {Fr : Fx} {F H H' : Hp} {s : List SV} {σ : List (Option V)} {p : Addr}
open Classical in
noncomputable def growF (F H' : Hp) (ts : List Addr) : Hp := fun b => if b ∈ ts then H' b else F b
theorem growF_in {ts : List Addr} {b : Addr} (h : b ∈ ts) : growF F H' ts b = H' b := by unfold growF; exact if_pos h
theorem growF_out {ts : List Addr} {b : Addr} (h : b ∉ ts) : growF F H' ts b = F b := by unfold growF; exact if_neg h
/-- new things that become frozen -/
theorem StF.grow {ts : List Addr} (st : StF K mg Fr F s σ H) (k : Same H H') (new : ∀ t ∈ ts, H t = none) : StF K mg Fr (growF F H' ts) s σ H' ∧ Same F (growF F H' ts) := by
  have out : ∀ {b u}, H b = some u → b ∉ ts := fun {b u} e z => by rw [new b z] at e; cases e
  have sm : Same F (growF F H' ts) := fun b u e => by rw [growF_out (out (st.sub b u e))]; exact e
  refine ⟨⟨fun b u e => ?_, fun b u e => k b u (st.fr b u e), fun b u e => ?_, st.len, fun i a e => ?_, st.lent, st.apart⟩, sm⟩
  · by_cases hb : b ∈ ts
    · rw [growF_in hb] at e; exact e
    · rw [growF_out hb] at e; exact k b u (st.sub b u e)
  · rw [growF_out (out (st.fr b u e))]; exact st.dis b u e
  · obtain ⟨w, hw, q⟩ := st.slot i a e
    refine ⟨w, hw, q.mono sm fun b u _ _ h1 h2 h3 => ?_⟩
    exact ⟨by rw [growF_out (out h3)]; exact h1, k b u h3⟩
end
section
variable {X : Cx} {e o : Expr} {r : Rc} {p apos cpos pos : Pos}
theorem reps_pairsL {K : PySem.W.Frag} {mg : Str → Option Value} {F : Hp} : ∀ {kvs : List (Key × D)} {ws : List (Key × V)} {ts : List Addr}, RepK K mg F kvs ws → Paired (fun (t : Addr) (q : Key × V) => F t = some (.tup [kV q.1, q.2])) ts ws → Reps K mg F (kvs.map fun p => .tup [kD p.1, p.2]) (ts.map V.ref)
  | [], _, _, r, h => by
    unfold RepK at r
    subst r
    cases h
    exact reps_nil
  | (k, d) :: kvs, _, _, r, h => by
    unfold RepK at r
    obtain ⟨v, r', rfl, h1, h2⟩ := r
    cases h with
    | cons h t => exact reps_cons (rep_tup h (reps_cons (rep_kD k) (reps_cons h1 reps_nil))) (reps_pairsL h2 t)
theorem paired_mem {α β : Type} {P Q : α → β → Prop} : ∀ {xs : List α} {ys : List β}, Paired P xs ys → (∀ x ∈ xs, ∀ y, P x y → Q x y) → Paired Q xs ys
  | _, _, .nil, _ => .nil
  | _, _, .cons h t, i => .cons (i _ List.mem_cons_self _ h) (paired_mem t fun x hx => i x (List.mem_cons_of_mem _ hx))
def rLvals : V → Hp → VK → Prop := fun x H Q => ∃ (d : Addr) (kvs : List (Key × V)), x = .ref d ∧ Rd H d (.dK kvs) ∧ ∀ l, H l = none → Q (.ref l) (upd H l (.lst (kvs.map (·.2))))
theorem kv_vals {kvs : List (Key × V)} {vs : List (Key × Value)} (h : KV kvs vs) {us : List Value} (hl : us.length = vs.length) (hu : ∀ (j : Nat) (u : Value), us[j]? = some u → ∃ k, vs[j]? = some (k, u)) : Vals (kvs.map (·.2)) us := by
  have e := PySem.W.kdl_vals_eq us hl hu
  subst e
  clear hl hu
  unfold KV at h
  induction h with
  | nil => exact .nil
  | cons a t ih => exact .cons a.2 ih
/-- list(e.values()) of any dict -/
theorem pe_lvals {te : TE} (hc : X.calm = true) (he : PE X e te) (hg : Gl X "list") (hm : X.mg "list" = none) (hb : attributeBase e "values" X.env (eval e X.env) = eval e X.env) (hl : (apos.endLine == cpos.line) = true)
    (hs : starEach [.Call (.Attribute e "values" apos) [] [] cpos] X.env = (false, eval (.Call (.Attribute e "values" apos) [] [] cpos) X.env) :: starEach [] X.env) :
    PE X (.Call (.Name "list" p) [.Call (.Attribute e "values" apos) [] [] cpos] [] pos) (fun σ H Q => te σ H fun x H1 => rLvals x H1 Q) := ⟨fun pins s σ H Q I w0 => by
  refine wpAny_Call_Name_kw (ld_blt I hg hm (u := .type "list") (by rfl) (PyProof.Rows.callWith_type1 ?_ hs rfl))
  rw [hs]
  show wpAny _ _ (spliced (_ :: backTo pos (starEach [] X.env))) _ _ s
  refine Calls.spliced_cons (wpAny_Call_method (T := "dict") (id := "dict.values") hb rfl hl PySem.F.plainAttrs_dict PySem.F.slot_dict_values PySem.F.type_dict_values (thn (he.run pins s σ H _ I w0) fun u s1 ⟨x, H1, I1, rx, d, kvs, ex, hd, q⟩ => ?_))
  subst ex
  cases (show u = Value.ref d from rx)
  obtain ⟨hz, lo, vs, kv, hdo⟩ := dk_rd I1.hok hd
  obtain ⟨ep, hat⟩ := hdo.dictAt
  have ln : kvs.length = vs.length := Paired.length kv
  have I2 : Inv X pins σ H1 { s1 with heap := s1.heap.push { cls := .type "dict_values", data := .fields #[.ref d] } } := I1.kept (t' := s1.toks) fun c oc z => Heap.get?_push_of_some _ z
  refine ⟨hdo.typeIs, hdo.mapOf.noDict, ?_⟩
  show wpAny _ _ (callWith cpos (.builtin "dict.values") [.ref d] [] []) _ X.xe s1
  refine method_meetsIn PySem.F.slot_dict_values PySem.F.entry_dict_values rfl (PySem.evalArgs_none ⟨rfl, hdo.typeIs, PySem.F.args_dict_values_1 _, _, meets_dict_values (mixKind X.prog X.w) d lo, ⟨vs, hdo⟩, Calls.spliced_nil ?_⟩)
  refine PySem.W.kdl_call (PySem.W.kdl_values (knd := mixKind X.prog X.w) (kvs := vs) (ep := ep)) (I1.ok.hd hc) ⟨⟨_, Heap.get?_push_size _ rfl, rfl, rfl⟩, hat.push _⟩ (by omega) fun h2 tk acc c a1 a2 a3 => ?_
  have vals : Vals (kvs.map (·.2)) acc.toList := kv_vals kv (by rw [Array.length_toList]; exact a3.1) fun j u hu => a3.2 j u (by rw [← Array.getElem?_toList]; exact hu)
  refine ⟨.ref _, upd H1 _ _, I2.laid (o := .lst (kvs.map (·.2))) a1 (Nat.le_refl _) ⟨by rw [List.length_map]; exact hz, acc.toList, c, vals, ?_⟩, rfl, q _ (I2.hok.fresh (Nat.le_refl _))⟩
  rw [Array.toArray_toList]
  exact a2⟩
theorem RepK.vals {K : PySem.W.Frag} {mg : Str → Option Value} {F : Hp} : ∀ {kvs : List (Key × D)} {ws : List (Key × V)}, RepK K mg F kvs ws → Reps K mg F (kvs.map (·.2)) (ws.map (·.2))
  | [], _, r => by unfold RepK at r; subst r; exact reps_nil
  | (k, d) :: kvs, _, r => by
    unfold RepK at r
    obtain ⟨v, r', rfl, h1, h2⟩ := r
    exact reps_cons h1 (RepK.vals h2)
theorem px_lvals (hc : X.calm = true) (he : PRc X e r) (hg : Gl X "list") (hm : X.mg "list" = none) (hb : attributeBase e "values" X.env (eval e X.env) = eval e X.env) (hl : (apos.endLine == cpos.line) = true)
    (hs : starEach [.Call (.Attribute e "values" apos) [] [] cpos] X.env = (false, eval (.Call (.Attribute e "values" apos) [] [] cpos) X.env) :: starEach [] X.env) :
    PX X (.Call (.Name "list" p) [.Call (.Attribute e "values" apos) [] [] cpos] [] pos) (x1 dValsL r) := by
  refine pe_imp (pe_lvals hc he hg hm hb hl hs) fun σ H Q h => ?_
  obtain ⟨Fr, G, s, a, s', st, em, q⟩ := h
  unfold x1 at em
  split at em
  · rename_i d s1 e1
    obtain ⟨z, e2, e3⟩ := Option.map_eq_some_iff.mp em
    cases e3
    refine ev1_run st e1 fun v F H1 k st1 vx => ?_
    unfold dValsL at e2
    split at e2
    · cases e2
      obtain ⟨l, ws, rfl, hl, rr⟩ := vw_dK st1.sub vx
      exact ⟨l, ws, rfl, hl, new_lst st1 rr.vals fun v F' H' k' st' av => q v F' H' (k.trans k') st' av⟩
    · cases e2
  · cases em
/-! ### or by truth -/
theorem px_orT {a b : Expr} {rest : List Expr} {m n : XM} (ha : PX X a m) (hb : PX X (.BoolOp .Or (b :: rest) pos) n) : PX X (.BoolOp .Or (a :: b :: rest) pos) (xOrT m n) := by
  refine ⟨fun pins s0 σ H Q I q => ?_⟩
  obtain ⟨Fr, G, s, d, s', st, em, q⟩ := q
  unfold xOrT at em
  split at em
  · rename_i a0 s1 e1
    refine BoolOp_or (thn (pe_F ha |>.run pins s0 σ H (fun v H' => ∃ F, Same G F ∧ StF X.K X.mg Fr F s1 σ H' ∧ Rep X.K X.mg F a0.d v) I ⟨Fr, G, s, a0.d, s1, st, by unfold xF; rw [e1], fun v F H' k st' r => ⟨F, k, st', r⟩⟩) fun v t1 ⟨x, H1, I1, r1, F, k, st1, rep⟩ => ?_)
    split at em
    · rename_i e2
      cases em
      exact thn (truthy_D (Q := fun c H2 => c = true ∧ H2 = H1) I1 st1 rep r1 e2 ⟨rfl, rfl⟩) fun c t2 ⟨H2, I2, e3, e4⟩ => by
        subst e4
        subst e3
        exact ⟨x, _, I2, r1, q x F _ k st1 (av_fz rep)⟩
    · rename_i e2
      exact thn (truthy_D (Q := fun c H2 => c = false ∧ H2 = H1) I1 st1 rep r1 e2 ⟨rfl, rfl⟩) fun c t2 ⟨H2, I2, e3, e4⟩ => by
        subst e4
        subst e3
        exact hb.run pins t2 σ _ Q I2 ⟨Fr, F, s1, d, s', st1, em, fun v F' H' k' st' av => q v F' H' (k.trans k') st' av⟩
    · cases em
  · cases em
theorem px_one {op : BoolOp} {a : Expr} {m : XM} (ha : PX X a m) : PX X (.BoolOp op [a] pos) m := pe_one ha
theorem px_and {a b : Expr} {rest : List Expr} {m n : XM} (ha : PX X a m) (hb : PX X (.BoolOp .And (b :: rest) pos) n) : PX X (.BoolOp .And (a :: b :: rest) pos) (xAnd m n) := pe_imp (pe_and ha hb) fun σ H Q q => by
  obtain ⟨Fr, G, s, d, s', st, em, q⟩ := q
  unfold xAnd at em
  split at em
  · rename_i s1 e1
    exact ⟨Fr, G, s, _, s1, st, e1, fun v F H' k st' av => ⟨true, av_bl' av, iteT ⟨Fr, F, s1, d, s', st', em, fun v F' H2 k' st2 av => q v F' H2 (k.trans k') st2 av⟩⟩⟩
  · rename_i s1 e1
    cases em
    exact ⟨Fr, G, s, _, s', st, e1, fun v F H' k st' av => ⟨false, av_bl' av, iteF (q _ F H' k st' av_fb)⟩⟩
  · cases em
theorem px_not {a : Expr} {m : XM} (ha : PX X a m) : PX X (.UnaryOp .Not a pos) (xNot m) := pe_imp (pe_not ha) fun σ H Q q => by
  obtain ⟨Fr, G, s, d, s', st, em, q⟩ := q
  unfold xNot at em
  split at em
  · rename_i b s1 e1
    cases em
    exact ⟨Fr, G, s, _, s', st, e1, fun v F H' k st' av => ⟨b, av_bl' av, q _ F H' k st' av_fb⟩⟩
  · cases em
/-! ### names of the text -/
theorem px_gstr {x z : Str} {t : Tok} (hg : Gl X x) (hm : X.mg x = some (.str z t)) (hd : (x == ("__debug__" : Str)) = false := by decide) : PX X (.Name x pos) (xC (.str z)) := px_C (pe_glob hg hm (v := .str z) ⟨t, rfl⟩ hd) fun _ => rep_str
theorem px_gint {x : Str} {z : Int} {t : Tok} (hg : Gl X x) (hm : X.mg x = some (.int z t)) (hd : (x == ("__debug__" : Str)) = false := by decide) : PX X (.Name x pos) (xC (.int z)) := px_C (pe_glob hg hm (v := .int z) ⟨t, rfl⟩ hd) fun _ => rep_int
/-- a try whose body raises nothing -/
theorem s_try {body : List Stmt} {h0 : ExceptHandler} {hs : List ExceptHandler} {m : MS} (hb : PSts X.nox body m) : PSt X (.Try body (h0 :: hs) [] [] pos) m := ps_try_thru0 hb
/-! ### chains -/
theorem chain_run {a b c : Expr} {ra rb rc : Rc} {f g : D → D → Option AV} {r1 r2 : R2} {σ : L2.St} {H : Hp} {Q : VK} (hf : OpD X f r1) (hg : OpD X g r2) (h : tO X.K X.mg (xChain f g ra rb rc) σ H Q) :
    tChain r1 r2 (tRc X.K X.mg ra) (tRc X.K X.mg rb) (tRc X.K X.mg rc) σ H Q := by
  obtain ⟨Fr, G, s, d, s', st, em, q⟩ := h
  unfold xChain at em
  split at em
  · rename_i x s1 e1
    split at em
    · rename_i y s2 e2
      split at em
      · rename_i d1 d2 f1 f2
        refine pre_run st e1 fun v F1 H1 k1 st1 p1 => pre_run st1 e2 fun w F2 H2 k2 st2 p2 => ?_
        split at em
        · rename_i e3
          refine hf st2 e3 ((p1.mono k2).view st2 f1) (p2.view st2 f2) _ fun z F3 H3 k3 st3 av => ⟨true, av_bl' av, iteT ?_⟩
          split at em
          · rename_i y3 s3 e4
            split at em
            · rename_i d3 d4 g1 g2
              obtain ⟨z2, e5, e6⟩ := Option.map_eq_some_iff.mp em
              cases e6
              refine pre_run st3 e4 fun u F4 H4 k4 st4 p4 => ?_
              exact hg st4 e5 ((p2.mono (k3.trans k4)).view st4 g1) (p4.view st4 g2) _ fun z F5 H5 k5 st5 av5 => q z F5 H5 ((((k1.trans k2).trans k3).trans k4).trans k5) st5 av5
            · cases em
          · cases em
        · rename_i e3
          cases em
          exact hf st2 e3 ((p1.mono k2).view st2 f1) (p2.view st2 f2) _ fun z F3 H3 k3 st3 av => ⟨false, av_bl' av, iteF (q _ F3 H3 ((k1.trans k2).trans k3) st3 av_fb)⟩
        · cases em
      · cases em
    · cases em
  · cases em
theorem px_chain {a b c : Expr} {ra rb rc : Rc} {f g : D → D → Option AV} {r1 r2 : R2} {op op' : CmpOp} (h1 : OpR X (compareOp op) r1) (h2 : OpR X (compareOp op') r2) (hf : OpD X f r1) (hg : OpD X g r2) (ha : PRc X a ra) (hb : PRc X b rb) (hc : PRc X c rc)
    (hm : lastMarks [op, op'] [b, c] = false) : PX X (.Compare a [op, op'] [b, c] pos) (xChain f g ra rb rc) := pe_imp (pe_chain h1 h2 ha hb hc hm) fun σ H Q h => chain_run (a := a) (b := b) (c := c) hf hg h
theorem ptt_chain {a b c : Expr} {ra rb rc : Rc} {f g : D → D → Option AV} {r1 r2 : R2} {op op' : CmpOp} (h1 : OpR X (compareOp op) r1) (h2 : OpR X (compareOp op') r2) (hf : OpD X f r1) (hg : OpD X g r2) (ha : PRc X a ra) (hb : PRc X b rb) (hc : PRc X c rc)
    (hm : lastMarks [op, op'] [b, c] = false) : PTt X (.Compare a [op, op'] [b, c] pos) (PV.tB (xChain f g ra rb rc)) := pt_imp (pt_chain h1 h2 ha hb hc hm) fun σ H Q q => tB_run (fun Q' h => chain_run (a := a) (b := b) (c := c) hf hg h) q
/-! ### a method of a frozen object -/
def xMeth (C m : Str) (g : Fn) (ro : XM) (rs : List Rc) : XM := fun s => match ro s with
  | some (a, s1) => match a.d with
    | .ins B fs => if B = C ∧ (gv fs m).isNone = true then xCall g (.e (xC (.ins B fs)) :: rs) s1 else none
    | _ => none
  | none => none
theorem RepF.none {K : PySem.W.Frag} {mg : Str → Option Value} {F : Hp} (k : Str) : ∀ {ds : List (Str × D)} {vs : List (Str × V)}, RepF K mg F ds vs → gv ds k = none → vs.lookup k = none
  | [], vs, h, _ => by unfold RepF at h; subst h; rfl
  | (j, d) :: ds, vs, h, g => by
    unfold RepF at h
    obtain ⟨v, r, rfl, h1, h2⟩ := h
    unfold gv at g
    rw [List.find?_cons] at g
    by_cases hj : j = k
    · rw [decide_eq_true hj] at g; cases g
    · rw [decide_eq_false hj] at g
      rw [List.lookup_cons]
      have : (k == j) = false := by rw [beq_eq_false_iff_ne]; exact Ne.symm hj
      rw [this]
      exact RepF.none k h2 g
theorem call_runM {K : PySem.W.Frag} {mg : Str → Option Value} {Fr : Fx} {G H : Hp} {s : List SV} {σ : List (Option V)} {io : List Bool} {g : Fn} {rs : List Rc} {d0 : D} {v0 : V} {a : AV} {s2 : List SV} {Q : VK} {E : XK} (hio : io = false :: rs.map Rc.lent) (nd : (lentIx rs).Nodup) (st : StF K mg Fr G s σ H) (rep : Rep K mg G d0 v0) (e : xCall g (.e (xC d0) :: rs) s = some (a, s2))
    (q : ∀ v F H', Same G F → StF K mg Fr F s2 σ H' → AVal K mg Fr F H' s2 σ a v → Q v H') : tRcs K mg rs σ H fun vs H1 => spF K mg io g (v0 :: vs) H1 Q E := by
  subst hio
  have ehd : (.e (xC d0) :: rs).map Rc.lent = false :: rs.map Rc.lent := rfl
  have nd' : (lentIx (.e (xC d0) :: rs)).Nodup := nd
  unfold xCall at e
  split at e
  · rename_i ds s1 e1
    unfold evL at e1
    split at e1
    · rename_i as s1' e2
      split at e1
      · rename_i ds' e3
        cases e1
        split at e
        · rename_i a' outs e4
          split at e
          · rename_i s2' e5
            cases e
            unfold preL at e2
            have e0 : (Rc.e (xC d0)).pre s = some (some d0, s) := rfl
            rw [e0] at e2
            simp only at e2
            split at e2
            · rename_i as' s3 e6
              cases e2
              refine preL_run st e6 fun vs F1 H1 k1 st1 pd0 => ?_
              have pd : PendL K mg F1 σ (.e (xC d0) :: rs) (some d0 :: as') (v0 :: vs) := ⟨some d0, as', v0, vs, rfl, rfl, ⟨d0, rfl, rep.mono k1⟩, pd0⟩
              obtain ⟨lv, ld⟩ := pd.len e3
              obtain ⟨_, lo, _⟩ := upds_get e5 nd'
              rw [← ehd]
              refine ⟨frOf Fr s1 σ (.e (xC d0) :: rs) H1, F1, ds, a, outs, by rw [List.length_map, ld], by rw [List.length_map, lv], by rw [List.length_map, lo], rfl, call_in nd' st1 pd e3 e5, e4, fun v F' H' k2 st' av => ?_⟩
              obtain ⟨z1, z2⟩ := call_out nd' st1 pd e3 e5 k2 st' av
              exact q v F' H' (k1.trans k2) z1 z2
            · cases e2
          · cases e
        · cases e
      · cases e1
    · cases e1
  · cases e
theorem meth_run {C m : Str} {Ca : Addr} {g : Fn} {ro : XM} {rs : List Rc} {io : List Bool} {σ : L2.St} {H : Hp} {Q : VK} {E : XK} (hC : X.mg C = some (.ref Ca)) (hio : io = false :: rs.map Rc.lent) (nd : (lentIx rs).Nodup) (h : tO X.K X.mg (xMeth C m g ro rs) σ H Q) : tMeth Ca m (spF X.K X.mg io g) [] E (tE X.K X.mg (xF ro)) (tRcs X.K X.mg rs) σ H Q := by
  obtain ⟨Fr, G, s, d, s', st, em, q⟩ := h
  unfold xMeth at em
  split at em
  · rename_i a s1 e1
    split at em
    · rename_i B fs e2
      split at em
      · rename_i hc
        obtain ⟨rfl, hn⟩ := hc
        refine ⟨Fr, G, s, a.d, s1, st, by unfold xF; rw [e1], fun v F H1 k st1 rep => ?_⟩
        rw [e2] at rep
        obtain ⟨p, Ca', dx, ws, rfl, h1, h2, h3⟩ := vw_ins st1.sub (.inl rep : View X.K X.mg F H1 _ _)
        rw [hC] at h2
        cases h2
        refine ⟨p, dx, ws, rfl, h1, RepF.none m h3 (by simpa using hn), ?_⟩
        have := call_runM (E := E) hio nd st1 rep em fun v F' H' k' st' av => q v F' H' (k.trans k') st' av
        simpa only [List.append_nil] using this
      · cases em
    · cases em
  · cases em
theorem px_meth {C m : Str} {Ca f : Addr} {fd : FuncData} {ps : List Str} {k : Nat} {io : List Bool} {g : Fn} {ro : XM} {rs : List Rc} {es : List Expr} {pl : Sem Bool} (he : PX X o ro) (hC : X.mg C = some (.ref Ca)) (c : Cls X.K Ca) (hm : Meth X.K Ca m f) (F : FnOk X.prog X.w X.K X.mg X.base CX0 k f fd ps (spF X.K X.mg io g)) (hr : Room k X.A)
    (hb : Binds X.K fd ps []) (ha : PA X (e :: es) (tRcs X.K X.mg rs)) (hio : io = false :: rs.map Rc.lent) (nd : (lentIx rs).Nodup) (hst : starEach (e :: es) X.env = (false, eval e X.env) :: starEach es X.env) (hpl : (backTo pos (starEach es X.env)).any (·.1) = false)
    (ht : eval (.Call (.Attribute o m apos) (e :: es) [] pos) X.env = (do
      let ov ← eval o X.env
      standAt apos.atName
      let (f, first) ← holding [ov] (getMethod ov m pl)
      callWith pos f first (backTo pos (starEach (e :: es) X.env)) (backToKw pos (keywordEach [] X.env)))) : PX X (.Call (.Attribute o m apos) (e :: es) [] pos) (xMeth C m g ro rs) :=
  pe_imp (pe_meth (E := E0) (dvs := []) (pe_F he) c hm F hr hb .nil pass0 ha hst hpl ht) fun σ H Q q => meth_run hC hio nd q
/-! ### fields of an object that is being made -/
def xOwnF (i : Nat) (C f : Str) : XM := fun s => match s[i]? with
  | some (.ob B fl) => if B = C then (fdD fl f).map fun d => (.fz d, s) else none
  | _ => none
theorem px_ownF {i : Nat} {C f : Str} (hC : ClsOk X C f) (ho : PE X o (tVar i)) (hb : attributeBase o f X.env (eval o X.env) = eval o X.env) : PX X (.Attribute o f pos) (xOwnF i C f) := by
  refine pe_imp (pe_fld ho hb) fun σ H Q q => ?_
  obtain ⟨Fr, G, s, d, s', st, em, q⟩ := q
  unfold xOwnF at em
  split at em
  · rename_i B fl e0
    split at em
    · rename_i hB
      subst hB
      obtain ⟨d0, e1, e2⟩ := Option.map_eq_some_iff.mp em
      cases e2
      obtain ⟨w, hw, x, Ca, dx, ws, rfl, h2, h3, h4⟩ := st.slot i _ e0
      have eg : gv fl f = some (.d d0) := by
        unfold fdD at e1
        split at e1
        · rename_i d1 e2; cases e1; exact e2
        · cases e1
      obtain ⟨v, g1, g2⟩ := h4.get f eg
      obtain ⟨c, n⟩ := hC Ca h3
      exact ⟨_, hw, x, Ca, dx, ws, v, rfl, st.fr _ _ h2, c, n, g1, q v G H (Same.refl _) st (av_fz g2)⟩
    · cases em
  · cases em
theorem prc_f {i j : Nat} {C f : Str} (hC : ClsOk X C f) (ho : PE X o (tVar i)) (hb : attributeBase o f X.env (eval o X.env) = eval o X.env) : PRc X (.Attribute o f pos) (.f i C f j) := by
  refine pe_imp (pe_fld ho hb) fun σ H Q q => ?_
  obtain ⟨x, Ca, dx, ws, v, h1, h2, h3, h4, h5, q⟩ := q
  obtain ⟨c, n⟩ := hC Ca h3
  exact ⟨_, h1, x, Ca, dx, ws, v, rfl, h2, c, n, h4, q⟩
end
end PV
/-! PvB: objects: what an __init__ makes. -/
namespace PV
open PySem PySem.Spec PyProof.Rows L2
def noOb : List SV → Bool
  | [] => true
  | .ob _ _ :: _ => false
  | _ :: s => noOb s
theorem noOb_at : ∀ {s : List SV} {i : Nat} {C : Str} {fl : List (Str × Fd)}, noOb s = true → s[i]? ≠ some (.ob C fl)
  | [], i, C, fl, _ => by simp
  | a :: s, i, C, fl, h => by
    have hs : noOb s = true := by cases a <;> first | exact h | cases h
    cases i with
    | zero =>
      intro e
      have e : a = .ob C fl := by simpa using e
      subst e
      cases h
    | succ i => intro e; exact noOb_at hs (by simpa using e)
theorem noOb_set {d : D} : ∀ {s : List SV} {j : Nat}, noOb s = true → noOb (s.set j (.io d)) = true
  | [], _, _ => rfl
  | a :: s, 0, h => by cases a <;> first | exact h | cases h
  | a :: s, j + 1, h => by
    have hs : noOb s = true := by cases a <;> first | exact h | cases h
    have := noOb_set (d := d) (j := j) hs
    cases a <;> first | exact this | cases h
theorem noOb_tail {d : D} {s : List SV} {j : Nat} (h : noOb s.tail = true) (j0 : j ≠ 0) : noOb (s.set j (.io d)).tail = true := by
  cases s with
  | nil => exact h
  | cons a s => cases j with
    | zero => exact absurd rfl j0
    | succ j => exact noOb_set (s := s) h
section
variable {K : PySem.W.Frag} {mg : Str → Option Value} {Fr0 : Fx} {C : Str} {x Ca dx : Addr} {ws ws' : List (Str × V)} {lt : List (Nat × Addr)} {fl fl' : List (Str × Fd)} {F H : Hp} {s : List SV} {σ : List (Option V)}
/-- a def's state while the object at x is being made -/
def OB (K : PySem.W.Frag) (mg : Str → Option Value) (Fr0 : Fx) (C : Str) (x : Addr) (F : Hp) (s : List SV) (σ : List (Option V)) (H : Hp) : Prop :=
  ∃ Ca dx ws lt fl, mg C = some (.ref Ca) ∧ s[0]? = some (.ob C fl) ∧ Fr0 x = none ∧ (0, x) ∈ lt ∧ RepO K mg lt F fl ws ∧ StF K mg ⟨upd Fr0.hp x (.ins Ca dx ws), lt⟩ F s σ H
theorem ob_of (hC : mg C = some (.ref Ca)) (e : s[0]? = some (.ob C fl)) (h0 : Fr0 x = none) (hl : (0, x) ∈ lt) (st : StF K mg ⟨upd Fr0.hp x (.ins Ca dx ws), lt⟩ F s σ H) : RepO K mg lt F fl ws := by
  obtain ⟨w, hw, x', Ca', dx', ws', rfl, h2, h3, h4⟩ := st.slot 0 _ e
  obtain ⟨g1, _⟩ := st.lent 0 x hl
  rw [g1] at hw
  cases hw
  have h2 : upd Fr0.hp x (.ins Ca dx ws) x = some (.ins Ca' dx' ws') := h2
  rw [upd_same] at h2
  cases h2
  exact h4
/-- the object's content, and what is known of it -/
theorem StF.obset (st : StF K mg ⟨upd Fr0.hp x (.ins Ca dx ws), lt⟩ F s σ H) (hC : mg C = some (.ref Ca)) (e : s[0]? = some (.ob C fl)) (no : noOb s.tail = true) (hl : (0, x) ∈ lt) (r : RepO K mg lt F fl' ws') :
    StF K mg ⟨upd Fr0.hp x (.ins Ca dx ws'), lt⟩ F (s.set 0 (.ob C fl')) σ (upd H x (.ins Ca dx ws')) := by
  have hi := lt_of_get e
  have fx : F x = none := st.dis x _ upd_same
  have nob : ∀ {j : Nat} {B : Str} {f : List (Str × Fd)}, j ≠ 0 → s[j]? ≠ some (.ob B f) := fun {j B f} hj z => by
    cases s with
    | nil => simp at z
    | cons a s => cases j with
      | zero => exact hj rfl
      | succ j => exact noOb_at no (by simpa using z)
  refine ⟨fun b u q => ?_, fun b u q => ?_, fun b u q => ?_, by rw [List.length_set]; exact st.len, fun j a ej => ?_, fun j p hm => ?_, fun j k a b p e1 e2 o1 o2 w1 w2 => ?_⟩
  · rw [upd_ne (ne_of_none q fx)]; exact st.sub b u q
  · have q : upd Fr0.hp x (.ins Ca dx ws') b = some u := q
    by_cases hb : b = x
    · rw [hb, upd_same] at q ⊢; exact q
    · rw [upd_ne hb] at q ⊢
      exact st.fr b u (by show upd Fr0.hp x _ b = some u; rw [upd_ne hb]; exact q)
  · have q : upd Fr0.hp x (.ins Ca dx ws') b = some u := q
    by_cases hb : b = x
    · rw [hb]; exact fx
    · rw [upd_ne hb] at q
      exact st.dis b u (by show upd Fr0.hp x _ b = some u; rw [upd_ne hb]; exact q)
  · by_cases hj : j = 0
    · subst hj
      rw [List.getElem?_set_self hi] at ej
      cases ej
      exact ⟨_, (st.lent 0 x hl).1, x, Ca, dx, ws', rfl, upd_same, hC, r⟩
    · rw [List.getElem?_set_ne (Ne.symm hj)] at ej
      obtain ⟨w, hw, q⟩ := st.slot j a ej
      refine ⟨w, hw, ?_⟩
      have go : ∀ p o, upd Fr0.hp x (.ins Ca dx ws) p = none → H p = some o → upd Fr0.hp x (.ins Ca dx ws') p = none ∧ upd H x (.ins Ca dx ws') p = some o := fun p o h1 h2 => by
        have ne : p ≠ x := fun z => by rw [z, upd_same] at h1; cases h1
        rw [upd_ne ne] at h1 ⊢
        rw [upd_ne ne]
        exact ⟨h1, h2⟩
      cases a with
      | un => trivial
      | fz d => exact q
      | ow d => obtain ⟨p, o, e1, h1, h2, h3, h4⟩ := q; exact ⟨p, o, e1, h1, (go p o h2 h3).1, (go p o h2 h3).2, h4⟩
      | io d => obtain ⟨p, o, e1, h1, h2, h3, h4⟩ := q; exact ⟨p, o, e1, h1, (go p o h2 h3).1, (go p o h2 h3).2, h4⟩
      | ob B f => exact absurd ej (nob hj)
      | lk d => exact LkF.mono q (Same.refl _) (fun y od u e => by
        have e : upd Fr0.hp x (.ins Ca dx ws) y = some (.frz od u) := e
        show upd Fr0.hp x (.ins Ca dx ws') y = some (.frz od u)
        have ne : y ≠ x := fun z => by rw [z, upd_same] at e; cases e
        rw [upd_ne ne] at e ⊢
        exact e)
  · obtain ⟨g1, a, g2, g3⟩ := st.lent j p hm
    refine ⟨g1, ?_⟩
    by_cases hj : j = 0
    · subst hj; exact ⟨_, List.getElem?_set_self hi, rfl⟩
    · exact ⟨a, by rw [List.getElem?_set_ne (Ne.symm hj)]; exact g2, g3⟩
  · have at_ : ∀ {j : Nat} {a : SV}, (s.set 0 (.ob C fl'))[j]? = some a → a.own = true → s[j]? = some a := fun {j a} z o => by
      by_cases hj : j = 0
      · subst hj; rw [List.getElem?_set_self hi] at z; cases z; cases o
      · rw [List.getElem?_set_ne (Ne.symm hj)] at z; exact z
    exact st.apart j k a b p (at_ e1 o1) (at_ e2 o2) o1 o2 w1 w2
theorem RepO.len : ∀ {fl : List (Str × Fd)} {ws : List (Str × V)}, RepO K mg lt F fl ws → ws.length = fl.length
  | [], _, h => by cases h; rfl
  | (k, .d d) :: r, _, ⟨v, r', h1, h2, h3⟩ => by rw [h1, List.length_cons, List.length_cons, h3.len]
  | (k, .j i) :: r, _, ⟨v, r', h1, h2, h3⟩ => by rw [h1, List.length_cons, List.length_cons, h3.len]
theorem RepO.keys : ∀ {fl : List (Str × Fd)} {ws : List (Str × V)}, RepO K mg lt F fl ws → ws.map (·.1) = fl.map (·.1)
  | [], _, h => by cases h; rfl
  | (k, .d d) :: r, _, ⟨v, r', h1, h2, h3⟩ => by rw [h1, List.map_cons, List.map_cons, h3.keys]
  | (k, .j i) :: r, _, ⟨v, r', h1, h2, h3⟩ => by rw [h1, List.map_cons, List.map_cons, h3.keys]
theorem RepO.snoc {f : Str} {a : Fd} {v : V} (hv : match a with
    | .d d => Rep K mg F d v
    | .j i => ∃ q, v = V.ref q ∧ (i, q) ∈ lt) : ∀ {fl : List (Str × Fd)} {ws : List (Str × V)}, RepO K mg lt F fl ws → RepO K mg lt F (fl ++ [(f, a)]) (ws ++ [(f, v)])
  | [], _, h => by
    cases h
    cases a with
    | d d => exact ⟨v, [], rfl, hv, rfl⟩
    | j i => obtain ⟨q, rfl, hq⟩ := hv; exact ⟨q, [], rfl, hq, rfl⟩
  | (k, .d d) :: r, _, ⟨v', r', h1, h2, h3⟩ => by subst h1; exact ⟨v', _, rfl, h2, RepO.snoc hv h3⟩
  | (k, .j i) :: r, _, ⟨v', r', h1, h2, h3⟩ => by subst h1; exact ⟨v', _, rfl, h2, RepO.snoc hv h3⟩
theorem putF_new (f : Str) (v : V) : ∀ {ws : List (Str × V)}, f ∉ ws.map (·.1) → putF f v ws = ws ++ [(f, v)]
  | [], _ => rfl
  | (g, y) :: r, h => by
    rw [List.map_cons, List.mem_cons] at h
    have hg : g ≠ f := fun z => h (.inl z.symm)
    show (if g = f then (g, v) :: r else (g, y) :: putF f v r) = _
    rw [if_neg hg, putF_new f v (fun z => h (.inr z))]
    rfl
theorem gv_none {α : Type} {f : Str} : ∀ {fl : List (Str × α)}, gv fl f = none → f ∉ fl.map (·.1)
  | [], _ => by simp
  | (g, y) :: r, h => by
    unfold gv at h
    rw [List.find?_cons] at h
    by_cases hg : g = f
    · rw [decide_eq_true hg] at h; cases h
    · rw [decide_eq_false hg] at h
      rw [List.map_cons, List.mem_cons]
      rintro (z | z)
      · exact hg z.symm
      · exact gv_none (fl := r) h z
/-- a slot becomes an own field's -/
theorem StF.pinned {d : D} {q : Addr} {j : Nat} (st : StF K mg ⟨Fr0.hp, lt⟩ F s σ H) (av : AVal K mg ⟨Fr0.hp, lt⟩ F H s σ (.ow d) (.ref q)) (e : s[j]? = some .un) : StF K mg ⟨Fr0.hp, (j, q) :: lt⟩ F (s.set j (.io d)) (σ.set j (some (.ref q))) H := by
  obtain ⟨p, o, ep, h1, h2, h3, h4, h5⟩ := av
  cases ep
  have hi := lt_of_get e
  have hi' : j < σ.length := by rw [← st.len]; exact hi
  have z := st.set_slot (i := j) (a := .io d) (w := some (.ref q)) hi ⟨q, o, rfl, h1, h2, h3, h4⟩ (fun _ p ep k b hk ek ob ew => by cases ep; exact h5 k b ek ob ew) fun p m => (st.not_lent e rfl p m).elim
  refine ⟨z.sub, z.fr, z.dis, z.len, fun i a ei => ?_, fun i p hm => ?_, z.apart⟩
  · obtain ⟨w, hw, q2⟩ := z.slot i a ei
    refine ⟨w, hw, ?_⟩
    cases a with
    | ob B f => exact ObF.mono q2 (Same.refl _) (fun _ _ _ _ z => z) fun _ z => List.mem_cons_of_mem _ z
    | _ => exact q2
  · rcases List.mem_cons.mp hm with e1 | hm
    · cases e1
      exact ⟨List.getElem?_set_self hi', _, List.getElem?_set_self hi, rfl⟩
    · exact z.lent i p hm
/-- an own field's slot is given up: what stood in it is frozen -/
theorem StF.unpin {d : D} {q : Addr} {j : Nat} {u : HO} (st : StF K mg ⟨Fr0.hp, lt⟩ F s σ H) (e : s[j]? = some (.io d)) (hq : σ[j]? = some (some (V.ref q))) (no : ∀ (i : Nat) (B : Str) (f : List (Str × Fd)), s[i]? = some (.ob B f) → ∀ n, (n, Fd.j j) ∉ f) (r : ∀ F', Same F F' → F' q = some u → True) :
    StF K mg ⟨Fr0.hp, lt.filter fun z => decide (z.1 ≠ j)⟩ (upd F q u) (s.set j .un) σ (upd H q u) := by
  have hi := lt_of_get e
  obtain ⟨p, o, x1, x2, x3, x4, x5⟩ := own_sh st e rfl rfl
  rw [hq] at x1
  cases x1
  -- the slot is emptied first
  have st1 : StF K mg ⟨Fr0.hp, lt.filter fun z => decide (z.1 ≠ j)⟩ F (s.set j .un) σ H := by
    refine ⟨st.sub, st.fr, st.dis, by rw [List.length_set]; exact st.len, fun i a ei => ?_, fun i p hm => ?_, fun i k a b p e1 e2 o1 o2 w1 w2 => ?_⟩
    · by_cases hj : j = i
      · subst hj
        rw [List.getElem?_set_self hi] at ei
        cases ei
        exact ⟨_, hq, trivial⟩
      · rw [List.getElem?_set_ne hj] at ei
        obtain ⟨w, hw, q2⟩ := st.slot i a ei
        refine ⟨w, hw, ?_⟩
        cases a with
        | ob B f =>
          obtain ⟨x, Ca, dx, ws, h1, h2, h3, h4⟩ := q2
          refine ⟨x, Ca, dx, ws, h1, h2, h3, ?_⟩
          have nj := no i B f ei
          clear ei h2 h3
          induction f generalizing ws with
          | nil => exact h4
          | cons z f ih =>
            obtain ⟨k, z⟩ := z
            cases z with
            | d d => obtain ⟨v, r', g1, g2, g3⟩ := h4; exact ⟨v, r', g1, g2, ih _ g3 fun n z => nj n (List.mem_cons_of_mem _ z)⟩
            | j i0 =>
              obtain ⟨v, r', g1, g2, g3⟩ := h4
              refine ⟨v, r', g1, ?_, ih _ g3 fun n z => nj n (List.mem_cons_of_mem _ z)⟩
              rw [List.mem_filter]
              exact ⟨g2, decide_eq_true fun z => nj k (by have z : i0 = j := z; rw [z]; exact List.mem_cons_self)⟩
        | _ => exact q2
    · rw [List.mem_filter] at hm
      obtain ⟨g1, a, g2, g3⟩ := st.lent i p hm.1
      have hj : j ≠ i := fun z => (of_decide_eq_true hm.2) z.symm
      exact ⟨g1, a, by rw [List.getElem?_set_ne hj]; exact g2, g3⟩
    · have at_ : ∀ {i : Nat} {a : SV}, (s.set j .un)[i]? = some a → a.own = true → s[i]? = some a := fun {i a} z o => by
        by_cases hj : j = i
        · subst hj; rw [List.getElem?_set_self hi] at z; cases z; cases o
        · rw [List.getElem?_set_ne hj] at z; exact z
      exact st.apart i k a b p (at_ e1 o1) (at_ e2 o2) o1 o2 w1 w2
  refine st1.froze x2 x3 fun i a ei ha hs => ?_
  by_cases hj : j = i
  · subst hj; rw [List.getElem?_set_self hi] at ei; cases ei; cases ha
  · rw [List.getElem?_set_ne hj] at ei
    exact hj (st.apart j i _ a q e ei rfl ha hq hs)
end
/-! ### the statements of an __init__ -/
abbrev BM := List SV → Option (List SV)
def tBo (K : PySem.W.Frag) (mg : Str → Option Value) (C : Str) (m : BM) : TS := fun D σ H => ∃ Fr0 x G s s', OB K mg Fr0 C x G s σ H ∧ m s = some s' ∧ ∀ σ' F H', Same G F → OB K mg Fr0 C x F s' σ' H' → D.nx σ' H'
abbrev PB (X : Cx) (C : Str) (st : Stmt) (m : BM) : Prop := PS X st (tBo X.K X.mg C m)
abbrev PBs (X : Cx) (C : Str) (st : List Stmt) (m : BM) : Prop := PSs X st (tBo X.K X.mg C m)
def bNil : BM := fun s => some s
def bSeq (a b : BM) : BM := fun s => match a s with
  | some s' => b s'
  | none => none
def bGen (C : Str) (m : MS) : BM := fun s => match m s with
  | some (.nx, s') => match (s' : List SV)[0]? with
    | some (SV.ob B _) => if B = C then some s' else none
    | _ => none
  | _ => none
def bFld (C f : Str) (m : XM) : BM := fun s => match m s with
  | some (a, s') => match (s' : List SV)[0]? with
    | some (SV.ob B fl) => if B = C ∧ noOb s'.tail = true ∧ (gv fl f).isNone = true ∧ fl.length < 900 then some (s'.set 0 (.ob C (fl ++ [(f, .d a.d)]))) else none
    | _ => none
  | _ => none
def bNew (C f : Str) (j : Nat) (m : XM) : BM := fun s => match m s with
  | some (.ow d, s') => match (s' : List SV)[0]?, (s' : List SV)[j]? with
    | some (SV.ob B fl), some SV.un => if B = C ∧ noOb s'.tail = true ∧ (gv fl f).isNone = true ∧ fl.length < 900 ∧ j ≠ 0 then some ((s'.set j (.io d)).set 0 (.ob C (fl ++ [(f, .j j)]))) else none
    | _, _ => none
  | _ => none
def frzF (j : Nat) (d : D) : List (Str × Fd) → List (Str × Fd)
  | [] => []
  | (k, .j i) :: r => (k, if i = j then .d d else .j i) :: frzF j d r
  | (k, .d e) :: r => (k, .d e) :: frzF j d r
/-- an own field is frozen -/
def bFrz (C : Str) (j : Nat) : BM := fun s => match s[0]?, s[j]? with
  | some (SV.ob B fl), some (SV.io d) => if B = C ∧ noOb s.tail = true ∧ j ≠ 0 then some ((s.set 0 (.ob C (frzF j d fl))).set j .un) else none
  | _, _ => none
section
variable {X : Cx} {C : Str} {st : Stmt} {rest : List Stmt} {a b : BM} {pos pos' : Pos}
theorem b_nil : PBs X C [] bNil := pss_imp pss_nil fun D σ H q => by
  obtain ⟨Fr0, x, G, s, s', ob, em, q⟩ := q
  cases em
  exact q σ G H (Same.refl _) ob
theorem b_cons (h : PB X C st a) (t : PBs X C rest b) : PBs X C (st :: rest) (bSeq a b) := pss_imp (pss_cons h t) fun D σ H q => by
  obtain ⟨Fr0, x, G, s, s', ob, em, q⟩ := q
  unfold bSeq at em
  split at em
  · rename_i s1 e1
    exact ⟨Fr0, x, G, s, s1, ob, e1, fun σ' F H' k ob' => ⟨Fr0, x, F, s1, s', ob', em, fun σ2 F2 H2 k2 ob2 => q σ2 F2 H2 (k.trans k2) ob2⟩⟩
  · cases em
theorem b_gen {m : MS} (h : PSt X st m) : PB X C st (bGen C m) := ps_imp h fun D σ H q => by
  obtain ⟨Fr0, x, G, s, s', ⟨Ca, dx, ws, lt, fl, h1, h2, h3, h4, h5, st⟩, em, q⟩ := q
  unfold bGen at em
  split at em
  · rename_i s1 e1
    split at em
    · rename_i B fl' e0
      split at em
      · rename_i hB
        cases em
        subst hB
        exact ⟨_, G, s, .nx, s', st, e1, fun σ' F H' k st' => q σ' F H' k ⟨Ca, dx, ws, lt, fl', h1, e0, h3, h4, ob_of h1 e0 h3 h4 st', st'⟩⟩
      · cases em
    · cases em
  · cases em
theorem b_fld {o e : Expr} {f : Str} {m : XM} (ho : PE X o (tVar 0)) (h : PX X e m) (hC : ClsOk X C f) (hs : swapsWith e (some (.Attribute o f pos')) pos.line X.env = pure false) : PB X C (.Assign [.Attribute o f pos'] e pos) (bFld C f m) := ps_imp (ps_fld ho (pe_F h) hs) fun D σ H q => by
  obtain ⟨Fr0, x, G, s, s', ⟨Ca, dx, ws, lt, fl, h1, h2, h3, h4, h5, st⟩, em, q⟩ := q
  unfold bFld at em
  split at em
  · rename_i av s1 e1
    split at em
    · rename_i B fl' e0
      split at em
      · rename_i hB
        obtain ⟨rfl, no, hn, hl⟩ := hB
        cases em
        refine ⟨_, G, s, av.d, s1, st, by unfold xF; rw [e1], fun v F H1 k st1 rep => ?_⟩
        have r0 := ob_of h1 e0 h3 h4 st1
        obtain ⟨cl, na⟩ := hC Ca h1
        have hx : H1 x = some (.ins Ca dx ws) := st1.fr x _ upd_same
        have nf : f ∉ ws.map (·.1) := by rw [r0.keys]; exact gv_none (by simpa using hn)
        refine ⟨_, (st1.lent 0 x h4).1, x, Ca, dx, ws, rfl, hx, cl, na, by rw [r0.len]; omega, ?_⟩
        rw [putF_new f v nf]
        have r1 := r0.snoc (f := f) (a := .d av.d) (v := v) rep
        have hi := lt_of_get e0
        refine q σ F _ k ⟨Ca, dx, _, lt, _, h1, List.getElem?_set_self hi, h3, h4, r1, ?_⟩
        exact st1.obset h1 e0 no h4 r1
      · cases em
    · cases em
  · cases em
/-- a name that no scope has may stand for anything -/
theorem inv_ghost {pins : List (Addr × Obj)} {σ : L2.St} {H : Hp} {s : Shared} {j : Nat} {w : Option V} (I : Inv X pins σ H s) (hj : ∀ y, X.N[j]? = some y → ¬ Vis X.env.scope y) : Inv X pins (σ.set j w) H s :=
  ⟨I.ok, I.os, I.bare, I.base, let ⟨m, h1, h2⟩ := I.loc; ⟨m, h1, fun i y v e1 e2 e3 => by
    by_cases hi : j = i
    · subst hi; exact absurd e3 (hj y e1)
    · rw [List.getElem?_set_ne hi] at e2; exact h2 i y v e1 e2 e3⟩, I.cell, I.free, I.freeC, I.pin, I.hok, by rw [List.length_set]; exact I.len⟩
theorem ps_ghost {t : TS} {j : Nat} (h : PS X st t) (hj : ∀ y, X.N[j]? = some y → ¬ Vis X.env.scope y) : PS X st (fun D σ H => t { D with nx := fun σ' H' => ∃ w, D.nx (σ'.set j w) H' } σ H) := ⟨fun pins s σ H D I q => by
  refine wpAny_mono (h.run pins s σ H _ I q) (fun f s1 z => ?_) fun _ _ z => z
  cases f with
  | next => obtain ⟨σ', H', I', w, z⟩ := z; exact ⟨_, H', inv_ghost I' hj, z⟩
  | brk => exact z
  | cont => exact z
  | ret u => exact z⟩
theorem b_new {o e : Expr} {f : Str} {m : XM} {j : Nat} (ho : PE X o (tVar 0)) (h : PX X e m) (hC : ClsOk X C f) (hj : ∀ y, X.N[j]? = some y → ¬ Vis X.env.scope y) (hs : swapsWith e (some (.Attribute o f pos')) pos.line X.env = pure false) : PB X C (.Assign [.Attribute o f pos'] e pos) (bNew C f j m) := ps_imp (ps_ghost (ps_fld ho h hs) hj) fun D σ H q => by
  obtain ⟨Fr0, x, G, s, s', ⟨Ca, dx, ws, lt, fl, h1, h2, h3, h4, h5, st⟩, em, q⟩ := q
  unfold bNew at em
  split at em
  · rename_i d s1 e1
    split at em
    · rename_i B fl' e0 ej
      split at em
      · rename_i hB
        obtain ⟨rfl, no, hn, hl, j0⟩ := hB
        cases em
        refine ⟨_, G, s, _, s1, st, e1, fun v F H1 k st1 av => ?_⟩
        have r0 := ob_of h1 e0 h3 h4 st1
        obtain ⟨cl, na⟩ := hC Ca h1
        have hx : H1 x = some (.ins Ca dx ws) := st1.fr x _ upd_same
        have nf : f ∉ ws.map (·.1) := by rw [r0.keys]; exact gv_none (by simpa using hn)
        have av0 := av
        obtain ⟨p, o', rfl, _⟩ := av0
        have st2 := StF.pinned (Fr0 := ⟨upd Fr0.hp x (.ins Ca dx ws), []⟩) (lt := lt) st1 av ej
        have r1 : RepO X.K X.mg ((j, p) :: lt) F (fl' ++ [(f, .j j)]) (ws ++ [(f, .ref p)]) := (r0.mono (Same.refl _) fun _ z => List.mem_cons_of_mem _ z).snoc (a := .j j) ⟨p, rfl, List.mem_cons_self⟩
        have hi := lt_of_get e0
        have e0' : (s1.set j (.io d))[0]? = some (.ob B fl') := by rw [List.getElem?_set_ne j0]; exact e0
        have no' : noOb (s1.set j (.io d)).tail = true := noOb_tail no j0
        refine ⟨_, (st1.lent 0 x h4).1, x, Ca, dx, ws, rfl, hx, cl, na, by rw [r0.len]; omega, some (.ref p), ?_⟩
        rw [putF_new f _ nf]
        refine q _ F _ k ⟨Ca, dx, _, (j, p) :: lt, _, h1, List.getElem?_set_self (by rw [List.length_set]; exact hi), h3, List.mem_cons_of_mem _ h4, r1, ?_⟩
        exact st2.obset h1 e0' no' (List.mem_cons_of_mem _ h4) r1
      · cases em
    · cases em
  · cases em
/-- behind a statement a thing may be locked -/
theorem ps_post {t : TS} (h : PS X st t) : PS X st (fun D σ H => t { D with nx := fun σ' H' => D.nx σ' H' ∨ ∃ d u, H' d = some u ∧ Mut (some u) ∧ ∀ od, D.nx σ' (upd H' d (.frz od u)) } σ H) := ⟨fun pins s σ H D I q => by
  refine wpAny_mono (h.run pins s σ H _ I q) (fun f s1 z => ?_) fun _ _ z => z
  cases f with
  | next =>
    obtain ⟨σ', H', I', z⟩ := z
    rcases z with z | ⟨d, u, hd, mu, z⟩
    · exact ⟨σ', H', I', z⟩
    · obtain ⟨od, I2⟩ := I'.lock hd mu
      exact ⟨σ', _, I2, z od⟩
  | brk => exact z
  | cont => exact z
  | ret u => exact z⟩
theorem RepO.frz {K : PySem.W.Frag} {mg : Str → Option Value} {lt : List (Nat × Addr)} {F F' : Hp} {j : Nat} {q : Addr} {d : D} (e : Same F F') (r : Rep K mg F' d (.ref q)) (u : ∀ q', (j, q') ∈ lt → q' = q) : ∀ {fl : List (Str × Fd)} {ws : List (Str × V)}, RepO K mg lt F fl ws → RepO K mg (lt.filter fun z => decide (z.1 ≠ j)) F' (frzF j d fl) ws
  | [], _, h => h
  | (k, .d d0) :: fl, _, ⟨v, r', h1, h2, h3⟩ => ⟨v, r', h1, h2.mono e, RepO.frz e r u h3⟩
  | (k, .j i) :: fl, _, ⟨v, r', h1, h2, h3⟩ => by
    subst h1
    by_cases hi : i = j
    · subst hi
      have := u _ h2
      subst this
      show RepO K mg _ F' ((k, if i = i then .d d else .j i) :: frzF i d fl) _
      rw [if_pos rfl]
      exact ⟨_, _, rfl, r, RepO.frz e r u h3⟩
    · show RepO K mg _ F' ((k, if i = j then .d d else .j i) :: frzF j d fl) _
      rw [if_neg hi]
      exact ⟨_, _, rfl, by rw [List.mem_filter]; exact ⟨h2, decide_eq_true hi⟩, RepO.frz e r u h3⟩
theorem b_frz {j : Nat} (h : PB X C st a) : PB X C st (bSeq a (bFrz C j)) := ps_imp (ps_post h) fun D σ H q => by
  obtain ⟨Fr0, x, G, s, s', ob, em, q⟩ := q
  unfold bSeq at em
  split at em
  · rename_i s1 e1
    refine ⟨Fr0, x, G, s, s1, ob, e1, fun σ' F H' k ob' => ?_⟩
    obtain ⟨Ca, dx, ws, lt, fl, h1, h2, h3, h4, h5, st⟩ := ob'
    unfold bFrz at em
    split at em
    · rename_i B fl' d e0 ej
      split at em
      · rename_i hB
        obtain ⟨rfl, no, j0⟩ := hB
        cases em
        rw [h2] at e0
        cases e0
        obtain ⟨p, o, x1, x2, x3, x4, x5⟩ := own_sh st ej rfl rfl
        have hi := lt_of_get h2
        have hx : H' x = some (.ins Ca dx ws) := st.fr x _ upd_same
        have px : p ≠ x := fun z => by
          have x3 : upd Fr0.hp x (.ins Ca dx ws) p = none := x3
          rw [z, upd_same] at x3
          cases x3
        have go : ∀ u, (∀ F', Same F F' → F' p = some u → Rep X.K X.mg F' d (.ref p)) → OB X.K X.mg Fr0 B x (upd F p u) ((s1.set 0 (.ob B (frzF j d fl))).set j .un) σ' (upd H' p u) := fun u hr => by
          have sm : Same F (upd F p u) := same_upd x2
          have rp := hr _ sm upd_same
          have u1 : ∀ q', (j, q') ∈ lt → q' = p := fun q' hm => by
            have := (st.lent j q' hm).1
            rw [x1] at this
            cases this
            rfl
          -- the field's name no longer speaks of the slot
          have key : ∀ (F2 : Hp), RepO X.K X.mg (lt.filter fun z => decide (z.1 ≠ j)) (upd F p u) (frzF j d fl) ws := fun _ => h5.frz sm rp u1
          have r1 := key F
          -- empty the slot of a state without links
          have nob : ∀ (i : Nat) (A : Str) (f : List (Str × Fd)), (s1.set 0 .un)[i]? = some (.ob A f) → ∀ n, (n, Fd.j j) ∉ f := fun i A f ei => by
            exfalso
            cases i with
            | zero => rw [List.getElem?_set_self hi] at ei; cases ei
            | succ i =>
              rw [List.getElem?_set_ne (by omega)] at ei
              cases s1 with
              | nil => simp at ei
              | cons a0 s1 => exact noOb_at no (by simpa using ei)
          have ltf : (0, x) ∈ lt.filter fun z => decide (z.1 ≠ j) := by rw [List.mem_filter]; exact ⟨h4, decide_eq_true (Ne.symm j0)⟩
          have st0 : StF X.K X.mg ⟨upd Fr0.hp x (.ins Ca dx ws), lt.filter fun z => decide (z.1 ≠ 0)⟩ F (s1.set 0 .un) σ' H' := by
            refine ⟨st.sub, st.fr, st.dis, by rw [List.length_set]; exact st.len, fun i a ei => ?_, fun i q hm => ?_, fun i k a b q e1 e2 o1 o2 w1 w2 => ?_⟩
            · by_cases hz : 0 = i
              · subst hz
                rw [List.getElem?_set_self hi] at ei
                cases ei
                exact ⟨_, (st.lent 0 x h4).1, trivial⟩
              · have ei' := ei
                rw [List.getElem?_set_ne hz] at ei
                obtain ⟨w, hw, q2⟩ := st.slot i a ei
                refine ⟨w, hw, ?_⟩
                cases a with
                | ob A f =>
                  exfalso
                  cases i with
                  | zero => exact hz rfl
                  | succ i => cases s1 with
                    | nil => simp at ei
                    | cons a0 s1 => exact noOb_at no (by simpa using ei)
                | _ => exact q2
            · rw [List.mem_filter] at hm
              obtain ⟨g1, a, g2, g3⟩ := st.lent i q hm.1
              have hz : 0 ≠ i := fun z => (of_decide_eq_true hm.2) z.symm
              exact ⟨g1, a, by rw [List.getElem?_set_ne hz]; exact g2, g3⟩
            · have at_ : ∀ {i : Nat} {a : SV}, (s1.set 0 .un)[i]? = some a → a.own = true → s1[i]? = some a := fun {i a} z o => by
                by_cases hz : 0 = i
                · subst hz; rw [List.getElem?_set_self hi] at z; cases z; cases o
                · rw [List.getElem?_set_ne hz] at z; exact z
              exact st.apart i k a b q (at_ e1 o1) (at_ e2 o2) o1 o2 w1 w2
          have st2 := StF.unpin (Fr0 := ⟨upd Fr0.hp x (.ins Ca dx ws), []⟩) (lt := lt.filter fun z => decide (z.1 ≠ 0)) (u := u) st0 (by rw [List.getElem?_set_ne (Ne.symm j0)]; exact ej) x1 nob fun _ _ _ => trivial
          -- and the object's slot again
          have st3 : StF X.K X.mg ⟨upd Fr0.hp x (.ins Ca dx ws), lt.filter fun z => decide (z.1 ≠ j)⟩ (upd F p u) ((s1.set 0 (.ob B (frzF j d fl))).set j .un) σ' (upd H' p u) := by
            have es : (s1.set 0 (.ob B (frzF j d fl))).set j .un = ((s1.set 0 .un).set j .un).set 0 (.ob B (frzF j d fl)) := by
              rw [List.set_comm _ _ j0, List.set_set]
            rw [es]
            have hi2 : 0 < ((s1.set 0 .un).set j .un).length := by rw [List.length_set, List.length_set]; exact hi
            refine ⟨st2.sub, st2.fr, st2.dis, by rw [List.length_set]; exact st2.len, fun i a ei => ?_, fun i q hm => ?_, fun i k a b q e1 e2 o1 o2 w1 w2 => ?_⟩
            · by_cases hz : 0 = i
              · subst hz
                rw [List.getElem?_set_self hi2] at ei
                cases ei
                exact ⟨_, (st.lent 0 x h4).1, x, Ca, dx, ws, rfl, upd_same, h1, r1⟩
              · rw [List.getElem?_set_ne hz] at ei
                obtain ⟨w, hw, q2⟩ := st2.slot i a ei
                refine ⟨w, hw, ?_⟩
                cases a with
                | ob A f =>
                  exfalso
                  by_cases hij : j = i
                  · subst hij
                    rw [List.getElem?_set_self (by rw [List.length_set]; exact lt_of_get ej)] at ei
                    cases ei
                  · rw [List.getElem?_set_ne hij] at ei
                    rw [List.getElem?_set_ne hz] at ei
                    cases i with
                    | zero => exact hz rfl
                    | succ i => cases s1 with
                      | nil => simp at ei
                      | cons a0 s1 => exact noOb_at no (by simpa using ei)
                | _ => exact q2
            · rw [List.mem_filter] at hm
              by_cases hz : 0 = i
              · subst hz
                exact ⟨(st.lent 0 q hm.1).1, _, List.getElem?_set_self hi2, rfl⟩
              · have hj2 : i ≠ j := of_decide_eq_true hm.2
                obtain ⟨g1, a, g2, g3⟩ := st.lent i q hm.1
                exact ⟨g1, a, by rw [List.getElem?_set_ne hz, List.getElem?_set_ne (Ne.symm hj2), List.getElem?_set_ne hz]; exact g2, g3⟩
            · have at_ : ∀ {i : Nat} {a : SV}, (((s1.set 0 .un).set j .un).set 0 (.ob B (frzF j d fl)))[i]? = some a → a.own = true → ((s1.set 0 .un).set j .un)[i]? = some a := fun {i a} z o => by
                by_cases hz : 0 = i
                · subst hz; rw [List.getElem?_set_self hi2] at z; cases z; cases o
                · rw [List.getElem?_set_ne hz] at z; exact z
              exact st2.apart i k a b q (at_ e1 o1) (at_ e2 o2) o1 o2 w1 w2
          refine ⟨Ca, dx, ws, _, _, h1, ?_, h3, ltf, r1, st3⟩
          rw [List.getElem?_set_ne j0]
          exact List.getElem?_set_self hi
        rcases sh_cases (p := p) x5 with ⟨ds, vs, rfl, rfl, hr⟩ | ⟨mu, hr⟩
        · have z := go (.lst vs) fun F' e eq => rep_lst (.inl eq) (hr.mono e)
          rw [upd_id x4] at z
          exact .inl (q σ' _ H' (k.trans (same_upd x2)) z)
        · exact .inr ⟨p, o, x4, mu, fun od => q σ' _ _ (k.trans (same_upd x2)) (go _ fun F' e eq => hr od F' e eq)⟩
      · cases em
    · cases em
  · cases em
end
end PV
/-! PvK: what a class's call makes. -/
namespace PV
open PySem PySem.Spec PyProof.Rows L2
def fdAll : List (Str × Fd) → Option (List (Str × D))
  | [] => some []
  | (k, .d d) :: r => (fdAll r).map ((k, d) :: ·)
  | _ :: _ => none
def mkI (C : Str) (n np : Nat) (m : BM) : List D → Option D := fun ds => if ds.length = np then match m (.ob C [] :: (ds.map SV.fz ++ List.replicate (n - (np + 1)) .un)) with
    | some s' => match s'[0]? with
      | some (SV.ob B fl) => if B = C then (fdAll fl).map (D.ins C) else none
      | _ => none
    | none => none
  else none
def xMake (g : List D → Option D) (rs : List Rc) : XM := fun s => match evL rs s with
  | some (ds, s1) => (g ds).map fun d => (.fz d, s1)
  | none => none
section
variable {K : PySem.W.Frag} {mg : Str → Option Value} {Fr : Fx} {F G H : Hp} {s : List SV} {σ : List (Option V)} {C : Str}
def spI (K : PySem.W.Frag) (mg : Str → Option Value) (C : Str) (np : Nat) (g : List D → Option D) : Sp := fun vs H Q _ => ∃ (Fr : Fx) (G H0 : Hp) (ds : List D) (d : D) (x dx Ca : Addr) (vs' : List V), mg C = some (.ref Ca) ∧ vs = .ref x :: vs' ∧ H0 x = none ∧ H0 dx = none ∧ dx ≠ x ∧ H = upd (upd H0 dx (.own x)) x (.ins Ca dx []) ∧ Fr.lt = [] ∧ vs'.length = np ∧ ds.length = np ∧
  StF K mg Fr G (ds.map SV.fz) (vs'.map some) H0 ∧ g ds = some d ∧ ∀ F H', Same G F → StF K mg Fr F [] [] H' → Rep K mg F d (.ref x) → Q .non H'
theorem fdAll_rep : ∀ {fl : List (Str × Fd)} {fs : List (Str × D)} {ws : List (Str × V)} {lt : List (Nat × Addr)}, RepO K mg lt F fl ws → fdAll fl = some fs → RepF K mg F fs ws
  | [], fs, ws, lt, h, e => by cases e; cases h; unfold RepF; rfl
  | (k, .d d) :: r, fs, ws, lt, h, e => by
    obtain ⟨v, r', rfl, h2, h3⟩ := h
    unfold fdAll at e
    obtain ⟨fs', e1, rfl⟩ := Option.map_eq_some_iff.mp e
    unfold RepF
    exact ⟨v, r', rfl, h2, fdAll_rep h3 e1⟩
  | (k, .j i) :: r, fs, ws, lt, h, e => by cases e
theorem ob_start {x dx Ca : Addr} {ds : List D} {vs' : List V} {H0 : Hp} {n : Nat} (hC : mg C = some (.ref Ca)) (hx : H0 x = none) (hdx : H0 dx = none) (ne : dx ≠ x) (hl : Fr.lt = []) (hd : ds.length = vs'.length) (st : StF K mg Fr G (ds.map SV.fz) (vs'.map some) H0) :
    OB K mg Fr C x G (.ob C [] :: (ds.map SV.fz ++ List.replicate n .un)) (some (.ref x) :: (vs'.map some ++ List.replicate n none)) (upd (upd H0 dx (.own x)) x (.ins Ca dx [])) := by
  have hx1 : upd H0 dx (.own x) x = none := by rw [upd_ne (Ne.symm ne)]; exact hx
  have st2 := (st.new (o := .own x) hdx).hold (o := .ins Ca dx []) hx1
  have frx : Fr x = none := st.fr.free hx
  refine ⟨Ca, dx, [], [(0, x)], [], hC, rfl, frx, List.mem_singleton.mpr rfl, rfl, st2.sub, st2.fr, st2.dis, ?_, fun i a e => ?_, fun i p hm => ?_, fun i j a b p e1 e2 o1 o2 w1 w2 => ?_⟩
  · rw [List.length_cons, List.length_cons, List.length_append, List.length_append, List.length_map, List.length_map, List.length_replicate, List.length_replicate, hd]
  · cases i with
    | zero =>
      have e : SV.ob C [] = a := by simpa using e
      subst e
      exact ⟨_, rfl, x, Ca, dx, [], rfl, upd_same, hC, rfl⟩
    | succ i =>
      have e : (ds.map SV.fz ++ List.replicate n .un)[i]? = some a := by simpa using e
      show ∃ w, (vs'.map some ++ List.replicate n none)[i]? = some w ∧ _
      by_cases hi : i < ds.length
      · rw [List.getElem?_append_left (by rw [List.length_map]; exact hi)] at e
        rw [List.getElem?_append_left (by rw [List.length_map, ← hd]; exact hi)]
        obtain ⟨w, hw, q⟩ := st2.slot i a e
        refine ⟨w, hw, ?_⟩
        rw [List.getElem?_map] at e
        obtain ⟨d, _, rfl⟩ := Option.map_eq_some_iff.mp e
        exact q
      · rw [List.getElem?_append_right (by rw [List.length_map]; omega), List.getElem?_replicate] at e
        rw [List.getElem?_append_right (by rw [List.length_map]; omega), List.getElem?_replicate]
        rw [List.length_map] at e ⊢
        split at e
        · rename_i h
          cases e
          exact ⟨none, by rw [if_pos (by rw [← hd]; exact h)], trivial⟩
        · cases e
  · rw [List.mem_singleton] at hm
    cases hm
    exact ⟨rfl, _, rfl, rfl⟩
  · have nown : ∀ {i : Nat} {a : SV}, (SV.ob C [] :: (ds.map SV.fz ++ List.replicate n .un))[i]? = some a → a.own = false := fun {i a} e => by
      have := List.mem_of_getElem? e
      rw [List.mem_cons, List.mem_append, List.mem_map, List.mem_replicate] at this
      rcases this with rfl | ⟨d, _, rfl⟩ | ⟨_, rfl⟩ <;> rfl
    rw [nown e1] at o1
    cases o1
theorem ob_end {x : Addr} {fl : List (Str × Fd)} {fs : List (Str × D)} (hl : Fr.lt = []) (ob : OB K mg Fr C x F s σ H) (e : s[0]? = some (.ob C fl)) (ef : fdAll fl = some fs) : ∃ F', Same F F' ∧ StF K mg Fr F' [] [] H ∧ Rep K mg F' (.ins C fs) (.ref x) := by
  obtain ⟨Ca, dx, ws, lt, fl', h1, h2, h3, h4, h5, st⟩ := ob
  rw [e] at h2
  cases h2
  have fx : F x = none := st.dis x _ upd_same
  have sm : Same F (upd F x (.ins Ca dx ws)) := same_upd fx
  refine ⟨_, sm, ⟨fun b u q => ?_, fun b u q => ?_, fun b u q => ?_, rfl, fun i a e => by simp at e, fun i p hm => ?_, fun i j a b p e1 => by simp at e1⟩, ?_⟩
  · by_cases hb : b = x
    · rw [hb, upd_same] at q
      rw [hb]
      exact st.fr x u (by show upd Fr.hp x _ x = some u; rw [upd_same]; exact q)
    · rw [upd_ne hb] at q; exact st.sub b u q
  · have hb : b ≠ x := ne_of_none q h3
    exact st.fr b u (by show upd Fr.hp x _ b = some u; rw [upd_ne hb]; exact q)
  · have hb : b ≠ x := ne_of_none q h3
    rw [upd_ne hb]
    exact st.dis b u (by show upd Fr.hp x _ b = some u; rw [upd_ne hb]; exact q)
  · rw [hl] at hm; cases hm
  · unfold Rep
    exact ⟨x, Ca, dx, ws, rfl, upd_same, h1, RepF.mono sm _ _ (fdAll_rep h5 ef)⟩
theorem init_read {P : Program} {w : World} {N : List Str} {np : Nat} {m : BM} {vs : List V} {Q : VK} {E : XK} (hN : np + 1 ≤ N.length) (h : spI K mg C np (mkI C N.length np m) vs H Q E) : tBo K mg C m { nx := fun _ H' => Q .non H', rt := Q } (L2.start N vs) H := by
  obtain ⟨Fr, G, H0, ds, d, x, dx, Ca, vs', hC, rfl, hx, hdx, ne, rfl, hl, lv, ld, st, eg, q⟩ := h
  unfold mkI at eg
  rw [if_pos ld] at eg
  split at eg
  · rename_i s' em
    split at eg
    · rename_i B fl e0
      split at eg
      · rename_i hB
        subst hB
        obtain ⟨fs, ef, rfl⟩ := Option.map_eq_some_iff.mp eg
        have z := ob_start (n := N.length - (np + 1)) hC hx hdx ne hl (by rw [ld, lv]) st
        have es : L2.start N (V.ref x :: vs') = some (.ref x) :: (vs'.map some ++ List.replicate (N.length - (np + 1)) none) := by
          unfold L2.start
          rw [List.map_cons, List.length_cons, lv]
          rfl
        rw [es]
        exact ⟨Fr, x, G, _, s', z, em, fun σ' F H' k ob => by
          obtain ⟨F', k2, st', rep⟩ := ob_end hl ob e0 ef
          exact q F' H' (k.trans k2) st' rep⟩
      · cases eg
    · cases eg
  · cases eg
/-- THE RULE for an __init__ -/
theorem init_ok {P : Program} {w : World} {base : Heap} {x qual : Str} {st : Stmt} {f : Addr} {fd : FuncData} {N ps : List Str} {k np : Nat} {m : BM} (Fn : Fun K x qual st f fd) (S : FnScope N ps (defScope st)) (hnp : np + 1 = ps.length)
    (hbody : ∀ (cdv : Value) (A : Around) (outer : List Env) (s : Shared) (H : Hp) (E : XK), Room k (A.deeper (envOfC qual (defScope st) s.heap.objs.size f cdv)) → PBs (cxOf CX0 P w K mg base N qual (defScope st) f cdv A outer s H E).nox C (defBody st) m) :
    FnOk P w K mg base CX0 (k + 1) f fd ps (spI K mg C np (mkI C N.length np m)) := by
  refine Fn.ok S (fun vs H Q E h => ?_) fun cdv A outer s H vs Q E hr h => ⟨_, hbody cdv A outer s H E hr, init_read (P := P) (w := w) ?_ h⟩
  · obtain ⟨_, _, _, _, _, _, _, _, _, _, rfl, _, _, _, _, _, lv, _⟩ := h
    rw [List.length_cons, lv, hnp]
  · have := congrArg List.length S.pre
    rw [List.length_take] at this
    omega
theorem StF.uns {s : List SV} {σ : List (Option V)} (st : StF K mg Fr F [] [] H) (hl : Fr.lt = []) (u : ∀ (i : Nat) (a : SV), s[i]? = some a → a = .un) (l : s.length = σ.length) : StF K mg Fr F s σ H := by
  refine ⟨st.sub, st.fr, st.dis, l, fun i a e => ?_, fun i p hm => ?_, fun i j a b p e1 e2 o1 => ?_⟩
  · have := u i a e
    subst this
    have hi := lt_of_get e
    exact ⟨_, List.getElem?_eq_getElem (by rw [← l]; exact hi), trivial⟩
  · rw [hl] at hm; cases hm
  · rw [u i a e1] at o1; cases o1
theorem allE_svs : ∀ {rs : List Rc} {ds : List D}, allE rs = true → ds.length = rs.length → svs (rs.map Rc.lent) ds = ds.map SV.fz
  | [], [], _, _ => rfl
  | [], _ :: _, _, h => by simp at h
  | _ :: _, [], _, h => by simp at h
  | .v _ :: rs, d :: ds, h, _ => by cases h
  | .f _ _ _ _ :: rs, d :: ds, h, _ => by cases h
  | .e _ :: rs, d :: ds, h, l => by
    show SV.fz d :: svs (rs.map Rc.lent) ds = _
    rw [allE_svs (rs := rs) h (by simpa using l)]
    rfl
theorem allE_svo : ∀ {rs : List Rc} {ds : List D}, allE rs = true → ∀ (i : Nat) (a : SV), (svo (rs.map Rc.lent) ds)[i]? = some a → a = .un
  | [], ds, _, i, a, e => by unfold svo at e; simp at e
  | .v _ :: rs, ds, h, i, a, e => by cases h
  | .f _ _ _ _ :: rs, ds, h, i, a, e => by cases h
  | .e _ :: rs, [], h, i, a, e => by unfold svo at e; simp at e
  | .e _ :: rs, d :: ds, h, i, a, e => by
    have e : (SV.un :: svo (rs.map Rc.lent) ds)[i]? = some a := e
    cases i with
    | zero => simp at e; exact e.symm
    | succ i => exact allE_svo (rs := rs) (ds := ds) h i a (by simpa using e)
theorem allE_upds : ∀ {rs : List Rc} {ds : List D} {s : List SV}, allE rs = true → ds.length = rs.length → upds rs ds s = some s
  | [], [], s, _, _ => rfl
  | [], _ :: _, _, _, h => by simp at h
  | _ :: _, [], _, _, h => by simp at h
  | .v _ :: rs, d :: ds, _, h, _ => by cases h
  | .f _ _ _ _ :: rs, d :: ds, _, h, _ => by cases h
  | .e _ :: rs, d :: ds, s, h, l => allE_upds (rs := rs) (ds := ds) (s := s) h (by simpa using l)
theorem allE_lent : ∀ {rs : List Rc}, allE rs = true → lentIx rs = []
  | [], _ => rfl
  | .v _ :: rs, h => by cases h
  | .f _ _ _ _ :: rs, h => by cases h
  | .e _ :: rs, h => allE_lent (rs := rs) h
end
section
variable {X : Cx} {k np : Nat} {f Ca : Addr} {fd : FuncData} {ps : List Str} {g : List D → Option D} {rs : List Rc} {x : Str} {p pos : Pos} {e : Expr} {es : List Expr}
theorem px_make (M : Mk X.K Ca f) (F : FnOk X.prog X.w X.K X.mg X.base CX0 k f fd ps (spI X.K X.mg x np g)) (hr : Room (k + 1) X.A) (hg : Gl X x) (hm : X.mg x = some (.ref Ca)) (hb : Binds X.K fd ps []) (ha : PA X (e :: es) (tRcs X.K X.mg rs)) (hE : allE rs = true) (hn : rs.length = np) (hdb : (x == ("__debug__" : Str)) = false) (he : starEach (e :: es) X.env = (false, eval e X.env) :: starEach es X.env) (hpl : (backTo pos (starEach es X.env)).any (·.1) = false) :
    PX X (.Call (.Name x p) (e :: es) [] pos) (xMake g rs) := by
  refine pe_imp (pe_make (E := E0) (dvs := []) M F hr hg hm hb .nil pass0 ha hdb he hpl) fun σ H Q q => ?_
  obtain ⟨Fr, G, s, d, s', st, em, q⟩ := q
  unfold xMake at em
  split at em
  · rename_i ds s1 e1
    obtain ⟨d1, eg, e2⟩ := Option.map_eq_some_iff.mp em
    cases e2
    unfold evL at e1
    split at e1
    · rename_i as s2 e3
      split at e1
      · rename_i ds' e4
        cases e1
        refine preL_run st e3 fun vs F1 H1 k1 st1 pd => fun xa dx hx hdx ne => ?_
        obtain ⟨lv, ld⟩ := pd.len e4
        have eu := allE_upds (s := s') hE ld
        have nd : (lentIx rs).Nodup := by rw [allE_lent hE]; exact List.nodup_nil
        have ci := call_in nd st1 pd e4 eu
        rw [allE_svs hE ld] at ci
        refine ⟨frOf Fr s' σ rs H1, F1, H1, ds, d1, xa, dx, Ca, vs, hm, by rw [List.append_nil], hx, hdx, ne, rfl, rfl, by rw [lv, hn], by rw [ld, hn], ci, eg, fun F' H' k2 st' rep => ⟨rfl, ?_⟩⟩
        have lsv : (svo (rs.map Rc.lent) ds).length = (vs.map some).length := by rw [svo_len (by rw [ld, List.length_map]), List.length_map, List.length_map, lv]
        obtain ⟨z1, z2⟩ := call_out (outs := ds) (a := .fz d1) (v := .ref xa) nd st1 pd e4 eu k2 (st'.uns rfl (allE_svo hE) lsv) rep
        exact q (.ref xa) F' H' (k1.trans k2) z1 z2
      · cases e1
    · cases e1
  · cases em
end
end PV
/-! PvW: the rules in short, as the printed terms use them. -/
namespace PV
open PySem PySem.Spec PyProof.Rows L2
section
variable {X : Cx} {a b c e o : Expr} {ra rb rc r : Rc} {p pos : Pos} {m n : XM}
theorem wV (i : Nat) {x : Str} (hN : X.N[i]? = some x := by rfl) (hv : Vis X.env.scope x := by first | exact Or.inl rfl | exact Or.inr (Or.inl rfl) | exact Or.inr (Or.inr rfl)) (hd : (x == ("__debug__" : Str)) = false := by decide +kernel)
    (hcd : (x == ("__classdict__" : Str)) = false := by decide +kernel) : PX X (.Name x pos) (xV i) := px_V (pe_var hN hv hd hcd)
theorem wM (i : Nat) {x : Str} (hN : X.N[i]? = some x := by rfl) (hv : Vis X.env.scope x := by first | exact Or.inl rfl | exact Or.inr (Or.inl rfl) | exact Or.inr (Or.inr rfl)) (hd : (x == ("__debug__" : Str)) = false := by decide +kernel)
    (hcd : (x == ("__classdict__" : Str)) = false := by decide +kernel) : PX X (.Name x pos) (xMove i) := px_move (pe_var hN hv hd hcd)
theorem wR (i : Nat) {x : Str} (hN : X.N[i]? = some x := by rfl) (hv : Vis X.env.scope x := by first | exact Or.inl rfl | exact Or.inr (Or.inl rfl) | exact Or.inr (Or.inr rfl)) (hd : (x == ("__debug__" : Str)) = false := by decide +kernel)
    (hcd : (x == ("__classdict__" : Str)) = false := by decide +kernel) : PRc X (.Name x pos) (.v i) := pe_var hN hv hd hcd
theorem wE (h : PX X e m) : PRc X e (.e m) := pe_F h
theorem wAdd (ha : PRc X a ra) (hb : PRc X b rb) : PX X (.BinOp a .Add b pos) (x2 dAdd ra rb) := px_op orr_add opd_add ha hb
theorem wSub (ha : PRc X a ra) (hb : PRc X b rb) : PX X (.BinOp a .Sub b pos) (x2 dSub ra rb) := px_op op_sub opd_sub ha hb
theorem wMul (ha : PRc X a ra) (hb : PRc X b rb) : PX X (.BinOp a .Mult b pos) (x2 dMul ra rb) := px_op orr_mul opd_mul ha hb
theorem wMod (ha : PRc X a ra) (hb : PRc X b rb) : PX X (.BinOp a .Mod b pos) (x2 dMod ra rb) := px_op op_mod opd_mod ha hb
theorem wPow (ha : PRc X a ra) (hb : PRc X b rb) : PX X (.BinOp a .Pow b pos) (x2 dPow ra rb) := px_op op_pow opd_pow ha hb
theorem wGe (ha : PRc X a ra) (hb : PRc X b rb) : PX X (.Compare a [.GtE] [b] pos) (x2 dGe ra rb) := px_cmp op_ge opd_ge ha hb (nomark _)
theorem hu1 (hu : X.A.units + 64 < cLine) : X.A.units + 1 < cLine := Nat.lt_of_le_of_lt (Nat.add_le_add_left (by decide) _) hu
theorem wIn (hu : X.A.units + 64 < cLine) (ha : PRc X a ra) (hb : PRc X b rb) (hm : behindInMarks .In b = false := by with_unfolding_all rfl) : PX X (.Compare a [.In] [b] pos) (x2 dIn ra rb) := px_cmp (orr_in (hu1 hu)) opd_in ha hb hm
theorem tLt (ha : PRc X a ra) (hb : PRc X b rb) : PTt X (.Compare a [.Lt] [b] pos) (PV.tB (x2 dLt ra rb)) := PV.pt_cmp op_lt opd_lt ha hb (nomark _)
theorem tGt (ha : PRc X a ra) (hb : PRc X b rb) : PTt X (.Compare a [.Gt] [b] pos) (PV.tB (x2 dGt ra rb)) := PV.pt_cmp op_gt opd_gt ha hb (nomark _)
theorem tGe (ha : PRc X a ra) (hb : PRc X b rb) : PTt X (.Compare a [.GtE] [b] pos) (PV.tB (x2 dGe ra rb)) := PV.pt_cmp op_ge opd_ge ha hb (nomark _)
theorem tEq (hu : X.A.units + 64 < cLine) (ha : PRc X a ra) (hb : PRc X b rb) : PTt X (.Compare a [.Eq] [b] pos) (PV.tB (x2 dEq ra rb)) := PV.pt_cmp (orr_eq hu) opd_eq ha hb (nomark _)
theorem tNe (hu : X.A.units + 64 < cLine) (ha : PRc X a ra) (hb : PRc X b rb) : PTt X (.Compare a [.NotEq] [b] pos) (PV.tB (x2 dNe ra rb)) := PV.pt_cmp (orr_ne hu) opd_ne ha hb (nomark _)
theorem tIn (hu : X.A.units + 64 < cLine) (ha : PRc X a ra) (hb : PRc X b rb) (hm : behindInMarks .In b = false := by with_unfolding_all rfl) : PTt X (.Compare a [.In] [b] pos) (PV.tB (x2 dIn ra rb)) := PV.pt_cmp (orr_in (hu1 hu)) opd_in ha hb hm
theorem tNi (hu : X.A.units + 64 < cLine) (ha : PRc X a ra) (hb : PRc X b rb) (hm : behindInMarks .NotIn b = false := by with_unfolding_all rfl) : PTt X (.Compare a [.NotIn] [b] pos) (PV.tB (x2 dNotIn ra rb)) := PV.pt_cmp (orr_notin (hu1 hu)) opd_notin ha hb hm
theorem tCh (ha : PRc X a ra) (hb : PRc X b rb) (hc : PRc X c rc) (hm : lastMarks [.LtE, .LtE] [b, c] = false := by with_unfolding_all rfl) : PTt X (.Compare a [.LtE, .LtE] [b, c] pos) (PV.tB (xChain dLe dLe ra rb rc)) := ptt_chain op_le op_le opd_le opd_le ha hb hc hm
theorem wCh (ha : PRc X a ra) (hb : PRc X b rb) (hc : PRc X c rc) (hm : lastMarks [.LtE, .LtE] [b, c] = false := by with_unfolding_all rfl) : PX X (.Compare a [.LtE, .LtE] [b, c] pos) (xChain dLe dLe ra rb rc) := px_chain op_le op_le opd_le opd_le ha hb hc hm
theorem wIx (hu : X.A.units + 64 < cLine) (ha : PRc X a ra) (hb : PRc X b rb) (hs : PlainIx b := by intro _ _; rfl) : PX X (.Subscript a b pos) (x2 dIx ra rb) := px_ix (ixr_all (hu1 hu)) opd_ix ha hb hs
theorem opdivW : OpR X (binaryOp .FloorDiv) (rI CDivW fun i j => V.int (i / j)) := L2.op_fdivW
theorem wDiv (ha : PRc X a ra) (hb : PRc X b rb) : PX X (.BinOp a .FloorDiv b pos) (x2 dDiv ra rb) := px_op opdivW opd_div ha hb
/-! built-in functions of one operand -/
theorem wLen (hm : X.mg "len" = none) (ha : PRc X e r) (hg : Gl X "len" := by rfl) (he : starEach [e] X.env = [(false, eval e X.env)] := by rfl) : PX X (.Call (.Name "len" p) [e] [] pos) (x1 dLen r) := px_callB cr_len opc_len hg hm boot_len ha he (by decide +kernel) (by decide +kernel)
theorem wSum (hm : X.mg "sum" = none) (ha : PRc X e r) (hc : X.calm = true := by rfl) (hg : Gl X "sum" := by rfl) (he : starEach [e] X.env = [(false, eval e X.env)] := by rfl) : PX X (.Call (.Name "sum" p) [e] [] pos) (x1 dSum r) := px_callB (cr_sum hc) opc_sum hg hm (by decide +kernel) ha he (by decide +kernel) (by decide +kernel)
theorem wMax (hm : X.mg "max" = none) (ha : PRc X e r) (hc : X.calm = true := by rfl) (hg : Gl X "max" := by rfl) (he : starEach [e] X.env = [(false, eval e X.env)] := by rfl) : PX X (.Call (.Name "max" p) [e] [] pos) (x1 dMax r) := px_callB (cr_max hc) opc_max hg hm (by decide +kernel) ha he (by decide +kernel) (by decide +kernel)
theorem wMin (hm : X.mg "min" = none) (ha : PRc X e r) (hc : X.calm = true := by rfl) (hg : Gl X "min" := by rfl) (he : starEach [e] X.env = [(false, eval e X.env)] := by rfl) : PX X (.Call (.Name "min" p) [e] [] pos) (x1 dMin r) := px_callB (cr_min hc) opc_min hg hm (by decide +kernel) ha he (by decide +kernel) (by decide +kernel)
theorem wAll (hm : X.mg "all" = none) (ha : PRc X e r) (hc : X.calm = true := by rfl) (hg : Gl X "all" := by rfl) (he : starEach [e] X.env = [(false, eval e X.env)] := by rfl) : PX X (.Call (.Name "all" p) [e] [] pos) (x1 dAll r) := px_callB (cr_all hc) opc_all hg hm (by decide +kernel) ha he (by decide +kernel) (by decide +kernel)
theorem wAny (hm : X.mg "any" = none) (ha : PRc X e r) (hc : X.calm = true := by rfl) (hg : Gl X "any" := by rfl) (he : starEach [e] X.env = [(false, eval e X.env)] := by rfl) : PX X (.Call (.Name "any" p) [e] [] pos) (x1 dAny r) := px_callB (cr_any hc) opc_any hg hm (by decide +kernel) ha he (by decide +kernel) (by decide +kernel)
theorem wList (hm : X.mg "list" = none) (ha : PRc X e r) (hc : X.calm = true := by rfl) (hg : Gl X "list" := by rfl) (he : starEach [e] X.env = [(false, eval e X.env)] := by rfl) : PX X (.Call (.Name "list" p) [e] [] pos) (x1 dList r) := px_callTy (cr_list hc) opc_list hg hm (by decide +kernel) ha he (by decide +kernel) (by decide +kernel)
theorem wTuple (hm : X.mg "tuple" = none) (ha : PRc X e r) (hg : Gl X "tuple" := by rfl) (he : starEach [e] X.env = [(false, eval e X.env)] := by rfl) : PX X (.Call (.Name "tuple" p) [e] [] pos) (x1 dTuple r) := px_callTy (r := rTupleA X) call_tuple_of opc_tuple hg hm (by decide +kernel) ha he (by decide +kernel) (by decide +kernel)
theorem wDict (hm : X.mg "dict" = none) (ha : PRc X e r) (hc : X.calm = true := by rfl) (hg : Gl X "dict" := by rfl) (he : starEach [e] X.env = [(false, eval e X.env)] := by rfl) : PX X (.Call (.Name "dict" p) [e] [] pos) (x1 dDict r) := px_callTy (cr_dict hc) opc_dict hg hm (by decide +kernel) ha he (by decide +kernel) (by decide +kernel)
theorem wInt (hm : X.mg "int" = none) (ha : PRc X e r) (hg : Gl X "int" := by rfl) (he : starEach [e] X.env = [(false, eval e X.env)] := by rfl) : PX X (.Call (.Name "int" p) [e] [] pos) (x1 dInt r) := px_callTy (r := rIntA) call_int1 opc_int hg hm (by decide +kernel) ha he (by decide +kernel) (by decide +kernel)
theorem wTy {x : Str} {nm : String} (hm : X.mg x = none) (hv : bootBuiltins x = some (.type nm) := by decide +kernel) (hg : Gl X x := by rfl) (hn : x ≠ "__name__" := by decide +kernel) (hd : (x == ("__debug__" : Str)) = false := by decide +kernel) : PE X (.Name x pos) (tC (.ty nm)) := pe_bltn hg hm hv rfl hn hd
theorem wIsa {pc : Pos} {n : Str} {nm : String} (hm : X.mg "isinstance" = none) (he : PRc X e r) (hc : PE X (.Name n pc) (tC (.ty nm))) (hk : (tyNames.all fun t => kitB t nm == some (isaB nm t)) = true := by decide +kernel) (hg : Gl X "isinstance" := by rfl)
    (h1 : starEach [e, .Name n pc] X.env = (false, eval e X.env) :: starEach [.Name n pc] X.env := by rfl) (h2 : starEach [.Name n pc] X.env = [(false, eval (.Name n pc) X.env)] := by rfl) (h3 : (backTo pos (starEach [.Name n pc] X.env)).any (·.1) = false := by rfl) : PX X (.Call (.Name "isinstance" p) [e, .Name n pc] [] pos) (x1 (dIsa [nm]) r) :=
  px_isa (pc := pc) (cn := n) (n := n) hg hm boot_isinstance he hc hk h1 h2 h3
theorem wIsa2 {pc pd pt : Pos} {n1 n2 : Str} {nm nn : String} {k : Nat} (hm : X.mg "isinstance" = none) (he : PRc X e r) (hc : PE X (.Name n1 pc) (tC (.ty nm))) (hd : PE X (.Name n2 pd) (tC (.ty nn))) (hk : (tyNames.all fun t => kitB t nm == some (isaB nm t)) = true := by decide +kernel) (hk2 : (tyNames.all fun t => kitB t nn == some (isaB nn t)) = true := by decide +kernel) (hg : Gl X "isinstance" := by rfl)
    (h1 : starEach [.Name n1 pc, .Name n2 pd] X.env = (false, eval (.Name n1 pc) X.env) :: starEach [.Name n2 pd] X.env := by rfl) (h2 : starEach [.Name n2 pd] X.env = [(false, eval (.Name n2 pd) X.env)] := by rfl)
    (h3 : starEach [e, .Tuple [.Name n1 pc, .Name n2 pd] k pt] X.env = (false, eval e X.env) :: starEach [.Tuple [.Name n1 pc, .Name n2 pd] k pt] X.env := by rfl) (h4 : starEach [.Tuple [.Name n1 pc, .Name n2 pd] k pt] X.env = [(false, eval (.Tuple [.Name n1 pc, .Name n2 pd] k pt) X.env)] := by rfl)
    (h5 : (backTo pos (starEach [.Tuple [.Name n1 pc, .Name n2 pd] k pt] X.env)).any (·.1) = false := by rfl) : PX X (.Call (.Name "isinstance" p) [e, .Tuple [.Name n1 pc, .Name n2 pd] k pt] [] pos) (x1 (dIsa [nm, nn]) r) :=
  px_isa2 (pc := pc) (pd := pd) hg hm boot_isinstance he hc hd hk hk2 h1 h2 h3 h4 h5
theorem wFld {C f : Str} (hC : ClsOk X C f) (ho : PRc X o r) (hb : attributeBase o f X.env (eval o X.env) = eval o X.env := by rfl) : PX X (.Attribute o f pos) (x1 (dFldC C f) r) := px_fld hC ho hb
theorem pac {es : List Expr} {rs : List Rc} (h : PRc X e r) (t : PAr X es rs) (hs : starEach (e :: es) X.env = (false, eval e X.env) :: starEach es X.env := by rfl) : PAr X (e :: es) (r :: rs) := par_cons h t hs
theorem wLst {es : List Expr} {rs : List Rc} (h : PAr X es rs) (hE : allE rs = true := by rfl) (hl : rs.length ≤ SZ := by decide) : PX X (.List es pos) (xL dLst rs) := px_list h hE hl
theorem wTup {es : List Expr} {rs : List Rc} {k : Nat} (h : PAr X es rs) (hE : allE rs = true := by rfl) (hl : rs.length ≤ SZ := by decide) : PX X (.Tuple es k pos) (xL dTup rs) := px_tup h hE hl
theorem tT (h : PX X e m) (he : ∀ whole, isTrue e X.env whole = (do let v ← whole; standAt e.pos; holding [v] (truthy v)) := by intro _; rfl) : PTt X e (tTru m) := pt_T h he
theorem wVals {apos cpos : Pos} (hm : X.mg "list" = none) (he : PRc X e r) (hc : X.calm = true := by rfl) (hg : Gl X "list" := by rfl) (hb : attributeBase e "values" X.env (eval e X.env) = eval e X.env := by rfl) (hl : (apos.endLine == cpos.line) = true := by rfl)
    (hs : starEach [.Call (.Attribute e "values" apos) [] [] cpos] X.env = (false, eval (.Call (.Attribute e "values" apos) [] [] cpos) X.env) :: starEach [] X.env := by rfl) : PX X (.Call (.Name "list" p) [.Call (.Attribute e "values" apos) [] [] cpos] [] pos) (x1 dValsL r) := px_lvals hc he hg hm hb hl hs
/-! what is walked -/
theorem iIts {elts : List Expr} {kk : Nat} {tpos apos cpos : Pos} (h : PX X e m) (hb : attributeBase e "items" X.env (eval e X.env) = eval e X.env := by rfl) (hl : (apos.endLine == cpos.line) = true := by rfl) : PIr X (.Tuple elts kk tpos) (.Call (.Attribute e "items" apos) [] [] cpos) (sItems m) := pi_its h hb hl
theorem iEn {elts : List Expr} {kk : Nat} {tpos : Pos} (hm : X.mg "enumerate" = none) (h : PX X e m) (hg : Gl X "enumerate" := by rfl) (hs : starEach [e] X.env = [(false, eval e X.env)] := by rfl) : PIr X (.Tuple elts kk tpos) (.Call (.Name "enumerate" p) [e] [] pos) (sEnum m) := pi_en hg hm h hs
theorem iRng {tg : Expr} (hm : X.mg "range" = none) (h : PRc X e r) (hg : Gl X "range" := by rfl) (hs : starEach [e] X.env = [(false, eval e X.env)] := by rfl) : PIr X tg (.Call (.Name "range" p) [e] [] pos) (sRange1 r) := pi_rng1 hg hm h hs
/-! targets -/
theorem gN (i : Nat) {x : Str} (hN : X.N.Nodup) (hi : X.N[i]? = some x := by rfl) (hx : L2.Loc X.env.scope x := by first | exact Or.inl rfl | exact Or.inr rfl) (hf : X.fn x = true ∨ X.env.scope.names.lookup x = some .local := by first | exact .inl rfl | exact .inr rfl) : PGr X (.Name x pos) (.nm i) := pgr_nm hN hi hx hf
theorem gC {es : List Expr} {t : Tg} {ts : List Tg} (h1 : PGr X e t) (h2 : PGsr X es ts) (hs : (assignEach (e :: es) X.env).map (·.2) = assign e X.env :: (assignEach es X.env).map (·.2) := by rfl) : PGsr X (e :: es) (t :: ts) := pgsr_cons h1 h2 hs
theorem gT {es : List Expr} {k : Nat} {ts : List Tg} (h : PGsr X es ts) (hc : X.calm = true := by rfl) (hn : (assignEach es X.env).length = ts.length := by rfl) (hst : (assignEach es X.env).findIdx? (·.1) = none := by rfl) : PGr X (.Tuple es k pos) (.tp ts) := pgr_tp hc h hn hst
/-! methods of own lists -/
theorem wAppend {apos cpos : Pos} {r0 : Rc} (ho : PRc X o r0) (he : PX X e m) (hbase : attributeBase o "append" X.env (eval o X.env) = eval o X.env := by rfl) (hfew : ((backTo cpos (starEach [e] X.env)).all (fun x => !x.1) && (backToKw cpos (keywordEach [] X.env)).all (fun x => x.1.isSome) && decide (([e] : List Expr).length + ([] : List Keyword).length + (if ([] : List Keyword).isEmpty then 0 else 1) < 30)) = true := by rfl)
    (hline : (apos.endLine == cpos.line) = true := by rfl) (hs : starEach [e] X.env = (false, eval e X.env) :: starEach [] X.env := by rfl) (hplain : (backTo cpos (starEach [] X.env)).any (·.1) = false := by rfl) : PX X (.Call (.Attribute o "append" apos) [e] [] cpos) (chgR r0 cApp (.e m)) := px_append ho he hbase hfew hline hs hplain
theorem wPopAt {apos cpos : Pos} {r0 : Rc} (ho : PRc X o r0) (he : PRc X e r) (hbase : attributeBase o "pop" X.env (eval o X.env) = eval o X.env := by rfl) (hfew : ((backTo cpos (starEach [e] X.env)).all (fun x => !x.1) && (backToKw cpos (keywordEach [] X.env)).all (fun x => x.1.isSome) && decide (([e] : List Expr).length + ([] : List Keyword).length + (if ([] : List Keyword).isEmpty then 0 else 1) < 30)) = true := by rfl)
    (hline : (apos.endLine == cpos.line) = true := by rfl) (hs : starEach [e] X.env = (false, eval e X.env) :: starEach [] X.env := by rfl) (hplain : (backTo cpos (starEach [] X.env)).any (·.1) = false := by rfl) : PX X (.Call (.Attribute o "pop" apos) [e] [] cpos) (chgR r0 cPopAt r) := px_popAt ho he hbase hfew hline hs hplain
theorem wPop {apos cpos : Pos} {r0 : Rc} (ho : PRc X o r0) (hbase : attributeBase o "pop" X.env (eval o X.env) = eval o X.env := by rfl) (hline : (apos.endLine == cpos.line) = true := by rfl) : PX X (.Call (.Attribute o "pop" apos) [] [] cpos) (chg0 r0 cPop) := px_pop ho hbase hline
/-! statements -/
theorem sPut {k value : Expr} {mv : XM} {r0 rk : Rc} {pos' : Pos} (hu : X.A.units + 64 < cLine) (ho : PRc X o r0) (hv : PX X value mv) (hk : PRc X k rk)
    (ha : ∀ v, assign (.Subscript o k pos') X.env v = (do
      let ov ← holding [v] (eval o X.env)
      let iv ← holding [v, ov] (eval k X.env)
      standAt pos'
      holding [v, ov, iv] (setItem ov iv v)
      release [v, ov, iv] []) := by intro _; rfl) (hs : swapsWithSole [.Subscript o k pos'] value pos.line X.env = pure false := by rfl) (hw : swappedStores [.Subscript o k pos'] value X.env = pure none := by rfl) (h1 : (assignEach [.Subscript o k pos'] X.env).map (·.2) = [assign (.Subscript o k pos') X.env] := by rfl) :
    PSt X (.Assign [.Subscript o k pos'] value pos) (mPut r0 mv rk) := s_put (hu1 hu) ho hv hk ha hs hw h1
theorem sSet (i : Nat) {x : Str} {pos' : Pos} (hN : X.N.Nodup) (h : PX X e m) (hi : X.N[i]? = some x := by rfl) (hx : L2.Loc X.env.scope x := by first | exact Or.inl rfl | exact Or.inr rfl) (hs : swapsWith e (some (.Name x pos')) pos.line X.env = pure false := by rfl) (hf : X.fn x = true ∨ X.env.scope.names.lookup x = some .local := by first | exact .inl rfl | exact .inr rfl) :
    PSt X (.Assign [.Name x pos'] e pos) (mAsg i m) := s_set hN hi hx h hs hf
theorem sSetT {tg : Expr} {t : Tg} (h : PX X e m) (hg : PGr X tg t) (hs : swapsWithSole [tg] e pos.line X.env = pure false := by rfl) (hw : swappedStores [tg] e X.env = pure none := by rfl) (h1 : (assignEach [tg] X.env).map (·.2) = [assign tg X.env] := by rfl) : PSt X (.Assign [tg] e pos) (mAsgT t m) := s_asgT h hg hs hw h1
theorem sDrop (h : PX X e m) (hs : swapsWith e none pos.line X.env = pure false := by rfl) : PSt X (.Expr e pos) (mDrop m) := s_drop h hs
theorem sFor {tg iter : Expr} {body : List Stmt} {src : Src} {t : Tg} {a : MS} (hp : PassesOwn (model X.prog X.w) X.A X.env X.xe) (hi : PIr X tg iter src) (hg : PGr X tg t) (hb : PSts X body a) (hc : X.calm = true := by rfl) (hs : ∀ x, foldedSetIterable iter X.env x = pure x := by intro _; rfl) : PSt X (.For tg iter body [] pos) (mFor src t a) := s_for hp hc hi hg hb hs
theorem bFl {f : Str} {C : Str} {pos' : Pos} (ho : PE X o (tVar 0)) (h : PX X e m) (hC : ClsOk X C f) (hs : swapsWith e (some (.Attribute o f pos')) pos.line X.env = pure false := by rfl) : PB X C (.Assign [.Attribute o f pos'] e pos) (bFld C f m) := b_fld ho h hC hs
theorem bNe {f : Str} {C : Str} {j : Nat} {pos' : Pos} (ho : PE X o (tVar 0)) (h : PX X e m) (hC : ClsOk X C f) (hj : ∀ y, X.N[j]? = some y → ¬ Vis X.env.scope y) (hs : swapsWith e (some (.Attribute o f pos')) pos.line X.env = pure false := by rfl) : PB X C (.Assign [.Attribute o f pos'] e pos) (bNew C f j m) := b_new ho h hC hj hs
theorem wOwnF {i : Nat} {C f : Str} (hC : ClsOk X C f) (ho : PE X o (tVar i)) (hb : attributeBase o f X.env (eval o X.env) = eval o X.env := by rfl) : PX X (.Attribute o f pos) (xOwnF i C f) := px_ownF hC ho hb
theorem wFj {i j : Nat} {C f : Str} (hC : ClsOk X C f) (ho : PE X o (tVar i)) (hb : attributeBase o f X.env (eval o X.env) = eval o X.env := by rfl) : PRc X (.Attribute o f pos) (.f i C f j) := prc_f hC ho hb
theorem wLc {tg iter : Expr} {ifs : List Expr} {scope : Scope} (own : List (Str × Nat)) {src : Src} {g : Tg} {t : TM} (hN : X.N.Nodup) (hi : PIr X tg iter src) (ok : BlkOk X.N X.env.scope scope own)
    (hg : ∀ (s : Shared) (H : Hp) (C : Addr) (cl : List (Str × Addr)) (fp : List Addr), PGr (X.blk s H scope (compEnvC scope cl C X.env) fp) tg g) (ht : ∀ (s : Shared) (H : Hp) (C : Addr) (cl : List (Str × Addr)) (fp : List Addr), PTsr (X.blk s H scope (compEnvC scope cl C X.env) fp) ifs t)
    (he : ∀ (s : Shared) (H : Hp) (C : Addr) (cl : List (Str × Addr)) (fp : List Addr), PX (X.blk s H scope (compEnvC scope cl C X.env) fp) e m) (hc : X.calm = true := by rfl) (hv : ∀ i ∈ g.slots, i ∈ own.map (·.2) := by decide) (hs : ∀ x, foldedSetIterable iter X.env x = pure x := by intro _; rfl) :
    PX X (.ListComp e [⟨tg, iter, ifs, 0⟩] scope pos) (xLc (own.map (·.2)) src g t m) := px_lc hc hN hi ok hv hg ht he hs
theorem sLc (i : Nat) {y : Str} {py spos : Pos} {tg iter : Expr} {ifs : List Expr} {scope : Scope} (own : List (Str × Nat)) {src : Src} {g : Tg} {t : TM} (hN : X.N.Nodup) (hi : PIr X tg iter src) (ok : BlkOk X.N X.env.scope scope own)
    (hg : ∀ (s : Shared) (H : Hp) (C : Addr) (cl : List (Str × Addr)) (fp : List Addr), PGr (X.blk s H scope (compEnvC scope cl C X.env) fp) tg g) (ht : ∀ (s : Shared) (H : Hp) (C : Addr) (cl : List (Str × Addr)) (fp : List Addr), PTsr (X.blk s H scope (compEnvC scope cl C X.env) fp) ifs t)
    (he : ∀ (s : Shared) (H : Hp) (C : Addr) (cl : List (Str × Addr)) (fp : List Addr), PX (X.blk s H scope (compEnvC scope cl C X.env) fp) e m) (hc : X.calm = true := by rfl) (hy : X.N[i]? = some y := by rfl) (hyl : X.env.scope.names.lookup y = some .local := by rfl)
    (hsw : swapsWith (.ListComp e [⟨tg, iter, ifs, 0⟩] scope pos) (some (.Name y py)) spos.line X.env = pure true := by rfl) (hv : ∀ i ∈ g.slots, i ∈ own.map (·.2) := by decide) (hs : ∀ x, foldedSetIterable iter X.env x = pure x := by intro _; rfl) :
    PSt X (.Assign [.Name y py] (.ListComp e [⟨tg, iter, ifs, 0⟩] scope pos) spos) (mAsg i (xLc (own.map (·.2)) src g t m)) := s_setLc hc hN hy hyl hsw hi ok hv hg ht he hs
theorem wDc {kx tg iter : Expr} {ifs : List Expr} {scope : Scope} (own : List (Str × Nat)) {src : Src} {g : Tg} {t : TM} {k : XM} (hN : X.N.Nodup) (hi : PIr X tg iter src) (ok : BlkOk X.N X.env.scope scope own)
    (hg : ∀ (s : Shared) (H : Hp) (C : Addr) (cl : List (Str × Addr)) (fp : List Addr), PGr (X.blk s H scope (compEnvC scope cl C X.env) fp) tg g) (ht : ∀ (s : Shared) (H : Hp) (C : Addr) (cl : List (Str × Addr)) (fp : List Addr), PTsr (X.blk s H scope (compEnvC scope cl C X.env) fp) ifs t)
    (hk : ∀ (s : Shared) (H : Hp) (C : Addr) (cl : List (Str × Addr)) (fp : List Addr), PX (X.blk s H scope (compEnvC scope cl C X.env) fp) kx k) (he : ∀ (s : Shared) (H : Hp) (C : Addr) (cl : List (Str × Addr)) (fp : List Addr), PX (X.blk s H scope (compEnvC scope cl C X.env) fp) e m) (hc : X.calm = true := by rfl) (hv : ∀ i ∈ g.slots, i ∈ own.map (·.2) := by decide) (hs : ∀ x, foldedSetIterable iter X.env x = pure x := by intro _; rfl) :
    PX X (.DictComp kx e [⟨tg, iter, ifs, 0⟩] scope pos) (xDc (own.map (·.2)) src g t k m) := px_dc hc hN hi ok hv hg ht hk he hs
end
end PV
namespace PV
open PySem PySem.Spec PyProof.Rows L2
section
variable {X : Cx} {o e : Expr} {p pos apos : Pos} {es : List Expr} {rs : List Rc}
theorem room64 {k : Nat} {A : Around} (h : Room k A) : A.units + 64 < cLine := by have := h.un; omega
theorem clsOk {C f : Str} {a : Addr} (h : X.mg C = some (.ref a)) (c : Cls X.K a) (n : NoAttr X.K a f) : ClsOk X C f := fun Ca e => by
  rw [h] at e
  cases e
  exact ⟨c, n⟩
theorem wCall {k : Nat} {f : Addr} {fd : FuncData} {ps : List Str} {io : List Bool} {g : Fn} {x : Str} (F : FnOk X.prog X.w X.K X.mg X.base CX0 k f fd ps (spF X.K X.mg io g)) (hr : Room k X.A) (hm : X.mg x = some (.ref f)) (hk : PySem.W.keepIn X.K (.ref f) = true) (hb : Binds X.K fd ps [])
    (ha : PAr X (e :: es) rs) (hg : Gl X x := by rfl) (hio : io = rs.map Rc.lent := by rfl) (nd : (lentIx rs).Nodup := by decide) (hdb : (x == ("__debug__" : Str)) = false := by decide +kernel) (he : starEach (e :: es) X.env = (false, eval e X.env) :: starEach es X.env := by rfl) (hpl : (backTo pos (starEach es X.env)).any (·.1) = false := by rfl) :
    PX X (.Call (.Name x p) (e :: es) [] pos) (xCall g rs) := px_call F hr hg hm hk hb ha hio nd hdb he hpl
theorem wMeth {C m : Str} {Ca f : Addr} {fd : FuncData} {ps : List Str} {k : Nat} {io : List Bool} {g : Fn} {ro : XM} {pl : Sem Bool} (he : PX X o ro) (hC : X.mg C = some (.ref Ca)) (c : Cls X.K Ca) (hm : Meth X.K Ca m f) (F : FnOk X.prog X.w X.K X.mg X.base CX0 k f fd ps (spF X.K X.mg io g)) (hr : Room k X.A)
    (hb : Binds X.K fd ps []) (ha : PAr X (e :: es) rs) (hio : io = false :: rs.map Rc.lent := by rfl) (nd : (lentIx rs).Nodup := by decide) (hst : starEach (e :: es) X.env = (false, eval e X.env) :: starEach es X.env := by rfl) (hpl : (backTo pos (starEach es X.env)).any (·.1) = false := by rfl)
    (ht : eval (.Call (.Attribute o m apos) (e :: es) [] pos) X.env = (do
      let ov ← eval o X.env
      standAt apos.atName
      let (f, first) ← holding [ov] (getMethod ov m pl)
      callWith pos f first (backTo pos (starEach (e :: es) X.env)) (backToKw pos (keywordEach [] X.env))) := by rfl) : PX X (.Call (.Attribute o m apos) (e :: es) [] pos) (xMeth C m g ro rs) :=
  px_meth he hC c hm F hr hb ha hio nd hst hpl ht
theorem wMake {k np : Nat} {f Ca : Addr} {fd : FuncData} {ps : List Str} {g : List D → Option D} {x : Str} (M : Mk X.K Ca f) (F : FnOk X.prog X.w X.K X.mg X.base CX0 k f fd ps (spI X.K X.mg x np g)) (hr : Room (k + 1) X.A) (hm : X.mg x = some (.ref Ca)) (hb : Binds X.K fd ps []) (ha : PAr X (e :: es) rs) (hg : Gl X x := by rfl) (hE : allE rs = true := by rfl) (hn : rs.length = np := by rfl) (hdb : (x == ("__debug__" : Str)) = false := by decide +kernel) (he : starEach (e :: es) X.env = (false, eval e X.env) :: starEach es X.env := by rfl) (hpl : (backTo pos (starEach es X.env)).any (·.1) = false := by rfl) :
    PX X (.Call (.Name x p) (e :: es) [] pos) (xMake g rs) := px_make M F hr hg hm hb ha hE hn hdb he hpl
theorem wTry {body : List Stmt} {h0 : ExceptHandler} {hs : List ExceptHandler} {m : MS} (hb : PSts X.nox body m) : PSt X (.Try body (h0 :: hs) [] [] pos) m := s_try hb
end
end PV
/-! PvU: tuple(d.items()). -/
namespace PV
open PySem PySem.Spec PyProof.Rows L2
section
variable {prog : Program} {w : World} {A : Around} {E : Value → Shared → Prop} {s : Shared}
theorem code_tupItems {κ : Type} [DecidableEq κ] {knd : KeyKind prog w κ} {kvs : List (κ × Value)} {ep r d : Addr} {Z : Value → Shared → Prop} (hh : A.handled = none) (hv : s.heap.IsItemsView r d) (hm : s.heap.DictAt knd d kvs ep) (hn : kvs.length ≤ sizeLine)
    (hZ : ∀ h2 tk as, (∀ b o, s.heap.get? b = some o → h2.get? b = some o) → as.length = kvs.length → PySem.W.KdxG knd kvs s.heap.objs.size h2 as → Z (.ref h2.objs.size) { s with heap := h2.push { cls := .type "tuple", data := .seq (as.map Value.ref).toArray }, toks := tk }) :
    codeAny (model prog w) A (.call (.builtin "tuple.__new__") ⟨[.type "tuple", .ref r], []⟩) (wants Z E) s := by
  refine codeAny_of_tree ?_
  show wpAny _ A.in1 (checkBuiltinCall "tuple.__new__" ⟨[.type "tuple", .ref r], []⟩ >>= fun _ => again (.builtin "tuple.__new__" ⟨[.type "tuple", .ref r], []⟩)) _ _ s
  refine wpAny_bind (wpAny_of_eq (PySem.F.newCall_tuple_1 _) (wpAny_pure ⟨plainId_quiet PySem.F.plain_tuple_new _, codeAny_builtin PySem.F.entry_tuple_new ?_⟩))
  rw [Around.under_plainId PySem.F.plain_tuple_new _]
  have a1 := sub_tuple_self
  have a2 := init_tuple_lookup
  have a3 := madeHere_tuple
  have hTv : s.TypeIs (.ref r) "dict_items" := let ⟨o, ho, hc, _⟩ := hv; ⟨o, ho, hc⟩
  wp_walk using wpAny_typeOf hTv, PySem.W.kdx_collect (A := A.in1) hh hv hm hn
  intro h2 tk as k1 k2 k3
  show wpAny _ _ (Builtin.Tuple.tupleExact (as.map Value.ref).toArray >>= fun v => ret v) _ _ _
  unfold Builtin.Tuple.tupleExact
  refine wpAny_bind (wpAny_newObj_type (wpAny_pure (hZ h2 tk as k1 k2 k3)) ?_)
  show (as.map Value.ref).toArray.size ≤ sizeLine
  rw [List.size_toArray, List.length_map, k2]
  exact hn
theorem call_tupItems {κ : Type} [DecidableEq κ] {knd : KeyKind prog w κ} {kvs : List (κ × Value)} {ep r d : Addr} {Z : Value → Shared → Prop} (hh : A.handled = none) (hv : s.heap.IsItemsView r d) (hm : s.heap.DictAt knd d kvs ep) (hn : kvs.length ≤ sizeLine)
    (hZ : ∀ h2 tk as, (∀ b o, s.heap.get? b = some o → h2.get? b = some o) → as.length = kvs.length → PySem.W.KdxG knd kvs s.heap.objs.size h2 as → Z (.ref h2.objs.size) { s with heap := h2.push { cls := .type "tuple", data := .seq (as.map Value.ref).toArray }, toks := tk }) :
    wpAny (model prog w) A (call (.type "tuple") [.ref r]) Z E s := by
  refine callType_codes (Q₁ := fun obj t => t.TypeIs obj "tuple" ∧ Z obj t) PySem.F.called_tuple (PySem.F.typeCall_tuple_1 _) PySem.F.entry_object_init (code_tupItems hh hv hm hn fun h2 tk as k1 k2 k3 => ⟨⟨_, Heap.get?_push_size _ rfl, rfl⟩, hZ h2 tk as k1 k2 k3⟩) fun obj t ht => ?_
  exact ⟨ht.1, PySem.F.args_object_init_2 obj _, object_init_meets PySem.F.called_tuple.init.lookup PySem.F.called_tuple.made (by decide) prog w A.in1 _ t ⟨ht.1, rfl, ht.2⟩⟩
end
section
variable {X : Cx} {pins : List (Addr × Obj)} {σ : L2.St} {H : Hp} {s : Shared}
theorem lay_tups {h2 : Heap} {tk : Nat} {kvs : List (Key × V)} {vs : List (Key × Value)} {as : List Addr} (I : Inv X pins σ H s) (kv : KV kvs vs) (keep : ∀ b o, s.heap.get? b = some o → h2.get? b = some o) (hl : as.length = vs.length) (G : PySem.W.KdxG (mixKind X.prog X.w) vs s.heap.objs.size h2 as) :
    ∃ H' : Hp, Same H H' ∧ (∀ t ∈ as, H t = none) ∧ Paired (fun (t : Addr) (q : Key × V) => H' t = some (.tup [kV q.1, q.2])) as kvs ∧ Inv X pins σ H' { s with heap := h2, toks := tk } := by
  have lk : kvs.length = vs.length := Paired.length kv
  have dist : as.Nodup := G.rise.imp fun {a b} (z : a < b) => Nat.ne_of_lt z
  have fresh : ∀ t ∈ as, H t = none := fun t ht => I.hok.fresh (Nat.le_of_lt (G.above t ht))
  have pr := LiI.putT_at as kvs H (by omega) dist
  have off : ∀ b, b ∉ as → LiI.putT H as kvs b = H b := fun b z => LiI.putT_off as kvs H z
  have old : ∀ b o, s.heap.get? b = some o → b ∉ as := fun b o e z => absurd (Heap.lt_size e) (Nat.not_lt.mpr (Nat.le_of_lt (G.above b z)))
  have sm : Same H (LiI.putT H as kvs) := fun b u e => by
    rw [off b fun z => by rw [fresh b z] at e; cases e]
    exact e
  refine ⟨LiI.putT H as kvs, sm, fresh, pr, ?_⟩
  refine I.call' (ch := []) rfl ⟨fun b o q _ _ _ => keep b o q, fun b o q _ _ _ => ⟨o.slots, keep b o q⟩, fun b o q n _ => by rw [off b (old b o q)]; exact n, fun b o q _ => ⟨o, keep b o q⟩, fun b xs q => sm b _ q, fun b o u q => sm b _ q, fun b ps q => ⟨#[], by rw [sm b _ q]; simp⟩⟩ (fun b u q => ?_) I.bare fun b z => by simp at z
  by_cases hb : b ∈ as
  · obtain ⟨j, pk, e1, e2, e3⟩ := LiI.paired_ix pr hb
    rw [e3] at q
    cases q
    obtain ⟨key, k, x, f1, f2, f3⟩ := G.pairs j b e1
    obtain ⟨qv, g1, g2, g3⟩ := LiI.paired_get kv e2
    rw [f1] at g1
    cases g1
    have rk : RelV (kV pk.1) key := by
      rw [g2]
      exact relV_key (show keyIs k key = true from f2)
    exact ⟨by show 2 ≤ sizeLine; decide, [key, x], .cons rk (.cons g3 .nil), ⟨_, f3, rfl, _, rfl⟩⟩
  · rw [off b hb] at q
    exact (I.hok b u q).stay (fun d v _ y => keep d v y) (fun d y => sm d _ y) fun d xs y => sm d _ y
end
def dItemsT : D → Option AV
  | .dK kvs => some (.fz (.tup (kvs.map fun p => .tup [kD p.1, p.2])))
  | _ => none
section
variable {X : Cx} {e o : Expr} {r : Rc} {p apos cpos pos : Pos}
def rTitems : V → Hp → VK → Prop := fun x H Q => ∃ (d : Addr) (kvs : List (Key × V)), x = .ref d ∧ Rd H d (.dK kvs) ∧
  ∀ (H' : Hp) (q : Addr) (ts : List Addr), Same H H' → H' q = none → (∀ t ∈ ts, H t = none) → Paired (fun (t : Addr) (z : Key × V) => H' t = some (.tup [kV z.1, z.2])) ts kvs → Q (.ref q) (upd H' q (.tup (ts.map V.ref)))
theorem pe_titems {te : TE} (hc : X.calm = true) (he : PE X e te) (hg : Gl X "tuple") (hm : X.mg "tuple" = none) (hb : attributeBase e "items" X.env (eval e X.env) = eval e X.env) (hl : (apos.endLine == cpos.line) = true)
    (hs : starEach [.Call (.Attribute e "items" apos) [] [] cpos] X.env = (false, eval (.Call (.Attribute e "items" apos) [] [] cpos) X.env) :: starEach [] X.env) :
    PE X (.Call (.Name "tuple" p) [.Call (.Attribute e "items" apos) [] [] cpos] [] pos) (fun σ H Q => te σ H fun x H1 => rTitems x H1 Q) := ⟨fun pins s σ H Q I w0 => by
  refine wpAny_Call_Name_kw (ld_blt I hg hm (u := .type "tuple") (by rfl) (PyProof.Rows.callWith_type1 ?_ hs rfl))
  rw [hs]
  show wpAny _ _ (spliced (_ :: backTo pos (starEach [] X.env))) _ _ s
  refine Calls.spliced_cons (wpAny_Call_method (T := "dict") (id := "dict.items") hb rfl hl PySem.F.plainAttrs_dict PySem.F.slot_dict_items PySem.F.type_dict_items (thn (he.run pins s σ H _ I w0) fun u s1 ⟨x, H1, I1, rx, d, kvs, ex, hd, q⟩ => ?_))
  subst ex
  cases (show u = Value.ref d from rx)
  obtain ⟨hz, lo, vs, kv, hdo⟩ := dk_rd I1.hok hd
  obtain ⟨ep, hat⟩ := hdo.dictAt
  have ln : kvs.length = vs.length := Paired.length kv
  have I2 : Inv X pins σ H1 { s1 with heap := s1.heap.push { cls := .type "dict_items", data := .fields #[.ref d] } } := I1.kept (t' := s1.toks) fun c oc z => Heap.get?_push_of_some _ z
  refine ⟨hdo.typeIs, hdo.mapOf.noDict, ?_⟩
  show wpAny _ _ (callWith cpos (.builtin "dict.items") [.ref d] [] []) _ X.xe s1
  refine method_meetsIn PySem.F.slot_dict_items PySem.F.entry_dict_items rfl (PySem.evalArgs_none ⟨rfl, hdo.typeIs, PySem.F.args_dict_items_1 _, _, meets_dict_items (mixKind X.prog X.w) d lo, ⟨vs, hdo⟩, Calls.spliced_nil ?_⟩)
  refine call_tupItems (knd := mixKind X.prog X.w) (kvs := vs) (ep := ep) (I1.ok.hd hc) ⟨_, Heap.get?_push_size _ rfl, rfl, rfl⟩ (hat.push _) (by omega) fun h2 tk as a1 a2 a3 => ?_
  obtain ⟨H', k1, k2, k3, J⟩ := lay_tups (tk := tk) I2 kv a1 a2 a3
  have hn : H' h2.objs.size = none := J.hok.fresh (Nat.le_refl _)
  refine ⟨.ref _, upd H' h2.objs.size (.tup (as.map V.ref)), J.laid (t' := tk) (o := .tup (as.map V.ref)) (fun b o z => Heap.get?_push_of_some _ z) (Nat.le_refl _) ?_, rfl, q H' _ as k1 hn k2 k3⟩
  exact ⟨by rw [List.length_map, a2, ← ln]; exact hz, as.map Value.ref, LiI.vals_refs as, ⟨_, Heap.get?_push_size _ rfl, rfl, _, rfl⟩⟩⟩
theorem wTItems (hm : X.mg "tuple" = none) (he : PRc X e r) (hc : X.calm = true := by rfl) (hg : Gl X "tuple" := by rfl) (hb : attributeBase e "items" X.env (eval e X.env) = eval e X.env := by rfl) (hl : (apos.endLine == cpos.line) = true := by rfl)
    (hs : starEach [.Call (.Attribute e "items" apos) [] [] cpos] X.env = (false, eval (.Call (.Attribute e "items" apos) [] [] cpos) X.env) :: starEach [] X.env := by rfl) :
    PX X (.Call (.Name "tuple" p) [.Call (.Attribute e "items" apos) [] [] cpos] [] pos) (x1 dItemsT r) := by
  refine pe_imp (pe_titems hc he hg hm hb hl hs) fun σ H Q h => ?_
  obtain ⟨Fr, G, s, a, s', st, em, q⟩ := h
  unfold x1 at em
  split at em
  · rename_i d s1 e1
    obtain ⟨z, e2, e3⟩ := Option.map_eq_some_iff.mp em
    cases e3
    refine ev1_run st e1 fun v F H1 k st1 vx => ?_
    unfold dItemsT at e2
    split at e2
    · cases e2
      obtain ⟨l, ws, rfl, hl, rr⟩ := vw_dK st1.sub vx
      refine ⟨l, ws, rfl, hl, fun H' b ts sm hb new pr => ?_⟩
      obtain ⟨g1, g2⟩ := st1.grow sm new
      have rp := reps_pairsL (RepK.mono g2 _ _ rr) (paired_mem pr fun t ht y hy => by rw [growF_in ht]; exact hy)
      have fb : growF F H' ts b = none := g1.sub.free hb
      exact q (.ref b) _ _ ((k.trans g2).trans (same_upd fb)) (g1.laid hb) (av_fz (rep_tup upd_same (rp.mono (same_upd fb))))
    · cases e2
  · cases em
theorem ghostOk {j : Nat} {g : Str} {sc : Scope} (hN : X.N[j]? = some g) (hs : X.env.scope = sc) (h : (sc.names.lookup g).isNone = true) : ∀ y, X.N[j]? = some y → ¬ Vis X.env.scope y := fun y hy hv => by
  rw [hN] at hy
  cases hy
  rw [hs] at hv
  unfold Vis at hv
  cases e : sc.names.lookup g with
  | none => rw [e] at hv; rcases hv with z | z | z <;> cases z
  | some k => rw [e] at h; cases h
end
end PV
/-! PvX: slots that are forgotten, own things that are frozen behind a statement, values frozen. -/
namespace PV
open PySem PySem.Spec PyProof.Rows L2
def killL : List Nat → S → Option S
  | [], s => some s
  | i :: is, s => match s[i]? with
    | some a => if a.pin = true then none else killL is (s.set i .un)
    | none => none
def mKill (is : List Nat) : MS := fun s => match killL is s with
  | some s' => some (.nx, s')
  | none => none
def xFr (m : XM) : XM := fun s => match m s with
  | some (a, s') => some (.fz a.d, s')
  | none => none
section
variable {K : PySem.W.Frag} {mg : Str → Option Value} {Fr : Fx} {F H : Hp} {s s' : List SV} {σ : List (Option V)}
theorem StF.kill : ∀ (is : List Nat) {s s' : List SV}, StF K mg Fr F s σ H → killL is s = some s' → StF K mg Fr F s' σ H
  | [], s, s', h, e => by unfold killL at e; cases e; exact h
  | i :: is, s, s', h, e => by
    unfold killL at e
    split at e
    · rename_i a ea
      split at e
      · cases e
      · rename_i hp
        obtain ⟨w, hw, _⟩ := h.slot i a ea
        have h1 : StF K mg Fr F (s.set i .un) σ H := h.re_slot hw trivial (fun z => nomatch z) fun p m => (h.not_lent ea (by simpa using hp) p m).elim
        exact StF.kill is h1 e
    · cases e
end
section
variable {X : Cx} {st : Stmt} {body : List Stmt} {e : Expr} {a : MS} {m : XM} {is : List Nat}
theorem ss_kill (h : PSts X body a) : PSts X body (mSeq a (mKill is)) := pss_imp h fun D σ H q => by
  obtain ⟨Fr, G, s, o, s', h, em, q⟩ := q
  unfold mSeq at em
  split at em
  · rename_i s1 e1
    unfold mKill at em
    split at em
    · rename_i s2 e2
      cases em
      exact ⟨Fr, G, s, .nx, s1, h, e1, fun σ' F H' k st' => q σ' F H' k (st'.kill is e2)⟩
    · cases em
  · rename_i hn
    refine ⟨Fr, G, s, o, s', h, em, fun σ' F H' k st' => (q σ' F H' k st').same (fun ho _ => ?_) rfl rfl rfl⟩
    subst ho
    exact absurd em (hn s')
theorem px_fr (h : PX X e m) : PX X e (xFr m) := pe_imp (pe_F h) fun σ H Q q => by
  obtain ⟨Fr, G, s, d, s', st, em, q⟩ := q
  unfold xFr at em
  split at em
  · rename_i a s1 e1
    cases em
    exact ⟨Fr, G, s, a.d, s', st, by unfold xF; rw [e1], fun v F H' k st' r => q v F H' k st' r⟩
  · cases em
end
end PV
/-! PvY: what a mirror does, by plain functions of data (F), and the steps that show it. -/
namespace PV
open PySem
/-! ### operations by their data alone -/
def oA (o : Option AV) : Option D := o.map AV.d
def oW : Option AV → Option D
  | some (.ow d) => some d
  | _ => none
def oB : Option AV → Option Bool
  | some (.fz (.bl b)) => some b
  | _ => none
def oI : D → Option Int
  | .int i => some i
  | _ => none
def oC2 (o : Option (D × AV)) : Option (D × D) := o.map fun p => (p.1, p.2.d)
def t1 : D → Option D
  | .tup [a] => some a
  | _ => none
def t2 : D → Option (D × D)
  | .tup [a, b] => some (a, b)
  | _ => none
def t3 : D → Option (D × D × D)
  | .tup [a, b, c] => some (a, b, c)
  | _ => none
def t4 : D → Option (D × D × D × D)
  | .tup [a, b, c, d] => some (a, b, c, d)
  | _ => none
def l2 : D → Option (D × D)
  | .lst [a, b] => some (a, b)
  | _ => none
def l3 : D → Option (D × D × D)
  | .lst [a, b, c] => some (a, b, c)
  | _ => none
def l4 : D → Option (D × D × D × D)
  | .lst [a, b, c, d] => some (a, b, c, d)
  | _ => none
theorem t2_eq {d : D} {a : D × D} (h : t2 d = some a) : d = .tup [a.1, a.2] := by
  unfold t2 at h; split at h <;> cases h; rfl
theorem asgE {t : Tg} {d d' : D} {s s' : S} (e : d = d') (h : asgT t d' s = some s') : asgT t d s = some s' := (congrArg (fun z => asgT t z s) e).trans h
theorem bnd {α β : Type} {o : Option α} {f : α → Option β} {r : β} (h : o.bind f = some r) : ∃ v, o = some v ∧ f v = some r := by
  cases o with
  | none => cases h
  | some v => exact ⟨v, rfl, h⟩
/-- a method's object -/
def oM (C m : Str) : D → Option Unit
  | .ins B fs => if B = C ∧ (gv fs m).isNone = true then some () else none
  | _ => none
def oL : D → Option (List D)
  | .lst xs => some xs
  | _ => none
theorem oL_eq {d : D} {xs : List D} (h : oL d = some xs) : some d = some (D.lst xs) := by
  unfold oL at h; split at h <;> cases h; rfl
def oDict (d : D) : Option Unit := if isDict d = true then some () else none
/-! ### what is walked -/
def oEnum (d : D) : Option (List D) := (lstOnly d).map (enumOf 0)
def oItems : D → Option (List D)
  | .dK kvs => some (kvs.map fun p => .tup [kD p.1, p.2])
  | _ => none
def oRng1 : D → Option (List D)
  | .int b => if -(2 ^ 62) ≤ b ∧ b < 2 ^ 62 then some (rngOf 0 b) else none
  | _ => none
/-! ### loops and comprehensions by data -/
inductive Ex (ρ σ : Type) where
  | nx (a : σ) | bk (a : σ) | rt (r : ρ)
def forF {σ : Type} (body : D → σ → Option σ) : List D → σ → Option σ
  | [], a => some a
  | d :: ds, a => (body d a).bind (forF body ds)
def forX {ρ σ : Type} (body : D → σ → Option (Ex ρ σ)) : List D → σ → Option (Ex ρ σ)
  | [], a => some (.nx a)
  | d :: ds, a => (body d a).bind fun x => match x with
    | .nx b => forX body ds b
    | .bk b => some (.nx b)
    | .rt r => some (.rt r)
def lcL_ (G : D → Option (Option D)) : List D → Option (List D)
  | [] => some []
  | d :: ds => (G d).bind fun o => (lcL_ G ds).bind fun r => some (match o with
    | some v => v :: r
    | none => r)
def lcP (G : D → Option (Option D)) (ds : List D) : Option D := if ds.length < SZ then (lcL_ G ds).map D.lst else none
def dcL_ (G : D → Option (Option (Key × D))) : List D → List (Key × D) → Option (List (Key × D))
  | [], acc => some acc
  | d :: ds, acc => (G d).bind fun o => dcL_ G ds (match o with
    | some p => gp acc p.1 p.2
    | none => acc)
def dcP (G : D → Option (Option (Key × D))) (ds : List D) : Option D := if ds.length < SZ then (dcL_ G ds []).map D.dK else none
/-! ### steps -/
section
variable {m n : XM} {s s0 s1 s2 s3 : S} {d a b c e x y z : D} {f : D → Option AV} {g : D → D → Option AV} {r q u : Rc} {o p w : Option D}
def XA (m : XM) (s : S) (d : D) (s' : S) : Prop := ∃ a, m s = some (a, s') ∧ a.d = d
theorem fA (h : m s = some (.fz d, s1)) : XA m s d s1 := ⟨_, h, rfl⟩
theorem wA (h : m s = some (.ow d, s1)) : XA m s d s1 := ⟨_, h, rfl⟩
theorem fC {d : D} {s : S} : xC d s = some (.fz d, s) := rfl
theorem fFr (h : XA m s d s1) : xFr m s = some (.fz d, s1) := by
  obtain ⟨a, e, rfl⟩ := h
  unfold xFr; rw [e]
theorem preE (h : XA m s d s1) : (Rc.e m).pre s = some (some d, s1) := by
  obtain ⟨a, e, rfl⟩ := h
  show (match m s with
    | some (a, s') => some (some a.d, s')
    | none => none) = _
  rw [e]
theorem ev1L (h : r.pre s = some (o, s1)) (h2 : r.fin o s1 = some d) : ev1 r s = some (d, s1) := by
  unfold ev1; rw [h]; simp only [h2]
theorem ev2L (h : r.pre s = some (o, s1)) (k : q.pre s1 = some (p, s2)) (h2 : r.fin o s2 = some a) (k2 : q.fin p s2 = some b) : ev2 r q s = some ((a, b), s2) := by
  unfold ev2; rw [h]; simp only [k, h2, k2]
theorem x1A (h : r.pre s = some (o, s1)) (h2 : r.fin o s1 = some a) (e : oA (f a) = some d) : XA (x1 f r) s d s1 := by
  obtain ⟨v, ev, rfl⟩ := Option.map_eq_some_iff.mp e
  refine ⟨v, ?_, rfl⟩
  unfold x1; rw [ev1L h h2]; simp only [ev, Option.map_some]
theorem oW_eq {o : Option AV} (e : oW o = some d) : o = some (.ow d) := by
  unfold oW at e; split at e <;> cases e; rfl
theorem oB_eq {o : Option AV} {c : Bool} (e : oB o = some c) : o = some (.fz (.bl c)) := by
  unfold oB at e; split at e <;> cases e; rfl
theorem oI_eq {i : Int} (e : oI d = some i) : d = .int i := by
  unfold oI at e; split at e <;> cases e; rfl
theorem x1W (h : r.pre s = some (o, s1)) (h2 : r.fin o s1 = some a) (e : oW (f a) = some d) : x1 f r s = some (.ow d, s1) := by
  unfold x1; rw [ev1L h h2]; simp only [oW_eq e, Option.map_some]
theorem x1B {k : Bool} (h : r.pre s = some (o, s1)) (h2 : r.fin o s1 = some a) (e : oB (f a) = some k) : x1 f r s = some (.fz (.bl k), s1) := by
  unfold x1; rw [ev1L h h2]; simp only [oB_eq e, Option.map_some]
theorem x2A (h : r.pre s = some (o, s1)) (k : q.pre s1 = some (p, s2)) (h2 : r.fin o s2 = some a) (k2 : q.fin p s2 = some b) (e : oA (g a b) = some d) : XA (x2 g r q) s d s2 := by
  obtain ⟨v, ev, rfl⟩ := Option.map_eq_some_iff.mp e
  refine ⟨v, ?_, rfl⟩
  unfold x2; rw [ev2L h k h2 k2]; simp only [ev, Option.map_some]
theorem x2B {t : Bool} (h : r.pre s = some (o, s1)) (k : q.pre s1 = some (p, s2)) (h2 : r.fin o s2 = some a) (k2 : q.fin p s2 = some b) (e : oB (g a b) = some t) : x2 g r q s = some (.fz (.bl t), s2) := by
  unfold x2; rw [ev2L h k h2 k2]; simp only [oB_eq e, Option.map_some]
theorem pLn : preL [] s = some ([], s) := rfl
theorem pLc {rs : List Rc} {os : List (Option D)} (h : r.pre s = some (o, s1)) (k : preL rs s1 = some (os, s2)) : preL (r :: rs) s = some (o :: os, s2) := by
  unfold preL; rw [h]; simp only [k]
theorem evLL {rs : List Rc} {os : List (Option D)} {ds : List D} (h : preL rs s = some (os, s1)) (k : finL rs os s1 = some ds) : evL rs s = some (ds, s1) := by
  unfold evL; rw [h]; simp only [k]
theorem xLA {F : List D → Option AV} {rs : List Rc} {ds : List D} (h : evL rs s = some (ds, s1)) (e : oA (F ds) = some d) : XA (xL F rs) s d s1 := by
  obtain ⟨v, ev, rfl⟩ := Option.map_eq_some_iff.mp e
  refine ⟨v, ?_, rfl⟩
  unfold xL; rw [h]; simp only [ev, Option.map_some]
theorem xLW {F : List D → Option AV} {rs : List Rc} {ds : List D} (h : evL rs s = some (ds, s1)) (e : oW (F ds) = some d) : xL F rs s = some (.ow d, s1) := by
  unfold xL; rw [h]; simp only [oW_eq e, Option.map_some]
theorem xCallL {F : Fn} {rs : List Rc} {ds outs : List D} {v : AV} (h : evL rs s = some (ds, s1)) (k : F ds = some (v, outs)) (l : upds rs outs s1 = some s2) : xCall F rs s = some (v, s2) := by
  unfold xCall; rw [h]; simp only [k, l]
theorem xMakeL {F : List D → Option D} {rs : List Rc} {ds : List D} (h : evL rs s = some (ds, s1)) (k : F ds = some d) : xMake F rs s = some (.fz d, s1) := by
  unfold xMake; rw [h]; simp only [k, Option.map_some]
theorem xMethL {C mm : Str} {F : Fn} {rs : List Rc} {v : AV} {k : Unit} (h : XA m s d s1) (hm : oM C mm d = some k) (hc : xCall F (.e (xC d) :: rs) s1 = some (v, s2)) : xMeth C mm F m rs s = some (v, s2) := by
  obtain ⟨a, e, rfl⟩ := h
  unfold xMeth
  rw [e]
  unfold oM at hm
  cases hd : a.d with
  | ins B fs =>
    simp only [hd] at hm ⊢ hc
    split at hm
    · rename_i hh
      rw [if_pos hh]
      exact hc
    · cases hm
  | _ => rw [hd] at hm; cases hm
/-! tests -/
theorem tBL {t : Bool} (h : m s = some (.fz (.bl t), s1)) : PV.tB m s = some (t, s1) := by
  unfold PV.tB; rw [h]
theorem tTruL {t : Bool} (h : XA m s d s1) (e : dTru d = some t) : tTru m s = some (t, s1) := by
  obtain ⟨a, ea, rfl⟩ := h
  unfold tTru; rw [ea]; simp only [e, Option.map_some]
section
variable {A B : TM} {X Y : XM} {t : Bool} {v : AV} {R : Option (AV × S)}
theorem tOrF (h : A s = some (false, s1)) (k : B s1 = some (t, s2)) : PV.tOr A B s = some (t, s2) := by
  unfold PV.tOr; rw [h]; exact k
theorem tOrT (h : A s = some (true, s1)) : PV.tOr A B s = some (true, s1) := by
  unfold PV.tOr; rw [h]
theorem tNotL (h : A s = some (t, s1)) : PV.tNot A s = some (!t, s1) := by
  unfold PV.tNot; rw [h]
theorem xIfT (h : A s = some (true, s1)) (k : X s1 = R) : xIf A X Y s = R := by
  unfold xIf; rw [h]; exact k
theorem xIfF (h : A s = some (false, s1)) (k : Y s1 = R) : xIf A X Y s = R := by
  unfold xIf; rw [h]; exact k
theorem xIfTA (h : A s = some (true, s1)) (k : XA X s1 d s2) : XA (xIf A X Y) s d s2 := by
  obtain ⟨a, e, rfl⟩ := k
  exact ⟨a, xIfT h e, rfl⟩
theorem xIfFA (h : A s = some (false, s1)) (k : XA Y s1 d s2) : XA (xIf A X Y) s d s2 := by
  obtain ⟨a, e, rfl⟩ := k
  exact ⟨a, xIfF h e, rfl⟩
theorem xOrTT (h : XA X s d s1) (e : dTru d = some true) : XA (xOrT X Y) s d s1 := by
  obtain ⟨a, ea, rfl⟩ := h
  refine ⟨.fz a.d, ?_, rfl⟩
  unfold xOrT; rw [ea]; simp only [e]
theorem xOrTF (h : XA X s d s1) (e : dTru d = some false) (k : XA Y s1 x s2) : XA (xOrT X Y) s x s2 := by
  obtain ⟨a, ea, rfl⟩ := h
  obtain ⟨b, eb, rfl⟩ := k
  refine ⟨b, ?_, rfl⟩
  unfold xOrT; rw [ea]; simp only [e, eb]
end
theorem prN : prt none s = some (none, s) := rfl
theorem prS {i : Int} (h : m s = some (.fz (.int i), s1)) : prt (some m) s = some (some i, s1) := by
  show (match m s with
    | some (.fz (.int i), s') => some (some i, s')
    | _ => none) = _
  rw [h]
theorem xSlW {lo hi : Option XM} {l h : Option Int} (ha : r.pre s = some (o, s1)) (hl : prt lo s1 = some (l, s2)) (hh : prt hi s2 = some (h, s3)) (fa : r.fin o s3 = some a) (e : oW (dSl a l h) = some d) : xSl r lo hi s = some (.ow d, s3) := by
  unfold xSl; rw [ha]; simp only [hl, hh, fa, oW_eq e, Option.map_some]
/-! own things changed -/
theorem chgOw {i : Nat} {F : D → Option (D × AV)} {d' v : D} (h : s[i]? = some (.ow d)) (e : oC2 (F d) = some (d', v)) : XA (chg i F) s v (s.set i (.ow d')) := by
  obtain ⟨p, ep, e2⟩ := Option.map_eq_some_iff.mp e
  obtain ⟨p1, p2⟩ := p
  cases e2
  refine ⟨p2, ?_, rfl⟩
  unfold chg; rw [h]; simp only [ep]
theorem chgIo {i : Nat} {F : D → Option (D × AV)} {d' v : D} (h : s[i]? = some (.io d)) (e : oC2 (F d) = some (d', v)) : XA (chg i F) s v (s.set i (.io d')) := by
  obtain ⟨p, ep, e2⟩ := Option.map_eq_some_iff.mp e
  obtain ⟨p1, p2⟩ := p
  cases e2
  refine ⟨p2, ?_, rfl⟩
  unfold chg; rw [h]; simp only [ep]
theorem chgRL {i : Nat} {F : D → D → Option (D × AV)} {bb : SV} {xs : List D} (ht : r.tgt = some i) (hp : r.pre s = some (o, s)) (hi : s[i]? = some bb) (hg : bb.get = some (.lst xs)) (he : ev1 q s = some (x, s1)) (hc : XA (chg i fun d => F d x) s1 d s2) : XA (chgR r F q) s d s2 := by
  obtain ⟨v, ev, rfl⟩ := hc
  refine ⟨v, ?_, rfl⟩
  unfold chgR; simp only [ht, hp, hi, hg, he]; exact ev
theorem mPutL {i : Nat} (hv : XA m s a s1) (ht : r.tgt = some i) (hp : r.pre s1 = some (o, s1)) (hk : ev1 q s1 = some (b, s2)) (hc : XA (chg i fun d => cPut d a b) s2 c s3) : mPut r m q s = some (.nx, s3) := by
  obtain ⟨v, ev, rfl⟩ := hv
  obtain ⟨w, ew, _⟩ := hc
  unfold mPut; rw [ev]; simp only [ht, hp, hk]; rw [show (chg i (fun d => cPut d v.d b) s2) = _ from ew]
/-! what is walked -/
theorem sItL {ds : List D} (h : XA m s d s1) (e : itemsOf d = some ds) : sIt m s = some (ds, s1) := by
  obtain ⟨a, ea, rfl⟩ := h
  unfold sIt sOf; rw [ea]; simp only [e, Option.map_some]
theorem sEnumL {ds : List D} (h : XA m s d s1) (e : oEnum d = some ds) : sEnum m s = some (ds, s1) := by
  obtain ⟨a, ea, rfl⟩ := h
  unfold oEnum at e
  unfold sEnum sOf; rw [ea]; simp only [e, Option.map_some]
theorem sItemsL {ds : List D} (h : XA m s d s1) (e : oItems d = some ds) : sItems m s = some (ds, s1) := by
  obtain ⟨a, ea, rfl⟩ := h
  unfold sItems sOf; rw [ea]
  unfold oItems at e
  simp only
  split at e
  · rename_i kvs hk; cases e; first | (rw [hk]; rfl) | rfl
  · cases e
theorem sRng1L {ds : List D} (h : ev1 r s = some (d, s1)) (e : oRng1 d = some ds) : sRange1 r s = some (ds, s1) := by
  unfold oRng1 at e
  split at e
  · split at e
    · rename_i hb; cases e; unfold sRange1; rw [h]; exact if_pos hb
    · cases e
  · cases e
/-! comprehensions -/
theorem lcL_run {vs : List Nat} {tg : Tg} {T : TM} {E : XM} {G : D → Option (Option D)} (w1 : wipeS s vs = s)
    (hb : ∀ d o, G d = some o → ∃ s1, asgT tg d s = some s1 ∧ match o with
      | some v => ∃ s2 s3, T s1 = some (true, s2) ∧ XA E s2 v s3 ∧ calm s3 vs = true ∧ wipeS s3 vs = s
      | none => ∃ s2, T s1 = some (false, s2) ∧ calm s2 vs = true ∧ wipeS s2 vs = s) :
    ∀ (ds acc r : List D), acc.length + ds.length < SZ → lcL_ G ds = some r → lcL vs tg T E ds acc s = some (acc ++ r, s)
  | [], acc, r, _, h => by cases h; unfold lcL; rw [List.append_nil]
  | d :: ds, acc, r, hl, h => by
    rw [List.length_cons] at hl
    unfold lcL_ at h
    obtain ⟨o, e1, h⟩ := bnd h
    obtain ⟨r', e2, h⟩ := bnd h
    obtain ⟨s1, f1, f2⟩ := hb d o e1
    unfold lcL
    rw [f1]
    cases o with
    | some v =>
      obtain ⟨s2, s3, g1, ⟨av, g2, g3⟩, g4, g5⟩ := f2
      cases h
      simp only [g1, g2]
      rw [if_pos ⟨by omega, g4⟩, g5, g3]
      have := lcL_run w1 hb ds (acc ++ [v]) r' (by rw [List.length_append, List.length_singleton]; omega) e2
      rw [this, List.append_assoc]
      rfl
    | none =>
      obtain ⟨s2, g1, g4, g5⟩ := f2
      cases h
      simp only [g1]
      rw [if_pos g4, g5]
      exact lcL_run w1 hb ds acc r' (by omega) e2
theorem xLcP {vs : List Nat} {src : Src} {tg : Tg} {T : TM} {E : XM} {G : D → Option (Option D)} {ds : List D} {sw : S} (hs : src s0 = some (ds, s)) (hc : calm s vs = true) (w0 : wipeS s vs = sw) (w1 : wipeS sw vs = sw) (w2 : back s sw vs = s)
    (hb : ∀ d o, G d = some o → ∃ s1, asgT tg d sw = some s1 ∧ match o with
      | some v => ∃ s2 s3, T s1 = some (true, s2) ∧ XA E s2 v s3 ∧ calm s3 vs = true ∧ wipeS s3 vs = sw
      | none => ∃ s2, T s1 = some (false, s2) ∧ calm s2 vs = true ∧ wipeS s2 vs = sw) (h : lcP G ds = some d) : xLc vs src tg T E s0 = some (.ow d, s) := by
  unfold lcP at h
  split at h
  · rename_i hl
    obtain ⟨r, e1, rfl⟩ := Option.map_eq_some_iff.mp h
    have := lcL_run w1 hb ds [] r (by simpa using hl) e1
    unfold xLc
    rw [hs]
    simp only [hc, if_true, w0, this, w2, List.nil_append]
  · cases h
theorem dcL_run {vs : List Nat} {tg : Tg} {T : TM} {Kx E : XM} {G : D → Option (Option (Key × D))} (w1 : wipeS s vs = s)
    (hb : ∀ d o, G d = some o → ∃ s1, asgT tg d s = some s1 ∧ match o with
      | some v => ∃ s2 s3 kd, T s1 = some (true, s2) ∧ ev2 (.e Kx) (.e E) s2 = some ((kd, v.2), s3) ∧ keyOf kd = some v.1 ∧ calm s3 vs = true ∧ wipeS s3 vs = s
      | none => ∃ s2, T s1 = some (false, s2) ∧ calm s2 vs = true ∧ wipeS s2 vs = s) :
    ∀ (ds : List D) (acc r : List (Key × D)), acc.length + ds.length < SZ → dcL_ G ds acc = some r → dcL vs tg T Kx E ds acc s = some (r, s)
  | [], acc, r, _, h => by cases h; unfold dcL; rfl
  | d :: ds, acc, r, hl, h => by
    rw [List.length_cons] at hl
    unfold dcL_ at h
    obtain ⟨o, e1, h⟩ := bnd h
    obtain ⟨s1, f1, f2⟩ := hb d o e1
    unfold dcL
    rw [f1]
    cases o with
    | some v =>
      obtain ⟨s2, s3, kd, g1, g2, g3, g4, g5⟩ := f2
      simp only [g1, g2, g3]
      rw [if_pos ⟨by omega, g4⟩, g5]
      refine dcL_run w1 hb ds _ r ?_ h
      have : (gp acc v.1 v.2).length ≤ acc.length + 1 := by
        unfold gp
        split
        · rw [List.length_map]; omega
        · rw [List.length_append]; exact Nat.le_refl _
      omega
    | none =>
      obtain ⟨s2, g1, g4, g5⟩ := f2
      simp only [g1]
      rw [if_pos g4, g5]
      exact dcL_run w1 hb ds acc r (by omega) h
theorem xDcP {vs : List Nat} {src : Src} {tg : Tg} {T : TM} {Kx E : XM} {G : D → Option (Option (Key × D))} {ds : List D} {sw : S} (hs : src s0 = some (ds, s)) (hc : calm s vs = true) (w0 : wipeS s vs = sw) (w1 : wipeS sw vs = sw) (w2 : back s sw vs = s)
    (hb : ∀ d o, G d = some o → ∃ s1, asgT tg d sw = some s1 ∧ match o with
      | some v => ∃ s2 s3 kd, T s1 = some (true, s2) ∧ ev2 (.e Kx) (.e E) s2 = some ((kd, v.2), s3) ∧ keyOf kd = some v.1 ∧ calm s3 vs = true ∧ wipeS s3 vs = sw
      | none => ∃ s2, T s1 = some (false, s2) ∧ calm s2 vs = true ∧ wipeS s2 vs = sw) (h : dcP G ds = some d) : xDc vs src tg T Kx E s0 = some (.ow d, s) := by
  unfold dcP at h
  split at h
  · rename_i hl
    obtain ⟨r, e1, rfl⟩ := Option.map_eq_some_iff.mp h
    have := dcL_run w1 hb ds [] r (by simpa using hl) e1
    unfold xDc
    rw [hs]
    simp only [hc, if_true, w0, this, w2]
  · cases h
end
/-! ### statements -/
def Wp (m : MS) (s : S) (P : Out → S → Prop) : Prop := ∃ o s', m s = some (o, s') ∧ P o s'
section
variable {A B : MS} {m : XM} {s s1 s2 : S} {P : Out → S → Prop} {d : D} {a : AV} {T : TM}
theorem wNx (h : A s = some (.nx, s1)) (k : P .nx s1) : Wp A s P := ⟨_, _, h, k⟩
theorem wSeq (h : A s = some (.nx, s1)) (k : Wp B s1 P) : Wp (mSeq A B) s P := by
  obtain ⟨o, s', e, p⟩ := k
  exact ⟨o, s', by unfold mSeq; rw [h]; exact e, p⟩
/-- a statement with several ways out, then the rest -/
theorem wSeqW (h : Wp A s fun o s' => match o with
    | .nx => Wp B s' P
    | o => P o s') : Wp (mSeq A B) s P := by
  obtain ⟨o, s', e, p⟩ := h
  cases o with
  | nx => exact wSeq e p
  | _ => exact ⟨_, s', by unfold mSeq; rw [e], p⟩
theorem wSeqRt (h : A s = some (.rt a, s1)) (k : P (.rt a) s1) : Wp (mSeq A B) s P := ⟨.rt a, s1, by unfold mSeq; rw [h], k⟩
theorem wIfT (h : T s = some (true, s1)) (k : Wp A s1 P) : Wp (mIfS T A B) s P := by
  obtain ⟨o, s', e, p⟩ := k
  exact ⟨o, s', by unfold mIfS; rw [h]; exact e, p⟩
theorem wIfF (h : T s = some (false, s1)) (k : Wp B s1 P) : Wp (mIfS T A B) s P := by
  obtain ⟨o, s', e, p⟩ := k
  exact ⟨o, s', by unfold mIfS; rw [h]; exact e, p⟩
theorem mSkipL : mSkip s = some (.nx, s) := rfl
theorem mRetL (h : m s = some (a, s1)) : mRet m s = some (.rt a, s1) := by
  unfold mRet; rw [h]
theorem mAsgL {i : Nat} (h : m s = some (a, s1)) (k : put i a.sv s1 = some s2) : mAsg i m s = some (.nx, s2) := by
  unfold mAsg; rw [h]; simp only [k]
theorem mDropL (h : XA m s d s1) : mDrop m s = some (.nx, s1) := by
  obtain ⟨v, e, _⟩ := h
  unfold mDrop; rw [e]
theorem mAsgTL {t : Tg} (h : XA m s d s1) (k : asgT t d s1 = some s2) : mAsgT t m s = some (.nx, s2) := by
  obtain ⟨v, e, rfl⟩ := h
  unfold mAsgT; rw [e]; simp only [k]
theorem mKillL {is : List Nat} (h : killL is s = some s1) : mKill is s = some (.nx, s1) := by
  unfold mKill; rw [h]
theorem wRt (h : A s = some (.rt a, s1)) (k : P (.rt a) s1) : Wp A s P := ⟨_, _, h, k⟩
theorem condT {α : Type} {x y : Option α} {r : α} (h : cond true x y = some r) : x = some r := h
theorem condF {α : Type} {x y : Option α} {r : α} (h : cond false x y = some r) : y = some r := h
def exB {ρ σ β : Type} (x : Ex ρ σ) (f : σ → Option β) (g : ρ → Option β) : Option β := match x with
  | .nx p => f p
  | .bk _ => none
  | .rt r => g r
theorem exNx {ρ σ β : Type} {p : σ} {f : σ → Option β} {g : ρ → Option β} {r : β} (h : exB (.nx p) f g = some r) : f p = some r := h
theorem exRt {ρ σ β : Type} {p : ρ} {f : σ → Option β} {g : ρ → Option β} {r : β} (h : exB (.rt p) f g = some r) : g p = some r := h
/-! loops -/
theorem forF_run {σ : Type} {st : σ → S} {tg : Tg} {body : MS} {F : D → σ → Option σ} (hb : ∀ d a b, F d a = some b → ∃ s1, asgT tg d (st a) = some s1 ∧ Wp body s1 fun o s' => (o = .nx ∨ o = .ct) ∧ s' = st b) :
    ∀ (ds : List D) (a b : σ), forF F ds a = some b → forL tg body ds (st a) = some (.nx, st b)
  | [], a, b, h => by cases h; rfl
  | d :: ds, a, b, h => by
    unfold forF at h
    obtain ⟨c, e1, h⟩ := bnd h
    obtain ⟨s1, f1, o, s2, f2, f3, rfl⟩ := hb d a c e1
    unfold forL
    rw [f1]
    simp only [f2]
    rcases f3 with rfl | rfl
    · exact forF_run hb ds c b h
    · exact forF_run hb ds c b h
theorem mForF {σ : Type} {st : σ → S} {tg : Tg} {src : Src} {body : MS} {F : D → σ → Option σ} {ds : List D} {a0 b0 : σ} (hs : src s = some (ds, st a0)) (hb : ∀ d a b, F d a = some b → ∃ s1, asgT tg d (st a) = some s1 ∧ Wp body s1 fun o s' => (o = .nx ∨ o = .ct) ∧ s' = st b) (h : forF F ds a0 = some b0) : mFor src tg body s = some (.nx, st b0) := by
  unfold mFor
  rw [hs]
  exact forF_run hb ds a0 b0 h
def PEx {ρ σ : Type} (st : σ → S) (R : ρ → Out → S → Prop) : Ex ρ σ → Out → S → Prop
  | .nx b, o, s' => (o = .nx ∨ o = .ct) ∧ s' = st b
  | .bk b, o, s' => o = .bk ∧ s' = st b
  | .rt r, o, s' => R r o s'
/-- behind a loop -/
def PEl {ρ σ : Type} (st : σ → S) (R : ρ → Out → S → Prop) : Ex ρ σ → Out → S → Prop
  | .nx b, o, s' => o = .nx ∧ s' = st b
  | .bk _, _, _ => False
  | .rt r, o, s' => R r o s'
theorem forX_run {ρ σ : Type} {st : σ → S} {R : ρ → Out → S → Prop} {tg : Tg} {body : MS} {F : D → σ → Option (Ex ρ σ)} (hR : ∀ r o s', R r o s' → ∃ v, o = .rt v) (hb : ∀ d a x, F d a = some x → ∃ s1, asgT tg d (st a) = some s1 ∧ Wp body s1 (PEx st R x)) :
    ∀ (ds : List D) (a : σ) (x : Ex ρ σ), forX F ds a = some x → Wp (forL tg body ds) (st a) (PEl st R x)
  | [], a, x, h => by cases h; exact ⟨.nx, _, rfl, rfl, rfl⟩
  | d :: ds, a, x, h => by
    unfold forX at h
    obtain ⟨c, e1, h⟩ := bnd h
    obtain ⟨s1, f1, o, s2, f2, f3⟩ := hb d a c e1
    cases c with
    | nx b =>
      obtain ⟨f3, rfl⟩ := f3
      obtain ⟨o', s', g1, g2⟩ := forX_run hR hb ds b x h
      refine ⟨o', s', ?_, g2⟩
      unfold forL
      rw [f1]
      simp only [f2]
      rcases f3 with rfl | rfl
      · exact g1
      · exact g1
    | bk b =>
      obtain ⟨rfl, rfl⟩ := f3
      cases h
      refine ⟨.nx, st b, ?_, rfl, rfl⟩
      unfold forL
      rw [f1]
      simp only [f2]
    | rt r =>
      cases h
      obtain ⟨v, rfl⟩ := hR r o s2 f3
      refine ⟨.rt v, s2, ?_, f3⟩
      unfold forL
      rw [f1]
      simp only [f2]
theorem mForX {ρ σ : Type} {st : σ → S} {R : ρ → Out → S → Prop} {tg : Tg} {src : Src} {body : MS} {F : D → σ → Option (Ex ρ σ)} {ds : List D} {a0 : σ} {x : Ex ρ σ} (hs : src s = some (ds, st a0)) (hR : ∀ r o s', R r o s' → ∃ v, o = .rt v) (hb : ∀ d a x, F d a = some x → ∃ s1, asgT tg d (st a) = some s1 ∧ Wp body s1 (PEx st R x)) (h : forX F ds a0 = some x) : Wp (mFor src tg body) s (PEl st R x) := by
  obtain ⟨o, s', e, p⟩ := forX_run hR hb ds a0 x h
  exact ⟨o, s', by unfold mFor; rw [hs]; exact e, p⟩
theorem wSeqX {ρ σ : Type} {st : σ → S} {R : ρ → Out → S → Prop} {x : Ex ρ σ} (hw : Wp A s (PEl st R x)) (hR : ∀ r o s', R r o s' → ∃ v, o = .rt v) (hn : ∀ b, x = .nx b → Wp B (st b) P) (hr : ∀ r o s', x = .rt r → R r o s' → P o s') : Wp (mSeq A B) s P := by
  obtain ⟨o, s', e, p⟩ := hw
  cases x with
  | nx b => obtain ⟨rfl, rfl⟩ := p; exact wSeq e (hn b rfl)
  | bk b => exact p.elim
  | rt r =>
    have q := hr r o s' rfl p
    obtain ⟨v, rfl⟩ := hR r o s' p
    exact wSeqRt e q
theorem wX {ρ σ : Type} {st : σ → S} {R : ρ → Out → S → Prop} {x : Ex ρ σ} (hw : Wp A s (PEl st R x)) (hn : ∀ b, x = .nx b → P .nx (st b)) (hr : ∀ r o s', x = .rt r → R r o s' → P o s') : Wp A s P := by
  obtain ⟨o, s', e, p⟩ := hw
  cases x with
  | nx b => obtain ⟨rfl, rfl⟩ := p; exact ⟨_, _, e, hn b rfl⟩
  | bk b => exact p.elim
  | rt r => exact ⟨_, _, e, hr r o s' rfl p⟩
section
variable {ρ σ : Type} {st : σ → S} {R : ρ → Out → S → Prop} {b : σ} {r : ρ}
theorem pNx : PEx st R (.nx b) .nx (st b) := ⟨.inl rfl, rfl⟩
theorem pRt {o : Out} {s' : S} (h : R r o s') : PEx st R (.rt r) o s' := h
end
/-! a def -/
theorem fnW {io : List Bool} {n : Nat} {ds outs : List D} {v : AV} (hl : ds.length = io.length) (h : Wp A (svs io ds ++ List.replicate (n - ds.length) .un) fun o s' => ((o = .rt v) ∨ (o = .nx ∧ v = .fz .non)) ∧ outsOf io s' = some outs) : mFun io n A ds = some (v, outs) := by
  obtain ⟨o, s', e, h1, h2⟩ := h
  unfold mFun
  rw [if_pos hl, e]
  rcases h1 with rfl | ⟨rfl, rfl⟩
  · simp only [h2, Option.map_some]
  · simp only [h2, Option.map_some]
end
end PV
/-! PvZ: methods called on an object with own fields (it stands in the slot 0). -/
namespace PV
open PySem PySem.Spec PyProof.Rows L2
def gix : List (Str × Fd) → List Nat
  | [] => []
  | (_, .d _) :: r => gix r
  | (_, .j i) :: r => i :: gix r
def ren : Nat → List (Str × Fd) → List (Str × Fd)
  | _, [] => []
  | n, (k, .d d) :: r => (k, .d d) :: ren n r
  | n, (k, .j _) :: r => (k, .j n) :: ren (n + 1) r
def gets (s : List SV) : List Nat → Option (List D)
  | [] => some []
  | j :: js => match s[j]? with
    | some (.io d) => match gets s js with
      | some ds => some (d :: ds)
      | none => none
    | _ => none
def setIo (s : List SV) : List Nat → List D → List SV
  | j :: js, d :: ds => setIo (s.set j (.io d)) js ds
  | _, _ => s
abbrev FnO := List (Str × Fd) → List D → List D → Option (AV × List D)
def startO (C : Str) (n : Nat) (fl : List (Str × Fd)) (gs ds : List D) : List SV := .ob C (ren n fl) :: (ds.map SV.fz ++ (List.replicate (n - 1 - ds.length) .un ++ gs.map SV.io))
def rngN (n k : Nat) : List Nat := (List.range k).map fun t => n + t
def mObj (C : Str) (n np k : Nat) (m : MS) : FnO := fun fl gs ds => if ds.length = np ∧ gs.length = k ∧ (gix fl).length = k then match m (startO C n fl gs ds) with
    | some (.rt a, s') => match gets s' (rngN n gs.length) with
      | some o => some (a, o)
      | none => none
    | some (.nx, s') => match gets s' (rngN n gs.length) with
      | some o => some (.fz .non, o)
      | none => none
    | _ => none
  else none
def obAt (s : List SV) (C : Str) : Option (List (Str × Fd)) := match s[0]? with
  | some (SV.ob B fl) => if B = C then some fl else none
  | _ => none
def xObj (C m : Str) (g : FnO) (rs : List Rc) : XM := fun s => match obAt s C with
  | some fl0 => if (gv fl0 m).isNone = true then match evL rs s with
    | some (ds, s1) => match obAt s1 C with
      | some fl => if (gix fl).Nodup then match gets s1 (gix fl) with
        | some gs => match g fl gs ds with
          | some (a, gs') => if gs'.length = gs.length then some (a, setIo s1 (gix fl) gs') else none
          | none => none
        | none => none
        else none
      | none => none
    | none => none
    else none
  | none => none
theorem gets_at {s : List SV} : ∀ {js : List Nat} {ds : List D}, gets s js = some ds → ds.length = js.length ∧ ∀ (t j : Nat), js[t]? = some j → ∃ d, s[j]? = some (SV.io d) ∧ ds[t]? = some d
  | [], ds, h => by unfold gets at h; cases h; exact ⟨rfl, fun t j e => by simp at e⟩
  | j :: js, ds, h => by
    unfold gets at h
    split at h
    · rename_i d e
      split at h
      · rename_i ds' e2
        cases h
        obtain ⟨h1, h2⟩ := gets_at e2
        refine ⟨by rw [List.length_cons, List.length_cons, h1], fun t i ei => ?_⟩
        cases t with
        | zero => simp at ei; subst ei; exact ⟨d, e, rfl⟩
        | succ t => exact h2 t i (by simpa using ei)
      · cases h
    · cases h
theorem setIo_at : ∀ {js : List Nat} {ds : List D} {s : List SV}, js.Nodup → (setIo s js ds).length = s.length ∧ (∀ i, i ∉ js → (setIo s js ds)[i]? = s[i]?) ∧ ∀ (t j : Nat) (d : D), js[t]? = some j → ds[t]? = some d → j < s.length → (setIo s js ds)[j]? = some (SV.io d)
  | [], ds, s, _ => by
    have : setIo s [] ds = s := by cases ds <;> rfl
    rw [this]; exact ⟨rfl, fun _ _ => rfl, fun t j d e => by simp at e⟩
  | j :: js, [], s, _ => ⟨rfl, fun _ _ => rfl, fun t i d _ e => by simp at e⟩
  | j :: js, d :: ds, s, nd => by
    rw [List.nodup_cons] at nd
    obtain ⟨h1, h2, h3⟩ := setIo_at (js := js) (ds := ds) (s := s.set j (.io d)) nd.2
    show (setIo (s.set j (.io d)) js ds).length = s.length ∧ (∀ i, i ∉ j :: js → (setIo (s.set j (.io d)) js ds)[i]? = s[i]?) ∧ _
    refine ⟨by rw [h1, List.length_set], fun i hi => ?_, fun t i e hi he hl => ?_⟩
    · rw [List.mem_cons, not_or] at hi
      rw [h2 i hi.2, List.getElem?_set_ne (Ne.symm hi.1)]
    · show (setIo (s.set j (.io d)) js ds)[i]? = _
      cases t with
      | zero => simp at hi he; subst hi; subst he; rw [h2 j nd.1, List.getElem?_set_self hl]
      | succ t => exact h3 t i e (by simpa using hi) (by simpa using he) (by rw [List.length_set]; exact hl)
theorem rngN_at {n k t : Nat} (h : t < k) : (rngN n k)[t]? = some (n + t) := by
  unfold rngN; rw [List.getElem?_map, List.getElem?_range h]; rfl
theorem rngN_len {n k : Nat} : (rngN n k).length = k := by unfold rngN; rw [List.length_map, List.length_range]
section
variable {K : PySem.W.Frag} {mg : Str → Option Value} {Fr : Fx} {F G H : Hp} {C : Str}
def sigO (x : Addr) (vs : List V) (u : Nat) (qs : List Addr) : List (Option V) := some (.ref x) :: (vs.map some ++ (List.replicate u none ++ qs.map fun q => some (V.ref q)))
def endO (C : Str) (n : Nat) (fl : List (Str × Fd)) (gs : List D) : List SV := .ob C (ren n fl) :: (List.replicate (n - 1) .un ++ gs.map SV.io)
def ltO (n : Nat) (x : Addr) (qs : List Addr) : List (Nat × Addr) := (0, x) :: (rngN n qs.length).zip qs
theorem ltO_mem {n : Nat} {x : Addr} {qs : List Addr} {i : Nat} {p : Addr} : (i, p) ∈ ltO n x qs ↔ (i = 0 ∧ p = x) ∨ ∃ t : Nat, i = n + t ∧ qs[t]? = some p := by
  unfold ltO
  rw [List.mem_cons, Prod.mk.injEq]
  refine or_congr Iff.rfl ⟨fun h => ?_, fun ⟨t, e, h⟩ => ?_⟩
  · obtain ⟨t, ht⟩ := List.mem_iff_getElem?.mp h
    rw [List.getElem?_zip_eq_some] at ht
    have hl := lt_of_get ht.2
    rw [rngN_at hl] at ht
    exact ⟨t, (Option.some.inj ht.1).symm, ht.2⟩
  · refine List.mem_iff_getElem?.mpr ⟨t, ?_⟩
    rw [List.getElem?_zip_eq_some]
    exact ⟨by rw [rngN_at (lt_of_get h), e], h⟩
/-- a method's promise for an object with own fields -/
def spO (K : PySem.W.Frag) (mg : Str → Option Value) (C : Str) (np n k : Nat) (g : FnO) : Sp := fun vs H Q _ => ∃ (Fr : Fx) (G : Hp) (fl : List (Str × Fd)) (gs ds gs' : List D) (r : AV) (x : Addr) (qs : List Addr) (vs' : List V), vs = .ref x :: vs' ∧ vs'.length = np ∧ ds.length = np ∧ qs.length = k ∧ gs.length = k ∧ gs'.length = k ∧ np + 1 ≤ n ∧ Fr.lt = ltO n x qs ∧
  StF K mg Fr G (startO C n fl gs ds) (sigO x vs' (n - 1 - np) qs) H ∧ g fl gs ds = some (r, gs') ∧
  ∀ v F H', Same G F → StF K mg Fr F (endO C n fl gs') (sigO x vs' (n - 1 - np) qs) H' → AVal K mg Fr F H' (endO C n fl gs') (sigO x vs' (n - 1 - np) qs) r v → Q v H'
theorem sigO_at {x : Addr} {vs : List V} {u : Nat} {qs : List Addr} {t : Nat} {q : Addr} (h : qs[t]? = some q) : (sigO x vs u qs)[1 + vs.length + u + t]? = some (some (V.ref q)) := by
  unfold sigO
  rw [show 1 + vs.length + u + t = (vs.length + (u + t)) + 1 from by omega, List.getElem?_cons_succ, List.getElem?_append_right (by rw [List.length_map]; omega), List.length_map, List.getElem?_append_right (by rw [List.length_replicate]; omega), List.length_replicate,
    show vs.length + (u + t) - vs.length - u = t from by omega, List.getElem?_map, h]
  rfl
theorem endO_own {n : Nat} {fl : List (Str × Fd)} {gs : List D} {i : Nat} {a : SV} (hn : 1 ≤ n) (e : (endO C n fl gs)[i]? = some a) : (i = 0 ∧ a = .ob C (ren n fl)) ∨ (a = .un ∧ i < n) ∨ ∃ t d, i = n + t ∧ gs[t]? = some d ∧ a = .io d := by
  unfold endO at e
  cases i with
  | zero => left; simp at e; exact ⟨rfl, e.symm⟩
  | succ i =>
    rw [List.getElem?_cons_succ] at e
    by_cases hi : i < n - 1
    · rw [List.getElem?_append_left (by rw [List.length_replicate]; exact hi), List.getElem?_replicate, if_pos hi] at e
      cases e
      exact .inr (.inl ⟨rfl, by omega⟩)
    · rw [List.getElem?_append_right (by rw [List.length_replicate]; omega), List.length_replicate, List.getElem?_map] at e
      obtain ⟨d, hd, rfl⟩ := Option.map_eq_some_iff.mp e
      exact .inr (.inr ⟨i - (n - 1), d, by omega, hd, rfl⟩)
/-- behind the body -/
theorem obj_end {n np k : Nat} {fl : List (Str × Fd)} {gs ds gs' : List D} {x : Addr} {qs : List Addr} {vs' : List V} {s' : List SV} {σ' : L2.St} {H' : Hp} {a : AV} {v : V} (lv : vs'.length = np) (lq : qs.length = k) (lg : gs.length = k) (hn : np + 1 ≤ n) (hl : Fr.lt = ltO n x qs)
    (st : StF K mg Fr G (startO C n fl gs ds) (sigO x vs' (n - 1 - np) qs) H) (kG : Same G F) (eg : gets s' (rngN n gs.length) = some gs') (st' : StF K mg Fr F s' σ' H') (av : AVal K mg Fr F H' s' σ' a v) :
    StF K mg Fr F (endO C n fl gs') (sigO x vs' (n - 1 - np) qs) H' ∧ AVal K mg Fr F H' (endO C n fl gs') (sigO x vs' (n - 1 - np) qs) a v := by
  obtain ⟨l1, g1⟩ := gets_at eg
  rw [rngN_len] at l1
  have en : n = 1 + vs'.length + (n - 1 - np) := by omega
  -- a ghost's slot
  have gh : ∀ {t : Nat} {d : D}, gs'[t]? = some d → ∃ q, qs[t]? = some q ∧ s'[n + t]? = some (SV.io d) ∧ σ'[n + t]? = some (some (V.ref q)) ∧ (sigO x vs' (n - 1 - np) qs)[n + t]? = some (some (V.ref q)) := fun {t d} hd => by
    have ht := lt_of_get hd
    obtain ⟨d', h1, h2⟩ := g1 t (n + t) (rngN_at (by omega))
    rw [hd] at h2
    cases h2
    have hq : qs[t]? = some qs[t] := List.getElem?_eq_getElem (by omega)
    obtain ⟨z1, _⟩ := st'.lent (n + t) qs[t] (by rw [hl]; exact ltO_mem.mpr (.inr ⟨t, rfl, hq⟩))
    refine ⟨qs[t], hq, h1, z1, ?_⟩
    have := sigO_at (x := x) (vs := vs') (u := n - 1 - np) hq
    rw [← en] at this
    exact this
  have own : ∀ {i : Nat} {b : SV}, (endO C n fl gs')[i]? = some b → b.own = true → ∃ q d, b = .io d ∧ s'[i]? = some (SV.io d) ∧ σ'[i]? = some (some (V.ref q)) ∧ (sigO x vs' (n - 1 - np) qs)[i]? = some (some (V.ref q)) := fun {i b} e o => by
    rcases endO_own (by omega) e with ⟨_, rfl⟩ | ⟨rfl, _⟩ | ⟨t, d, rfl, hd, rfl⟩
    · cases o
    · cases o
    · obtain ⟨q, _, h2, h3, h4⟩ := gh hd
      exact ⟨q, d, rfl, h2, h3, h4⟩
  refine ⟨⟨st'.sub, st'.fr, st'.dis, ?_, fun i b e => ?_, fun i p hm => ?_, fun i j b c p e1 e2 o1 o2 w1 w2 => ?_⟩, ?_⟩
  · unfold endO sigO
    rw [List.length_cons, List.length_cons, List.length_append, List.length_append, List.length_append, List.length_map, List.length_map, List.length_map, List.length_replicate, List.length_replicate]
    omega
  · rcases endO_own (by omega) e with ⟨rfl, rfl⟩ | ⟨rfl, hi⟩ | ⟨t, d, rfl, hd, rfl⟩
    · obtain ⟨w, hw, q⟩ := st.slot 0 (.ob C (ren n fl)) rfl
      exact ⟨w, hw, ObF.mono q kG (fun _ _ _ _ z => z) fun _ z => z⟩
    · have : i < (sigO x vs' (n - 1 - np) qs).length := by
        unfold sigO
        rw [List.length_cons, List.length_append, List.length_append, List.length_map, List.length_replicate]
        omega
      exact ⟨_, List.getElem?_eq_getElem this, trivial⟩
    · obtain ⟨q, hq, h2, h3, h4⟩ := gh hd
      obtain ⟨w, hw, z⟩ := st'.slot _ _ h2
      rw [h3] at hw
      cases hw
      exact ⟨_, h4, z⟩
  · rw [hl] at hm
    rcases ltO_mem.mp hm with ⟨rfl, rfl⟩ | ⟨t, rfl, hq⟩
    · exact ⟨rfl, _, rfl, rfl⟩
    · have ht := lt_of_get hq
      have hd : gs'[t]? = some (gs'[t]'(by omega)) := List.getElem?_eq_getElem (by omega)
      obtain ⟨q, hq', h2, h3, h4⟩ := gh hd
      rw [hq] at hq'
      cases hq'
      refine ⟨h4, .io (gs'[t]'(by omega)), ?_, rfl⟩
      unfold endO
      rw [show n + t = (n - 1 + t) + 1 from by omega, List.getElem?_cons_succ, List.getElem?_append_right (by rw [List.length_replicate]; omega), List.length_replicate, show n - 1 + t - (n - 1) = t from by omega, List.getElem?_map, hd]
      rfl
  · obtain ⟨q1, d1, rfl, h1, h2, h3⟩ := own e1 o1
    obtain ⟨q2, d2, rfl, g2, g3, g4⟩ := own e2 o2
    rw [w1] at h3
    rw [w2] at g4
    cases h3
    cases g4
    exact st'.apart i j _ _ p h1 g2 rfl rfl h2 g3
  · cases a with
    | fz d => exact av
    | ow d =>
      obtain ⟨p, o, rfl, h1, h2, h3, h4, h5⟩ := av
      refine ⟨p, o, rfl, h1, h2, h3, h4, fun i b e ob hi => ?_⟩
      obtain ⟨q1, d1, rfl, y1, y2, y3⟩ := own e ob
      rw [hi] at y3
      cases y3
      exact h5 i _ y1 rfl y2
end
/-! ghosts set ahead of a body -/
def setAll (σ : List (Option V)) : Nat → List (Option V) → List (Option V)
  | _, [] => σ
  | n, w :: ws => setAll (σ.set n w) (n + 1) ws
theorem setAll_app : ∀ (ws A B : List (Option V)), ws.length = B.length → setAll (A ++ B) A.length ws = A ++ ws
  | [], A, B, h => by
    have : B = [] := List.length_eq_zero_iff.mp h.symm
    subst this; rfl
  | w :: ws, A, [], h => by simp at h
  | w :: ws, A, b :: B, h => by
    unfold setAll
    have e : (A ++ b :: B).set A.length w = (A ++ [w]) ++ B := by
      rw [List.set_append_right _ _ (Nat.le_refl _), Nat.sub_self, List.append_assoc]; rfl
    rw [e]
    have := setAll_app ws (A ++ [w]) B (by simpa using h)
    rw [List.length_append, List.length_singleton] at this
    rw [this, List.append_assoc]
    rfl
theorem pss_ghost {X : Cx} {body : List Stmt} {t : TS} : ∀ (ws : List (Option V)) (n : Nat), (∀ j y, n ≤ j → X.N[j]? = some y → ¬ Vis X.env.scope y) → PSs X body t → PSs X body fun D σ H => t D (setAll σ n ws) H
  | [], n, _, h => h
  | w :: ws, n, hj, h => by
    have ih := pss_ghost ws (n + 1) (fun j y hn e => hj j y (by omega) e) h
    exact ⟨fun pins s σ H D I q => ih.run pins s (σ.set n w) H D (inv_ghost I fun y e => hj n y (Nat.le_refl _) e) q⟩
section
variable {P : Program} {w : World} {K : PySem.W.Frag} {mg : Str → Option Value} {base : Heap} {C : Str}
theorem obj_read {N : List Str} {np n k : Nat} {m : MS} {vs : List V} {H : Hp} {Q : VK} {E : XK} (hN : N.length = n + k) (h : spO K mg C np n k (mObj C n np k m) vs H Q E) : ∃ ws, tS K mg m { nx := fun _ H' => Q .non H', rt := Q } (setAll (L2.start N vs) n ws) H := by
  obtain ⟨Fr, G, fl, gs, ds, gs', r, x, qs, vs', rfl, lv, ld, lq, lg, lg', hn, hl, st, eg, q⟩ := h
  refine ⟨qs.map fun q => some (V.ref q), ?_⟩
  have es : setAll (L2.start N (V.ref x :: vs')) n (qs.map fun q => some (V.ref q)) = sigO x vs' (n - 1 - np) qs := by
    have e1 : L2.start N (V.ref x :: vs') = (some (V.ref x) :: (vs'.map some ++ List.replicate (n - 1 - np) none)) ++ List.replicate k none := by
      unfold L2.start
      rw [List.map_cons, List.length_cons, lv, show N.length - (np + 1) = (n - 1 - np) + k from by omega, ← List.replicate_append_replicate, List.cons_append, List.cons_append, List.append_assoc]
    have e2 : n = (some (V.ref x) :: (vs'.map some ++ List.replicate (n - 1 - np) (none : Option V))).length := by
      rw [List.length_cons, List.length_append, List.length_map, List.length_replicate]; omega
    rw [e1]
    conv => lhs; arg 2; rw [e2]
    rw [setAll_app _ _ _ (by rw [List.length_map, List.length_replicate, lq])]
    unfold sigO
    rw [List.cons_append, List.append_assoc]
  rw [es]
  unfold mObj at eg
  split at eg
  · rename_i hc
    split at eg
    · rename_i a s' em
      split at eg
      · rename_i o e2
        cases eg
        exact ⟨Fr, G, _, .rt r, s', st, em, fun σ' F H' kk st' v av => by
          obtain ⟨z1, z2⟩ := obj_end lv lq lg hn hl st kk e2 st' av
          exact q v F H' kk z1 z2⟩
      · cases eg
    · rename_i s' em
      split at eg
      · rename_i o e2
        cases eg
        exact ⟨Fr, G, _, .nx, s', st, em, fun σ' F H' kk st' => by
          obtain ⟨z1, z2⟩ := obj_end (a := .fz .non) (v := .non) lv lq lg hn hl st kk e2 st' av_non
          exact q .non F H' kk z1 z2⟩
      · cases eg
    · cases eg
  · cases eg
/-- THE RULE for a method of an object with own fields -/
theorem obj_ok {x qual : Str} {st : Stmt} {f : Addr} {fd : FuncData} {N ps : List Str} {lv np n k : Nat} {m : MS} (Fn : Fun K x qual st f fd) (S : FnScope N ps (defScope st)) (hnp : np + 1 = ps.length) (hN : N.length = n + k) (hgh : ∀ j y, n ≤ j → N[j]? = some y → ¬ Vis (defScope st) y)
    (hbody : ∀ (cdv : Value) (A : Around) (outer : List Env) (s : Shared) (H : Hp) (E : XK), Room lv (A.deeper (envOfC qual (defScope st) s.heap.objs.size f cdv)) → PSts (cxOf CX0 P w K mg base N qual (defScope st) f cdv A outer s H E).nox (defBody st) m) :
    FnOk P w K mg base CX0 (lv + 1) f fd ps (spO K mg C np n k (mObj C n np k m)) := by
  refine Fn.ok S (fun vs H Q E h => ?_) fun cdv A outer s H vs Q E hr h => ?_
  · obtain ⟨_, _, _, _, _, _, _, _, _, _, rfl, l, _⟩ := h
    rw [List.length_cons, l, hnp]
  · obtain ⟨ws, z⟩ := obj_read hN h
    exact ⟨_, pss_ghost ws n hgh (hbody cdv A outer s H E hr), z⟩
end
end PV
namespace PV
open PySem PySem.Spec PyProof.Rows L2
section
variable {K : PySem.W.Frag} {mg : Str → Option Value} {Fr : Fx} {F G H : Hp} {C : Str} {s : List SV} {σ : List (Option V)}
def MineO (s : List SV) (σ : List (Option V)) (js : List Nat) (p : Addr) : Prop := ∃ (i : Nat) (a : SV), s[i]? = some a ∧ a.own = true ∧ σ[i]? = some (some (V.ref p)) ∧ i ∉ js
open Classical in
noncomputable def frO (Fr : Fx) (s : List SV) (σ : List (Option V)) (js : List Nat) (H : Hp) (lt : List (Nat × Addr)) : Fx := ⟨fun p => if Fr p ≠ none ∨ MineO s σ js p then H p else none, lt⟩
theorem frO_of {js : List Nat} {lt : List (Nat × Addr)} {p : Addr} (h : Fr p ≠ none ∨ MineO s σ js p) : (frO Fr s σ js H lt).hp p = H p := by unfold frO; exact if_pos h
theorem frO_not {js : List Nat} {lt : List (Nat × Addr)} {p : Addr} (h : ¬ (Fr p ≠ none ∨ MineO s σ js p)) : (frO Fr s σ js H lt).hp p = none := by unfold frO; exact if_neg h
theorem frO_inv {js : List Nat} {lt : List (Nat × Addr)} {p : Addr} {o : HO} (h : (frO Fr s σ js H lt).hp p = some o) : (Fr p ≠ none ∨ MineO s σ js p) ∧ H p = some o := by
  by_cases z : Fr p ≠ none ∨ MineO s σ js p
  · exact ⟨z, by rw [← frO_of (H := H) (lt := lt) z]; exact h⟩
  · rw [frO_not z] at h; cases h
theorem RepO.ren {lt : List (Nat × Addr)} : ∀ {fl : List (Str × Fd)} {ws : List (Str × V)}, RepO K mg lt F fl ws → ∃ qs : List Addr, qs.length = (gix fl).length ∧ (∀ (t i : Nat), (gix fl)[t]? = some i → ∃ q, qs[t]? = some q ∧ (i, q) ∈ lt) ∧
    ∀ (n : Nat) (lt' : List (Nat × Addr)), (∀ (t : Nat) (q : Addr), qs[t]? = some q → (n + t, q) ∈ lt') → RepO K mg lt' F (PV.ren n fl) ws
  | [], ws, h => ⟨[], rfl, fun t i e => by simp [gix] at e, fun n lt' _ => h⟩
  | (k, .d d) :: r, _, ⟨v, r', h1, h2, h3⟩ => by
    obtain ⟨qs, g1, g2, g3⟩ := RepO.ren h3
    exact ⟨qs, g1, g2, fun n lt' hq => ⟨v, r', h1, h2, g3 n lt' hq⟩⟩
  | (k, .j i) :: r, _, ⟨q, r', h1, h2, h3⟩ => by
    obtain ⟨qs, g1, g2, g3⟩ := RepO.ren h3
    refine ⟨q :: qs, by show qs.length + 1 = (gix r).length + 1; rw [g1], fun t j e => ?_, fun n lt' hq => ⟨q, r', h1, hq 0 q rfl, g3 (n + 1) lt' fun t q' e => ?_⟩⟩
    · cases t with
      | zero => have e : i = j := by simpa [gix] using e
                subst e; exact ⟨q, rfl, h2⟩
      | succ t => exact g2 t j (by simpa [gix] using e)
    · have := hq (t + 1) q' (by simpa using e)
      rw [show n + (t + 1) = n + 1 + t from by omega] at this
      exact this
theorem startO_at {n : Nat} {fl : List (Str × Fd)} {gs ds : List D} {i : Nat} {a : SV} (hn : ds.length + 1 ≤ n) (e : (startO C n fl gs ds)[i]? = some a) : (i = 0 ∧ a = .ob C (PV.ren n fl)) ∨ (∃ t d, i = t + 1 ∧ ds[t]? = some d ∧ a = .fz d) ∨ (a = .un ∧ ds.length + 1 ≤ i ∧ i < n) ∨ ∃ t d, i = n + t ∧ gs[t]? = some d ∧ a = .io d := by
  unfold startO at e
  cases i with
  | zero => left; simp at e; exact ⟨rfl, e.symm⟩
  | succ i =>
    rw [List.getElem?_cons_succ] at e
    by_cases h1 : i < ds.length
    · rw [List.getElem?_append_left (by rw [List.length_map]; exact h1), List.getElem?_map] at e
      obtain ⟨d, hd, rfl⟩ := Option.map_eq_some_iff.mp e
      exact .inr (.inl ⟨i, d, rfl, hd, rfl⟩)
    · rw [List.getElem?_append_right (by rw [List.length_map]; omega), List.length_map] at e
      by_cases h2 : i < n - 1
      · rw [List.getElem?_append_left (by rw [List.length_replicate]; omega), List.getElem?_replicate, if_pos (by omega)] at e
        cases e
        exact .inr (.inr (.inl ⟨rfl, by omega, by omega⟩))
      · rw [List.getElem?_append_right (by rw [List.length_replicate]; omega), List.length_replicate, List.getElem?_map] at e
        obtain ⟨d, hd, rfl⟩ := Option.map_eq_some_iff.mp e
        exact .inr (.inr (.inr ⟨i - ds.length - (n - 1 - ds.length), d, by omega, hd, rfl⟩))
theorem obj_in {n np : Nat} {fl : List (Str × Fd)} {gs ds : List D} {x : Addr} {qs : List Addr} {vs : List V} (st : StF K mg Fr F s σ H) (h0 : s[0]? = some (.ob C fl)) (hx : σ[0]? = some (some (V.ref x))) (ld : ds.length = np) (lv : vs.length = np) (hn : np + 1 ≤ n) (nd : (gix fl).Nodup)
    (har : ∀ (t : Nat) (d : D), ds[t]? = some d → ∃ v, vs[t]? = some v ∧ Rep K mg F d v) (eg : gets s (gix fl) = some gs) (lq : qs.length = (gix fl).length) (hq : ∀ (t i : Nat), (gix fl)[t]? = some i → ∃ q, qs[t]? = some q ∧ (i, q) ∈ Fr.lt)
    (hr : ∀ ws, RepO K mg Fr.lt F fl ws → RepO K mg (ltO n x qs) F (PV.ren n fl) ws) :
    StF K mg (frO Fr s σ (gix fl) H (ltO n x qs)) F (startO C n fl gs ds) (sigO x vs (n - 1 - np) qs) H := by
  obtain ⟨lg, hg⟩ := gets_at eg
  have en : n = 1 + vs.length + (n - 1 - np) := by omega
  have gh : ∀ {t : Nat} {d : D}, gs[t]? = some d → ∃ j q, (gix fl)[t]? = some j ∧ s[j]? = some (SV.io d) ∧ σ[j]? = some (some (V.ref q)) ∧ qs[t]? = some q ∧ (sigO x vs (n - 1 - np) qs)[n + t]? = some (some (V.ref q)) := fun {t d} hd => by
    have ht := lt_of_get hd
    have hj : (gix fl)[t]? = some ((gix fl)[t]'(by omega)) := List.getElem?_eq_getElem (by omega)
    obtain ⟨d', h1, h2⟩ := hg t _ hj
    rw [hd] at h2
    cases h2
    obtain ⟨q, h3, h4⟩ := hq t _ hj
    have := sigO_at (x := x) (vs := vs) (u := n - 1 - np) h3
    rw [← en] at this
    exact ⟨_, q, hj, h1, (st.lent _ _ h4).1, h3, this⟩
  have own : ∀ {i : Nat} {a : SV}, (startO C n fl gs ds)[i]? = some a → a.own = true → ∃ t j q d, i = n + t ∧ a = .io d ∧ (gix fl)[t]? = some j ∧ s[j]? = some (SV.io d) ∧ σ[j]? = some (some (V.ref q)) ∧ (sigO x vs (n - 1 - np) qs)[i]? = some (some (V.ref q)) := fun {i a} e o => by
    rcases startO_at (by omega) e with ⟨_, rfl⟩ | ⟨t, d, _, _, rfl⟩ | ⟨rfl, _⟩ | ⟨t, d, rfl, hd, rfl⟩
    · cases o
    · cases o
    · cases o
    · obtain ⟨j, q, h1, h2, h3, h4, h5⟩ := gh hd
      exact ⟨t, j, q, d, rfl, rfl, h1, h2, h3, h5⟩
  refine ⟨st.sub, fun p o e => (frO_inv e).2, fun p o e => ?_, ?_, fun i a e => ?_, fun i p hm => ?_, fun i j a b p e1 e2 o1 o2 w1 w2 => ?_⟩
  · obtain ⟨z, _⟩ := frO_inv e
    rcases z with z | ⟨i, a, h1, h2, h3, h4⟩
    · cases hp : Fr.hp p with
      | none => exact absurd hp z
      | some o => exact st.dis p o hp
    · obtain ⟨p', o', d', x1, x2, _⟩ := own_addr st h1 h2
      rw [h3] at x1
      cases x1
      exact x2
  · unfold startO sigO
    rw [List.length_cons, List.length_cons, List.length_append, List.length_append, List.length_append, List.length_append, List.length_map, List.length_map, List.length_map, List.length_map, List.length_replicate, List.length_replicate]
    omega
  · rcases startO_at (by omega) e with ⟨rfl, rfl⟩ | ⟨t, d, rfl, hd, rfl⟩ | ⟨rfl, h1, h2⟩ | ⟨t, d, rfl, hd, rfl⟩
    · obtain ⟨w, hw, x', Ca, dx, ws, rfl, h2, h3, h4⟩ := st.slot 0 _ h0
      rw [hx] at hw
      cases hw
      refine ⟨_, rfl, x, Ca, dx, ws, rfl, ?_, h3, hr ws h4⟩
      rw [frO_of (.inl (by rw [h2]; exact fun z => nomatch z))]
      exact st.fr _ _ h2
    · obtain ⟨v, hv, rp⟩ := har t d hd
      have ht := lt_of_get hv
      refine ⟨some v, ?_, v, rfl, rp⟩
      unfold sigO
      rw [List.getElem?_cons_succ, List.getElem?_append_left (by rw [List.length_map]; exact ht), List.getElem?_map, hv]
      rfl
    · have : i < (sigO x vs (n - 1 - np) qs).length := by
        unfold sigO
        rw [List.length_cons, List.length_append, List.length_append, List.length_map, List.length_replicate]
        omega
      exact ⟨_, List.getElem?_eq_getElem this, trivial⟩
    · obtain ⟨j, q, h1, h2, h3, h4, h5⟩ := gh hd
      obtain ⟨w, hw, p, o, rfl, y1, y2, y3, y4⟩ := st.slot j _ h2
      rw [h3] at hw
      cases hw
      refine ⟨_, h5, _, o, rfl, y1, frO_not fun z => ?_, y3, y4⟩
      rcases z with z | ⟨i, a, z1, z2, z3, z4⟩
      · exact z y2
      · have := st.apart i j a _ _ z1 h2 z2 rfl z3 h3
        subst this
        exact z4 (List.mem_of_getElem? h1)
  · rcases ltO_mem.mp hm with ⟨rfl, rfl⟩ | ⟨t, rfl, hq'⟩
    · exact ⟨rfl, _, rfl, rfl⟩
    · have ht := lt_of_get hq'
      have hd : gs[t]? = some (gs[t]'(by omega)) := List.getElem?_eq_getElem (by omega)
      obtain ⟨j, q, h1, h2, h3, h4, h5⟩ := gh hd
      rw [hq'] at h4
      cases h4
      refine ⟨h5, .io (gs[t]'(by omega)), ?_, rfl⟩
      unfold startO
      rw [show n + t = (ds.length + (n - 1 - ds.length + t)) + 1 from by omega, List.getElem?_cons_succ, List.getElem?_append_right (by rw [List.length_map]; omega), List.length_map, List.getElem?_append_right (by rw [List.length_replicate]; omega), List.length_replicate,
        show ds.length + (n - 1 - ds.length + t) - ds.length - (n - 1 - ds.length) = t from by omega, List.getElem?_map, hd]
      rfl
  · obtain ⟨t1, j1, q1, d1, rfl, rfl, f1, f2, f3, f4⟩ := own e1 o1
    obtain ⟨t2, j2, q2, d2, rfl, rfl, g1, g2, g3, g4⟩ := own e2 o2
    rw [w1] at f4
    rw [w2] at g4
    cases f4
    cases g4
    have := st.apart j1 j2 _ _ _ f2 g2 rfl rfl f3 g3
    subst this
    obtain ⟨z1, z2⟩ := List.getElem?_eq_some_iff.mp f1
    obtain ⟨z3, z4⟩ := List.getElem?_eq_some_iff.mp g1
    have := (List.getElem_inj (i := t1) (j := t2) nd).mp (by rw [z2, z4])
    omega
theorem obj_out {n np : Nat} {fl : List (Str × Fd)} {gs ds gs' : List D} {x : Addr} {qs : List Addr} {vs : List V} {F' H' : Hp} {a : AV} {v : V} (st : StF K mg Fr F s σ H) (h0 : s[0]? = some (.ob C fl)) (ld : ds.length = np) (lv : vs.length = np) (hn : np + 1 ≤ n) (nd : (gix fl).Nodup)
    (eg : gets s (gix fl) = some gs) (lq : qs.length = (gix fl).length) (lg' : gs'.length = gs.length) (hq : ∀ (t i : Nat), (gix fl)[t]? = some i → ∃ q, qs[t]? = some q ∧ (i, q) ∈ Fr.lt) (k : Same F F')
    (st' : StF K mg (frO Fr s σ (gix fl) H (ltO n x qs)) F' (endO C n fl gs') (sigO x vs (n - 1 - np) qs) H') (av : AVal K mg (frO Fr s σ (gix fl) H (ltO n x qs)) F' H' (endO C n fl gs') (sigO x vs (n - 1 - np) qs) a v) :
    StF K mg Fr F' (setIo s (gix fl) gs') σ H' ∧ AVal K mg Fr F' H' (setIo s (gix fl) gs') σ a v := by
  obtain ⟨lg, hg⟩ := gets_at eg
  obtain ⟨u1, u2, u3⟩ := setIo_at (js := gix fl) (ds := gs') (s := s) nd
  have en : n = 1 + vs.length + (n - 1 - np) := by omega
  -- a ghost behind the call
  have gh : ∀ {t j : Nat}, (gix fl)[t]? = some j → ∃ q d, s[j]? = some (.io (gs[t]?.getD .non)) ∧ gs'[t]? = some d ∧ (setIo s (gix fl) gs')[j]? = some (SV.io d) ∧ σ[j]? = some (some (V.ref q)) ∧ (endO C n fl gs')[n + t]? = some (SV.io d) ∧ (sigO x vs (n - 1 - np) qs)[n + t]? = some (some (V.ref q)) := fun {t j} hj => by
    have ht := lt_of_get hj
    obtain ⟨d0, h1, h2⟩ := hg t j hj
    obtain ⟨q, h3, h4⟩ := hq t j hj
    have hd : gs'[t]? = some (gs'[t]'(by omega)) := List.getElem?_eq_getElem (by omega)
    have hs := sigO_at (x := x) (vs := vs) (u := n - 1 - np) h3
    rw [← en] at hs
    refine ⟨q, _, by rw [h2]; exact h1, hd, u3 t j _ hj hd (lt_of_get h1), (st.lent _ _ h4).1, ?_, hs⟩
    unfold endO
    rw [show n + t = (n - 1 + t) + 1 from by omega, List.getElem?_cons_succ, List.getElem?_append_right (by rw [List.length_replicate]; omega), List.length_replicate, show n - 1 + t - (n - 1) = t from by omega, List.getElem?_map, hd]
    rfl
  have ghF : ∀ {t j : Nat} {q : Addr} , (gix fl)[t]? = some j → σ[j]? = some (some (V.ref q)) → F q = none ∧ Fr q = none := fun {t j q} hj hs => by
    obtain ⟨q', d, h1, _⟩ := gh hj
    obtain ⟨w, hw, p, o, rfl, y1, y2, _⟩ := st.slot j _ h1
    rw [hs] at hw
    cases hw
    exact ⟨y1, y2⟩
  have key : ∀ {i : Nat} {c : SV}, (setIo s (gix fl) gs')[i]? = some c → (i ∉ gix fl ∧ s[i]? = some c) ∨ ∃ t, (gix fl)[t]? = some i := fun {i c} e => by
    by_cases hi : i ∈ gix fl
    · obtain ⟨t, ht⟩ := List.mem_iff_getElem?.mp hi
      exact .inr ⟨t, ht⟩
    · exact .inl ⟨hi, by rw [← u2 i hi]; exact e⟩
  have old : ∀ {i : Nat} {c : SV}, (setIo s (gix fl) gs')[i]? = some c → c.own = true → ∃ b : SV, s[i]? = some b ∧ b.own = true := fun {i c} e o => by
    rcases key e with ⟨_, h⟩ | ⟨t, ht⟩
    · exact ⟨c, h, o⟩
    · obtain ⟨q, d, h1, _⟩ := gh ht
      exact ⟨_, h1, rfl⟩
  refine ⟨⟨st'.sub, fun p o e => ?_, fun p o e => ?_, by rw [u1]; exact st.len, fun i c e => ?_, fun i p hm => ?_, fun i j c c' p e1 e2 o1 o2 w1 w2 => ?_⟩, ?_⟩
  · refine st'.fr p o ?_
    rw [frO_of (.inl (by rw [e]; exact fun z => nomatch z))]
    exact st.fr p o e
  · refine st'.dis p o ?_
    rw [frO_of (.inl (by rw [e]; exact fun z => nomatch z))]
    exact st.fr p o e
  · rcases key e with ⟨hi, h⟩ | ⟨t, ht⟩
    · obtain ⟨w, hw, q⟩ := st.slot i _ h
      refine ⟨w, hw, q.mono k fun p o oc ew h1 h2 h3 => ?_⟩
      have hfr : (frO Fr s σ (gix fl) H (ltO n x qs)).hp p = some o := by
        rw [frO_of (.inr ⟨i, _, h, oc, by rw [hw, ew], hi⟩)]
        exact h3
      exact ⟨st'.dis p o hfr, st'.fr p o hfr⟩
    · obtain ⟨q, d, h1, h2, h3, h4, h5, h6⟩ := gh ht
      rw [h3] at e
      cases e
      obtain ⟨w, hw, p, o, rfl, y1, y2, y3, y4⟩ := st'.slot _ _ h5
      rw [h6] at hw
      cases hw
      exact ⟨_, h4, _, o, rfl, y1, (ghF ht h4).2, y3, y4⟩
  · obtain ⟨h1, b0, h2, h3⟩ := st.lent i p hm
    refine ⟨h1, ?_⟩
    by_cases hi : i ∈ gix fl
    · obtain ⟨t, ht⟩ := List.mem_iff_getElem?.mp hi
      obtain ⟨q, d, _, _, g3, _⟩ := gh ht
      exact ⟨_, g3, rfl⟩
    · exact ⟨b0, by rw [u2 i hi]; exact h2, h3⟩
  · obtain ⟨b, hb, ob⟩ := old e1 o1
    obtain ⟨b', hb', ob'⟩ := old e2 o2
    exact st.apart i j b b' p hb hb' ob ob' w1 w2
  · cases a with
    | fz d => exact av
    | ow d =>
      obtain ⟨p, o, rfl, h1, h2, h3, h4, h5⟩ := av
      have hnot : ¬ (Fr p ≠ none ∨ MineO s σ (gix fl) p) := fun z => by
        rw [frO_of z] at h2
        rcases z with z | ⟨i, c, y1, y2, y3, y4⟩
        · cases hp : Fr.hp p with
          | none => exact z hp
          | some o => rw [st.fr p o hp] at h2; cases h2
        · obtain ⟨p', o', d', x1, x2, x3, x4, _⟩ := own_addr st y1 y2
          rw [y3] at x1
          cases x1
          rw [x4] at h2
          cases h2
      refine ⟨p, o, rfl, h1, ?_, h3, h4, fun i c e oc hi => ?_⟩
      · cases hp : Fr.hp p with
        | none => rfl
        | some o => exact absurd (.inl (by rw [hp]; exact fun z => nomatch z)) hnot
      · rcases key e with ⟨hi', h⟩ | ⟨t, ht⟩
        · exact hnot (.inr ⟨i, _, h, oc, hi, hi'⟩)
        · obtain ⟨q, d, g1, g2, g3, g4, g5, g6⟩ := gh ht
          rw [hi] at g4
          cases g4
          exact h5 _ _ g5 rfl g6
end
section
variable {X : Cx} {o e : Expr} {es : List Expr} {rs : List Rc} {g : FnO} {p pos apos : Pos}
theorem obAt_eq {s : List SV} {C : Str} {fl : List (Str × Fd)} (h : obAt s C = some fl) : s[0]? = some (.ob C fl) := by
  unfold obAt at h
  split at h
  · rename_i B f e
    split at h
    · rename_i hb; subst hb; cases h; exact e
    · cases h
  · cases h
theorem obj_run {C m : Str} {Ca : Addr} {np n k : Nat} {σ : L2.St} {H : Hp} {Q : VK} {E : XK} (hC : X.mg C = some (.ref Ca)) (hE : allE rs = true) (hn : np + 1 ≤ n) (hnp : rs.length = np) (hk : ∀ fl gs ds r, g fl gs ds = some r → (gix fl).length = k) (h : tO X.K X.mg (xObj C m g rs) σ H Q) : tMeth Ca m (spO X.K X.mg C np n k g) [] E (tVar 0) (tRcs X.K X.mg rs) σ H Q := by
  obtain ⟨Fr, G, s, d, s', st, em, q⟩ := h
  unfold xObj at em
  split at em
  · rename_i fl0 ho
    have h0 := obAt_eq ho
    split at em
    · rename_i hm0
      split at em
      · rename_i ds s1 e1
        split at em
        · rename_i fl ho1
          have h1 := obAt_eq ho1
          split at em
          · rename_i nd
            split at em
            · rename_i gs eg
              split at em
              · rename_i a gs' eg2
                split at em
                · rename_i lg'
                  cases em
                  obtain ⟨w, hw, x, Ca', dx, ws, rfl, y2, y3, y4⟩ := st.slot 0 _ h0
                  rw [hC] at y3
                  cases y3
                  have hlk : ws.lookup m = none := by
                    have hg0 : gv fl0 m = none := by simpa using hm0
                    have nk : m ∉ ws.map (·.1) := by rw [y4.keys]; exact gv_none hg0
                    rw [List.lookup_eq_none_iff]
                    intro z hz
                    refine bne_iff_ne.mpr fun e' => ?_
                    exact nk (by rw [e']; exact List.mem_map.mpr ⟨z, hz, rfl⟩)
                  refine ⟨.ref x, hw, x, dx, ws, rfl, st.fr _ _ y2, hlk, ?_⟩
                  unfold evL at e1
                  split at e1
                  · rename_i as s1' e2
                    split at e1
                    · rename_i ds' e3
                      cases e1
                      refine preL_run st e2 fun vs F1 H1 k1 st1 pd => ?_
                      obtain ⟨lv, ld⟩ := pd.len e3
                      obtain ⟨w1, hw1, x1, Ca1, dx1, ws1, rfl, z2, z3, z4⟩ := st1.slot 0 _ h1
                      rw [hw] at hw1
                      cases hw1
                      obtain ⟨qs, lq, hq, hren⟩ := z4.ren
                      obtain ⟨lgs, _⟩ := gets_at eg
                      have hkk := hk _ _ _ _ eg2
                      have har : ∀ (t : Nat) (d : D), ds[t]? = some d → ∃ v, vs[t]? = some v ∧ Rep X.K X.mg F1 d v := fun t d hd => by
                        have ht := lt_of_get hd
                        have hr : rs[t]? = some (rs[t]'(by omega)) := List.getElem?_eq_getElem (by omega)
                        obtain ⟨a0, v, d', u1, u2, u3, u4⟩ := pd.at e3 hr
                        rw [hd] at u2
                        cases u2
                        cases hrr : rs[t]'(by omega) with
                        | e m =>
                          rw [hrr] at u3 u4
                          obtain ⟨d0, u5, u6⟩ := u3
                          subst u5
                          cases u4
                          exact ⟨v, u1, u6⟩
                        | v i =>
                          exfalso
                          have : lentIx rs = [] := allE_lent hE
                          have h' := lentIx_of (rs := rs) (k := t) (i := i) (by rw [hr, hrr])
                          rw [this] at h'
                          cases h'
                        | f i C n j =>
                          exfalso
                          have hh : ∀ {rs : List Rc} {t : Nat}, allE rs = true → rs[t]? ≠ some (Rc.f i C n j) := fun {rs} => by
                            induction rs with
                            | nil => intro t _; simp
                            | cons r rs ih => intro t h; cases r with
                              | v _ => cases h
                              | f _ _ _ _ => cases h
                              | e _ => cases t with
                                | zero => simp
                                | succ t => simpa using ih (t := t) h
                          exact hh hE (by rw [hr, hrr])
                      have ci := obj_in (n := n) (np := np) (ds := ds) (vs := vs) (qs := qs) (x := x) st1 h1 hw (by rw [ld, hnp]) (by rw [lv, hnp]) hn nd har eg lq hq fun ws' hws => by
                        obtain ⟨w2, hw2, x2, Ca2, dx2, ws2, hx2, z22, z32, z42⟩ := st1.slot 0 _ h1
                        have : ∀ {fl : List (Str × Fd)} {wa wb : List (Str × V)} {qs : List Addr}, True := fun {_ _ _ _} => trivial
                        obtain ⟨qs', lq', hq', hren'⟩ := hws.ren
                        have eqs : qs' = qs := by
                          apply List.ext_getElem?
                          intro t
                          by_cases ht : t < qs.length
                          · have hj : (gix fl)[t]? = some ((gix fl)[t]'(by omega)) := List.getElem?_eq_getElem (by omega)
                            obtain ⟨q1, v1, v2⟩ := hq t _ hj
                            obtain ⟨q2, v3, v4⟩ := hq' t _ hj
                            have e1 := (st1.lent _ _ v2).1
                            have e2 := (st1.lent _ _ v4).1
                            rw [e1] at e2
                            cases e2
                            rw [v1, v3]
                          · rw [List.getElem?_eq_none (by omega), List.getElem?_eq_none (by omega)]
                        subst eqs
                        exact hren' n _ fun t q e => ltO_mem.mpr (.inr ⟨t, rfl, e⟩)
                      rw [List.append_nil]
                      refine ⟨_, F1, fl, gs, ds, gs', d, x, qs, vs, rfl, by rw [lv, hnp], by rw [ld, hnp], by omega, by omega, by omega, hn, rfl, ci, eg2, fun v F' H' k2 st' av => ?_⟩
                      obtain ⟨r1, r2⟩ := obj_out (ds := ds) st1 h1 (by rw [ld, hnp]) (by rw [lv, hnp]) hn nd eg lq lg' hq k2 st' av
                      exact q v F' H' (k1.trans k2) r1 r2
                    · cases e1
                  · cases e1
                · cases em
              · cases em
            · cases em
          · cases em
        · cases em
      · cases em
    · cases em
  · cases em
end
end PV
namespace PV
open PySem PySem.Spec PyProof.Rows L2
theorem mObj_k {C : Str} {n np k : Nat} {m : MS} (fl : List (Str × Fd)) (gs ds : List D) (r : AV × List D) (h : mObj C n np k m fl gs ds = some r) : (gix fl).length = k := by
  unfold mObj at h
  split at h
  · rename_i hc; exact hc.2.2
  · cases h
section
variable {X : Cx} {o e : Expr} {es : List Expr} {rs : List Rc} {g : FnO} {p pos apos : Pos}
theorem wObj {C m : Str} {Ca f : Addr} {fd : FuncData} {ps : List Str} {lv np n k : Nat} {pl : Sem Bool} (ho : PE X o (tVar 0)) (hC : X.mg C = some (.ref Ca)) (c : Cls X.K Ca) (hm : Meth X.K Ca m f) (F : FnOk X.prog X.w X.K X.mg X.base CX0 lv f fd ps (spO X.K X.mg C np n k g)) (hr : Room lv X.A)
    (hb : Binds X.K fd ps []) (ha : PAr X (e :: es) rs) (hk : ∀ fl gs ds r, g fl gs ds = some r → (gix fl).length = k) (hE : allE rs = true := by rfl) (hn : np + 1 ≤ n := by decide) (hnp : rs.length = np := by rfl) (hst : starEach (e :: es) X.env = (false, eval e X.env) :: starEach es X.env := by rfl) (hpl : (backTo pos (starEach es X.env)).any (·.1) = false := by rfl)
    (ht : eval (.Call (.Attribute o m apos) (e :: es) [] pos) X.env = (do
      let ov ← eval o X.env
      standAt apos.atName
      let (f, first) ← holding [ov] (getMethod ov m pl)
      callWith pos f first (backTo pos (starEach (e :: es) X.env)) (backToKw pos (keywordEach [] X.env))) := by rfl) : PX X (.Call (.Attribute o m apos) (e :: es) [] pos) (xObj C m g rs) :=
  pe_imp (pe_meth (E := E0) (dvs := []) ho c hm F hr hb .nil pass0 ha hst hpl ht) fun σ H Q q => obj_run hC hE hn hnp hk q
end
end PV
namespace PV
open PySem
section
variable {κ α : Type} [DecidableEq κ] {k f : κ} {x : α} {r : List (κ × α)} {y : Option α}
theorem gvHit : gv ((f, x) :: r) f = some x := by unfold gv; rw [List.find?_cons, decide_eq_true rfl]; rfl
theorem gvMiss (h : decide (k = f) = false) (e : gv r f = y) : gv ((k, x) :: r) f = y := by unfold gv at e ⊢; rw [List.find?_cons]; simp only [h]; exact e
theorem gvNil : gv ([] : List (κ × α)) f = none := rfl
end
section
variable {C f : Str} {fl : List (Str × Fd)} {s s1 s2 : S} {d : D} {j : Nat} {a : SV} {m : XM} {st : MS} {A B : BM}
theorem xOwnFL (h : s[0]? = some (.ob C fl)) (hg : gv fl f = some (.d d)) : xOwnF 0 C f s = some (.fz d, s) := by
  unfold xOwnF fdD; rw [h]; simp only [if_true, hg, Option.map_some]
theorem preF (h : s[0]? = some (.ob C fl)) (hg : gv fl f = some (.j j)) (hj : s[j]? = some a) (ha : a.get = some d) : (Rc.f 0 C f j).pre s = some (none, s) := by
  have hh : (SV.ob C fl).has C f j = true := by unfold SV.has fdJ; simp only [hg, decide_true, Bool.and_self]
  show (match s[0]? with
    | some b => if b.has C f j = true then match s[j]? with
      | some a => match a.get with
        | some _ => some (none, s)
        | none => none
      | none => none
      else none
    | none => none) = _
  rw [h]; simp only [hh, if_true, hj, ha]
theorem bSq {r : Option S} (h : A s = some s1) (k : B s1 = r) : bSeq A B s = r := by unfold bSeq; rw [h]; exact k
theorem bGenL (h : st s = some (.nx, s1)) (h0 : s1[0]? = some (.ob C fl)) : bGen C st s = some s1 := by
  unfold bGen; rw [h]; simp only [h0, if_true]
theorem bFldL (h : XA m s d s1) (h0 : s1[0]? = some (.ob C fl)) (no : noOb s1.tail = true) (nk : gv fl f = none) (hl : fl.length < 900) : bFld C f m s = some (s1.set 0 (.ob C (fl ++ [(f, .d d)]))) := by
  obtain ⟨v, e, rfl⟩ := h
  unfold bFld; rw [e]; simp only [h0]
  rw [if_pos ⟨trivial, no, by rw [nk]; rfl, hl⟩]
theorem bNewL (h : m s = some (.ow d, s1)) (h0 : s1[0]? = some (.ob C fl)) (hj : s1[j]? = some .un) (no : noOb s1.tail = true) (nk : gv fl f = none) (hl : fl.length < 900) (hj0 : j ≠ 0) : bNew C f j m s = some ((s1.set j (.io d)).set 0 (.ob C (fl ++ [(f, .j j)]))) := by
  unfold bNew; rw [h]; simp only [h0, hj]
  rw [if_pos ⟨trivial, no, by rw [nk]; rfl, hl, hj0⟩]
theorem bFrzL (h0 : s[0]? = some (.ob C fl)) (hj : s[j]? = some (.io d)) (no : noOb s.tail = true) (hj0 : j ≠ 0) : bFrz C j s = some ((s.set 0 (.ob C (frzF j d fl))).set j .un) := by
  unfold bFrz; rw [h0, hj]; simp only
  rw [if_pos ⟨trivial, no, hj0⟩]
theorem mkIL {n np : Nat} {ds : List D} {fs : List (Str × D)} (hl : ds.length = np) (h : A (.ob C [] :: (ds.map SV.fz ++ List.replicate (n - (np + 1)) .un)) = some s1) (h0 : s1[0]? = some (.ob C fl)) (hf : fdAll fl = some fs) : mkI C n np A ds = some (.ins C fs) := by
  unfold mkI; rw [if_pos hl, h]; simp only [h0, if_true, hf, Option.map_some]
theorem obAtL (h : s[0]? = some (.ob C fl)) : obAt s C = some fl := by unfold obAt; rw [h]; simp only [if_true]
theorem xObjL {mm : Str} {g : FnO} {rs : List Rc} {fl0 : List (Str × Fd)} {ds gs gs' : List D} {v : AV} (h0 : s[0]? = some (.ob C fl0)) (hm : gv fl0 mm = none) (he : evL rs s = some (ds, s1)) (h1 : s1[0]? = some (.ob C fl)) (nd : (gix fl).Nodup) (hg : gets s1 (gix fl) = some gs) (hc : g fl gs ds = some (v, gs')) (hl : gs'.length = gs.length) (hs : setIo s1 (gix fl) gs' = s2) : xObj C mm g rs s = some (v, s2) := by
  unfold xObj; rw [obAtL h0]; simp only [hm, he, obAtL h1, hg, hc]
  simp only [Option.isNone_none, if_true]
  rw [if_pos nd, if_pos hl, hs]
theorem fnWO {n np k : Nat} {fl : List (Str × Fd)} {gs ds gs' : List D} {v : AV} (hl : ds.length = np) (hg : gs.length = k) (hf : (gix fl).length = k) (h : Wp st (startO C n fl gs ds) fun o s' => ((o = .rt v) ∨ (o = .nx ∧ v = .fz .non)) ∧ gets s' (rngN n gs.length) = some gs') : mObj C n np k st fl gs ds = some (v, gs') := by
  obtain ⟨o, s', e, h1, h2⟩ := h
  unfold mObj
  rw [if_pos ⟨hl, hg, hf⟩, e]
  rcases h1 with rfl | ⟨rfl, rfl⟩
  · simp only [h2]
  · simp only [h2]
end
end PV
namespace PV
open PySem PySem.Spec PyProof.Rows L2
theorem ghosts_ok {N : List Str} {sc : Scope} {n : Nat} (h : ((N.drop n).all fun y => (sc.names.lookup y).isNone) = true) : ∀ j y, n ≤ j → N[j]? = some y → ¬ Vis sc y := fun j y hj hy hv => by
  have hm : y ∈ N.drop n := by
    rw [List.mem_iff_getElem?]
    exact ⟨j - n, by rw [List.getElem?_drop, show n + (j - n) = j from by omega]; exact hy⟩
  have := List.all_eq_true.mp h y hm
  unfold Vis at hv
  cases e : sc.names.lookup y with
  | none => rw [e] at hv; rcases hv with z | z | z <;> cases z
  | some k => rw [e] at this; cases this
end PV
/-! PvA2: comprehensions over an own list, which is looked at alone. -/
namespace PV
open PySem PySem.Spec PyProof.Rows L2
end PV
/-! PvA3: further rules in short: max, min of two, written dicts, d.get. -/
namespace PV
open PySem PySem.Spec PyProof.Rows L2
end PV
/-! PvSt: what a plain function tells: it has a value, and of that value something holds. -/
namespace PV
open PySem
def Sat {α : Type} (o : Option α) (Q : α → Prop) : Prop := ∃ a, o = some a ∧ Q a
section
variable {α β : Type} {o : Option α} {f : α → Option β} {Q : α → Prop} {R : β → Prop}
theorem Sat.bnd (h : Sat o Q) (k : ∀ a, Q a → Sat (f a) R) : Sat (o.bind f) R := by
  obtain ⟨a, rfl, q⟩ := h
  exact k a q
theorem Sat.eq {a : α} (h : o = some a) (k : Sat (f a) R) : Sat (o.bind f) R := by
  subst h; exact k
theorem Sat.of {a : α} (h : Q a) : Sat (some a) Q := ⟨a, rfl, h⟩
theorem Sat.mono {Q' : α → Prop} (h : Sat o Q) (k : ∀ a, Q a → Q' a) : Sat o Q' := by
  obtain ⟨a, e, q⟩ := h
  exact ⟨a, e, k a q⟩
theorem Sat.ff {A B : Option β} (h : Sat B R) : Sat (cond false A B) R := h
theorem Sat.val {a : α} (h : Sat o fun x => x = a) : o = some a := by
  obtain ⟨b, e, rfl⟩ := h; exact e
end
section
variable {σ ρ : Type}
theorem forF_sat {F : D → σ → Option σ} (J : Nat → σ → Prop) : ∀ (ds : List D) (n : Nat) (a : σ), J n a → (∀ i d b, ds[i]? = some d → J (n + i) b → Sat (F d b) (J (n + i + 1))) → Sat (forF F ds a) (J (n + ds.length))
  | [], n, a, h, _ => ⟨a, rfl, h⟩
  | d :: ds, n, a, h, st => by
    unfold forF
    refine (st 0 d a rfl h).bnd fun b hb => ?_
    have := forF_sat J ds (n + 1) b hb fun i d c e hj => by
      have := st (i + 1) d c (by simpa using e) (by rw [show n + (i + 1) = n + 1 + i from by omega]; exact hj)
      rw [show n + (i + 1) + 1 = n + 1 + i + 1 from by omega] at this
      exact this
    rw [List.length_cons, show n + (ds.length + 1) = n + 1 + ds.length from by omega]
    exact this
theorem forF_inv {F : D → σ → Option σ} (J : Nat → σ → Prop) {ds : List D} {a : σ} (h0 : J 0 a) (st : ∀ i d b, ds[i]? = some d → J i b → Sat (F d b) (J (i + 1))) : Sat (forF F ds a) (J ds.length) := by
  have := forF_sat J ds 0 a h0 fun i d b e hj => by rw [Nat.zero_add] at hj ⊢; exact st i d b e hj
  rw [Nat.zero_add] at this
  exact this
/-- a loop that is never left by return or break -/
def Nx (J : σ → Prop) : Ex ρ σ → Prop
  | .nx b => J b
  | _ => False
theorem forX_sat {F : D → σ → Option (Ex ρ σ)} (J : Nat → σ → Prop) : ∀ (ds : List D) (n : Nat) (a : σ), J n a → (∀ i d b, ds[i]? = some d → J (n + i) b → Sat (F d b) (Nx (J (n + i + 1)))) → Sat (forX F ds a) (Nx (J (n + ds.length)))
  | [], n, a, h, _ => ⟨.nx a, rfl, h⟩
  | d :: ds, n, a, h, st => by
    unfold forX
    refine (st 0 d a rfl h).bnd fun x hb => ?_
    cases x with
    | nx b =>
      have := forX_sat J ds (n + 1) b hb fun i d c e hj => by
        have := st (i + 1) d c (by simpa using e) (by rw [show n + (i + 1) = n + 1 + i from by omega]; exact hj)
        rw [show n + (i + 1) + 1 = n + 1 + i + 1 from by omega] at this
        exact this
      rw [List.length_cons, show n + (ds.length + 1) = n + 1 + ds.length from by omega]
      exact this
    | bk b => exact hb.elim
    | rt b => exact hb.elim
theorem forX_inv {F : D → σ → Option (Ex ρ σ)} (J : Nat → σ → Prop) {ds : List D} {a : σ} (h0 : J 0 a) (st : ∀ i d b, ds[i]? = some d → J i b → Sat (F d b) (Nx (J (i + 1)))) : Sat (forX F ds a) (Nx (J ds.length)) := by
  have := forX_sat J ds 0 a h0 fun i d b e hj => by rw [Nat.zero_add] at hj ⊢; exact st i d b e hj
  rw [Nat.zero_add] at this
  exact this
theorem forX_all {F : D → σ → Option (Ex ρ σ)} (J : σ → Prop) {ds : List D} {a : σ} (h0 : J a) (st : ∀ d ∈ ds, ∀ b, J b → Sat (F d b) (Nx J)) : Sat (forX F ds a) (Nx J) :=
  forX_inv (fun _ => J) h0 fun i d b e hj => st d (List.mem_of_getElem? e) b hj
theorem exB_sat {β : Type} {o : Option (Ex ρ σ)} {J : σ → Prop} {f : σ → Option β} {g : ρ → Option β} {R : β → Prop} (h : Sat o (Nx J)) (k : ∀ b, J b → Sat (f b) R) : Sat (o.bind fun x => exB x f g) R :=
  h.bnd fun x hx => match x, hx with
    | .nx b, hb => k b hb
/-- elements without a test -/
theorem lcP_map {α : Type} {G : D → Option (Option D)} {e : α → D} {g : α → D} {xs : List α} (hl : xs.length ≤ 1000000) (h : ∀ x ∈ xs, G (e x) = some (some (g x))) : lcP G (xs.map e) = some (.lst (xs.map g)) := by
  unfold lcP
  rw [if_pos (by unfold SZ; rw [List.length_map]; omega)]
  have : ∀ xs : List α, (∀ x ∈ xs, G (e x) = some (some (g x))) → lcL_ G (xs.map e) = some (xs.map g) := fun xs => by
    induction xs with
    | nil => intro _; rfl
    | cons x xs ih =>
      intro h
      rw [List.map_cons]
      unfold lcL_
      rw [h x List.mem_cons_self, ih fun y hy => h y (List.mem_cons_of_mem _ hy)]
      rfl
  rw [this xs h]
  rfl
/-- elements that are kept by a test -/
theorem lcP_filter {α : Type} {G : D → Option (Option D)} {e g : α → D} {t : α → Bool} {xs : List α} (hl : xs.length ≤ 1000000) (h : ∀ x ∈ xs, G (e x) = some (if t x = true then some (g x) else none)) : lcP G (xs.map e) = some (.lst ((xs.filter t).map g)) := by
  unfold lcP
  rw [if_pos (by unfold SZ; rw [List.length_map]; omega)]
  have : ∀ xs : List α, (∀ x ∈ xs, G (e x) = some (if t x = true then some (g x) else none)) → lcL_ G (xs.map e) = some ((xs.filter t).map g) := fun xs => by
    induction xs with
    | nil => intro _; rfl
    | cons x xs ih =>
      intro h
      rw [List.map_cons]
      unfold lcL_
      rw [h x List.mem_cons_self, ih fun y hy => h y (List.mem_cons_of_mem _ hy)]
      cases hx : t x with
      | true => rw [List.filter_cons_of_pos hx]; rfl
      | false => rw [List.filter_cons_of_neg (by rw [hx]; exact Bool.false_ne_true)]; rfl
  rw [this xs h]
  rfl
end
end PV
namespace PV
open PySem
theorem fldL {C f : Str} {fs : List (Str × D)} {d : D} (h : gv fs f = some d) : oA (dFldC C f (.ins C fs)) = some d := by
  show oA (if C = C then (gv fs f).map AV.fz else none) = _
  rw [if_pos rfl, h]
  rfl
theorem methL {C m : Str} {fs : List (Str × D)} (h : gv fs m = none) : oM C m (.ins C fs) = some () := by
  show (if C = C ∧ (gv fs m).isNone = true then some () else none) = _
  rw [if_pos ⟨rfl, by rw [h]; rfl⟩]
end PV
/-! PvA4: list.count of texts. -/
namespace PV
open PySem PySem.Spec PyProof.Rows L2
def strsOf : List D → Option (List Str)
  | [] => some []
  | .str x :: ds => (strsOf ds).map (x :: ·)
  | _ :: _ => none
section
variable {X : Cx}
theorem strsOf_rep {K : PySem.W.Frag} {mg : Str → Option Value} {F : Hp} : ∀ {ds : List D} {L : List Str} {vs : List V}, strsOf ds = some L → Reps K mg F ds vs → vs = L.map V.str
  | [], L, vs, e, r => by cases e; unfold Reps at r; exact r
  | d :: ds, L, vs, e, r => by
    unfold Reps at r
    obtain ⟨v, w, rfl, h1, h2⟩ := r
    unfold strsOf at e
    cases d with
    | str x =>
      obtain ⟨L', e1, rfl⟩ := Option.map_eq_some_iff.mp e
      rw [strsOf_rep e1 h2, rep_str' h1]
      rfl
    | _ => cases e
variable {o e : Expr} {apos cpos : Pos} {r re : Rc}
end
end PV
/-! PvEx: statements that may raise an own exception, and what catches it. -/
namespace PV
open PySem PySem.Spec PyProof.Rows L2
/-- how a statement ends that may raise -/
inductive OutX where
  | o (o : Out) | ex (C : Str) (fs : List (Str × D))
/-! ### for -/
/-! ### defs that may raise (nothing is lent to them) -/
/-- what such a def tells: a value, or an exception -/
inductive RX where
  | v (a : AV) | ex (C : Str) (fs : List (Str × D))
section
variable {K : PySem.W.Frag} {mg : Str → Option Value} {Fr : Fx} {F G H : Hp} {s : List SV} {σ : List (Option V)}
/-- no slots at all -/
theorem StF.bare (st : StF K mg Fr F s σ H) (hl : Fr.lt = []) : StF K mg Fr F [] [] H :=
  ⟨st.sub, st.fr, st.dis, rfl, fun i a e => (nomatch (show (none : Option SV) = some a from e)), fun i p hm => (by rw [hl] at hm; cases hm), fun i j a b p e => nomatch (show (none : Option SV) = some a from e)⟩
end
/-! ### calls that may raise -/
/-! ### statements with such calls -/
/-! ### an exception that is made -/
/-! ### try .. except A: (without a name; what stands there raises nothing) -/
/-! ### (a, f(..)) where f may raise -/
end PV
/-! PvXf: plain functions that tell a value or an exception; short rules of the walk. -/
namespace PV
open PySem PySem.Spec PyProof.Rows L2
/-! ### a statement that lets nothing out -/
/-! ### an own value is frozen at once -/
/-! ### short rules -/
/-! ### plain functions that tell a value or an exception -/
inductive VX where
  | v (d : D) | ex (C : Str) (fs : List (Str × D))
def VX.r : VX → RX
  | .v d => .v (.fz d)
  | .ex C fs => .ex C fs
/-! what a statement does that may raise -/
/-! loops -/
/-- the end of a def -/
def XP : VX → OutX → S → Prop
  | .v d, o, _ => o = .o (.rt (.fz d)) ∨ (o = .o .nx ∧ d = .non)
  | .ex C fs, o, _ => o = .ex C fs
/-! a def -/
end PV
/-! PvLk: an own dict that is read for a while; comprehensions over it. -/
namespace PV
open PySem PySem.Spec PyProof.Rows L2
def SV.lockd : SV → Option D
  | .ow d => some d
  | .io d => some d
  | _ => none
def SV.back (d : D) : SV → SV
  | .io _ => .io d
  | _ => .ow d
section
variable {K : PySem.W.Frag} {mg : Str → Option Value} {Fr : Fx} {F G H : Hp} {s s1 : List SV} {σ : List (Option V)} {p : Addr} {o : HO} {d d' : D} {i : Nat} {b : SV} {od : Obj}
theorem sh_mut (h : Sh K mg F d o) : Mut (some o) := by
  cases d <;> first | exact h.elim | (obtain ⟨_, rfl, _⟩ := h; trivial)
theorem lockd_own (h : b.lockd = some d) : b.own = true ∧ b.get = some d := by
  cases b <;> first | (cases h; exact ⟨rfl, rfl⟩) | cases h
theorem StF.lock (st : StF K mg Fr G s σ H) (e : s[i]? = some b) (h : b.lockd = some d) : ∃ p o, σ[i]? = some (some (V.ref p)) ∧ H p = some o ∧ Mut (some o) ∧ Fr p = none ∧ ∀ od, StF K mg ⟨upd Fr.hp p (.frz od o), Fr.lt⟩ G (s.set i (.lk d)) σ (upd H p (.frz od o)) := by
  obtain ⟨ob, hg⟩ := lockd_own h
  obtain ⟨p, o, d0, x1, x2, x3, x4, x5, x6⟩ := own_addr st e ob
  rw [hg] at x5
  cases x5
  refine ⟨p, o, x1, x4, sh_mut x6, x3, fun od => ?_⟩
  have hi := lt_of_get e
  refine ⟨fun c u q => ?_, fun c u q => ?_, fun c u q => ?_, by rw [List.length_set]; exact st.len, fun j a ej => ?_, fun j q hm => ?_, fun j k a c q e1 e2 o1 o2 w1 w2 => ?_⟩
  · rw [upd_ne (ne_of_none q x2)]; exact st.sub c u q
  · have q : upd Fr.hp p (.frz od o) c = some u := q
    by_cases hc : c = p
    · rw [hc, upd_same] at q ⊢; exact q
    · rw [upd_ne hc] at q ⊢; exact st.fr c u q
  · have q : upd Fr.hp p (.frz od o) c = some u := q
    by_cases hc : c = p
    · rw [hc]; exact x2
    · rw [upd_ne hc] at q; exact st.dis c u q
  · by_cases hj : i = j
    · subst hj
      rw [List.getElem?_set_self hi] at ej
      cases ej
      exact ⟨_, x1, p, od, o, rfl, upd_same, x6⟩
    · rw [List.getElem?_set_ne hj] at ej
      obtain ⟨w, hw, q⟩ := st.slot j a ej
      refine ⟨w, hw, ?_⟩
      have go : ∀ c u, w = some (V.ref c) → a.own = true → Fr c = none → H c = some u → upd Fr.hp p (.frz od o) c = none ∧ upd H p (.frz od o) c = some u := fun c u ew ha h2 h3 => by
        have ne : c ≠ p := fun z => hj (st.apart i j b a p e ej ob ha x1 (by rw [hw, ew, z]))
        rw [upd_ne ne, upd_ne ne]
        exact ⟨h2, h3⟩
      cases a with
      | un => trivial
      | fz d => exact q
      | ow d => obtain ⟨c, u, e3, h1, h2, h3, h4⟩ := q; obtain ⟨g1, g2⟩ := go c u e3 rfl h2 h3; exact ⟨c, u, e3, h1, g1, g2, h4⟩
      | io d => obtain ⟨c, u, e3, h1, h2, h3, h4⟩ := q; obtain ⟨g1, g2⟩ := go c u e3 rfl h2 h3; exact ⟨c, u, e3, h1, g1, g2, h4⟩
      | ob C fl => exact ObF.mono q (Same.refl _) (fun x C dx ws e => (upd_ne (ne_of_none e x3)).trans e) fun _ z => z
      | lk d => exact LkF.mono q (Same.refl _) fun x od' u e => (upd_ne (ne_of_none e x3)).trans e
  · obtain ⟨g1, a, g2, g3⟩ := st.lent j q hm
    refine ⟨g1, ?_⟩
    by_cases hj : i = j
    · subst hj; exact ⟨_, List.getElem?_set_self hi, rfl⟩
    · exact ⟨a, by rw [List.getElem?_set_ne hj]; exact g2, g3⟩
  · by_cases hj : i = j
    · subst hj; rw [List.getElem?_set_self hi] at e1; cases e1; cases o1
    · by_cases hk : i = k
      · subst hk; rw [List.getElem?_set_self hi] at e2; cases e2; cases o2
      · rw [List.getElem?_set_ne hj] at e1
        rw [List.getElem?_set_ne hk] at e2
        exact st.apart j k a c q e1 e2 o1 o2 w1 w2
end
/-! ### comprehensions over a dict that is only read -/
/-! ### a, b = x, y -/
theorem asg2 {i j : Nat} {ds : List D} {s s2 : S} (h : asgT (.tp [.nm i, .nm j]) (.tup ds) s = some s2) : ∃ d1 d2 s1, ds = [d1, d2] ∧ put i (.fz d1) s = some s1 ∧ put j (.fz d2) s1 = some s2 := by
  unfold asgT at h
  match ds, h with
  | [], h => unfold asgTs at h; cases h
  | [a], h =>
    unfold asgTs at h
    split at h
    · unfold asgTs at h; cases h
    · cases h
  | [a, b], h =>
    unfold asgTs at h
    split at h
    · rename_i s1 e1
      unfold asgTs at h
      split at h
      · rename_i s3 e3
        unfold asgTs at h
        cases h
        unfold asgT at e1 e3
        exact ⟨a, b, s1, rfl, e1, e3⟩
      · cases h
    · cases h
  | a :: b :: c :: ds, h =>
    unfold asgTs at h
    split at h
    · unfold asgTs at h
      split at h
      · unfold asgTs at h; cases h
      · cases h
    · cases h
theorem sPar {X : Cx} {i j : Nat} {x y : Str} {a b : Expr} {rs : List Rc} {px py pt pos : Pos} {kt k2 : Nat} {pt2 : Pos} (hN : X.N.Nodup) (ha : PAr X [a, b] rs) (hij : i ≠ j) (hE : allE rs = true := by rfl) (hc : X.calm = true := by rfl) (hi : X.N[i]? = some x := by rfl) (hj : X.N[j]? = some y := by rfl)
    (hx : X.env.scope.names.lookup x = some .local := by rfl) (hy : X.env.scope.names.lookup y = some .local := by rfl) (hw : swappedStores [.Tuple [.Name x px, .Name y py] kt pt] (.Tuple [a, b] k2 pt2) X.env = pure (some [x, y]) := by rfl)
    (hs : swapsWithSole [.Tuple [.Name x px, .Name y py] kt pt] (.Tuple [a, b] k2 pt2) pos.line X.env = pure false := by rfl) :
    PSt X (.Assign [.Tuple [.Name x px, .Name y py] kt pt] (.Tuple [a, b] k2 pt2) pos) (mAsgT (.tp [.nm i, .nm j]) (xL dTup rs)) := ps_imp (ps_par hc hN hi hj hij hx hy ha hw hs) fun D σ H q => by
  obtain ⟨Fr, G, s, o, s', st, em, q⟩ := q
  unfold mAsgT at em
  split at em
  · rename_i v s1 e1
    split at em
    · rename_i s2 e2
      cases em
      unfold xL at e1
      split at e1
      · rename_i ds s3 e3
        unfold dTup at e1
        cases e1
        unfold evL at e3
        split at e3
        · rename_i as s4 e4
          split at e3
          · rename_i ds' e5
            cases e3
            refine preL_run st e4 fun vs F1 H1 k1 st1 pd => ?_
            have rr := pd.reps hE e5
            obtain ⟨d1, d2, s5, rfl, p1, p2⟩ := asg2 e2
            unfold Reps at rr
            obtain ⟨v1, r1, rfl, q1, rr⟩ := rr
            unfold Reps at rr
            obtain ⟨v2, r2, rfl, q2, rr⟩ := rr
            unfold Reps at rr
            subst rr
            exact ⟨v1, v2, rfl, q _ F1 H1 k1 (put_run (put_run st1 (av_fz q1) p1) (av_fz q2) p2)⟩
          · cases e3
        · cases e3
      · cases e1
    · cases em
  · cases em
end PV
/-! PvRd: an own list that is read for a while as a frozen one, and may be changed again. -/
namespace PV
open PySem PySem.Spec PyProof.Rows L2
/-! by data -/
end PV
/-! PvAs: try .. except A as e (further clauses behind it are never reached), where the suite sets a tuple of texts and e's fields. -/
namespace L2
open PySem PySem.Spec PyProof.Rows
end L2
namespace PV
open PySem PySem.Spec PyProof.Rows L2
/-! by data -/
end PV
/-! PvRp: repr of data (where the caller's own call is all that is under way), abs; a law's def, called by the claim's own caller. -/
namespace PV
open PySem PySem.Spec PyProof.Rows L2
mutual
/-- what a text of data shows -/
def toR : D → PyData
  | .non => .none
  | .bl b => .bool b
  | .int i => .int i
  | .str x => .str x
  | .lst xs => .list (toRL xs)
  | .tup xs => .tuple (toRL xs)
  | .dK kvs => .dict (toRK kvs)
  | .dT _ => .dict []
  | .ins _ _ => .dict []
  | .scr _ => .dict []
  | .ctp _ => .dict []
def toRL : List D → List PyData
  | [] => []
  | x :: xs => toR x :: toRL xs
def toRK : List (Key × D) → List (PyData × PyData)
  | [] => []
  | (k, d) :: r => (match k with | .inl i => .int i | .inr x => .str x, toR d) :: toRK r
end
/-! the rules -/
end PV
/-! PvTop: a law's def, called by the claim's own caller (no call of repr is under way). -/
namespace L2
open PySem PySem.Spec PyProof.Rows
/-- a def's promise where the claim's caller calls it -/
structure LawAt (P : Program) (w : World) (K : PySem.W.Frag) (mg : Str → Option Value) (base : Heap) (f : Addr) (fd : FuncData) (ps : List Str) (sp : Sp) : Prop where
  len : ∀ vs H Q E, sp vs H Q E → vs.length = ps.length
  run : ∀ (s : Shared) (H : Hp) (args : Args) (us : List Value) (vs : List V) (Q : VK) (E : XK), Env0 P w K mg base callerA [] s H → BindsTo s fd args (ps.zip us) → Vals vs us → sp vs H Q E →
    codeAny (model P w) callerA (.call (.ref f) args) (CR CX0 [] P w H s Q E) s
theorem LawAt.imp {P : Program} {w : World} {K : PySem.W.Frag} {mg : Str → Option Value} {base : Heap} {f : Addr} {fd : FuncData} {ps : List Str} {sp sp' : Sp} (F : LawAt P w K mg base f fd ps sp) (h : ∀ vs H Q E, sp' vs H Q E → sp vs H Q E) : LawAt P w K mg base f fd ps sp' :=
  ⟨fun vs H Q E q => F.len vs H Q E (h _ _ _ _ q), fun s H args us vs Q E e0 hb hv hs => F.run s H args us vs Q E e0 hb hv (h _ _ _ _ hs)⟩
end L2
namespace PV
open PySem PySem.Spec PyProof.Rows L2
end PV
/-! PvTe: != and == of pairs (a text, a dict) that are equal. -/
namespace PySem.SeqAt
open PySem.W
open AutoSeq1 (wpAny_loadPart')
open MeetsSeq MeetsSeq2 MeetsSeq3 SeqRoads2
end PySem.SeqAt
namespace PV
open PySem PySem.Spec PyProof.Rows L2
/-! ### slots forgotten, in one walk over the state -/
def killA (n : Nat) : List Nat → S → Option S
  | [], s => some s
  | _ :: _, [] => none
  | i :: is, a :: s => if i = n then (if a.pin = true then none else (killA (n + 1) is s).map (SV.un :: ·)) else (killA (n + 1) (i :: is) s).map (a :: ·)
theorem killA_pre : ∀ {s : S} {n : Nat} {is : List Nat} {s1 : S} (pre : S), pre.length = n → killA n is s = some s1 → killL is (pre ++ s) = some (pre ++ s1)
  | s, n, [], s1, pre, _, h => by
    unfold killA at h
    cases h
    rfl
  | [], n, i :: is, s1, pre, _, h => by unfold killA at h; cases h
  | a :: s, n, i :: is, s1, pre, hp, h => by
    unfold killA at h
    split at h
    · rename_i hi
      split at h
      · cases h
      · rename_i ha
        obtain ⟨t, e, rfl⟩ := Option.map_eq_some_iff.mp h
        have ih := killA_pre (pre ++ [.un]) (by rw [List.length_append, hp]; rfl) e
        unfold killL
        have e1 : (pre ++ a :: s)[i]? = some a := by
          rw [List.getElem?_append_right (by omega), hi, ← hp, Nat.sub_self]
          rfl
        have e2 : (pre ++ a :: s).set i .un = pre ++ .un :: s := by
          rw [List.set_append_right _ _ (by omega), hi, ← hp, Nat.sub_self]
          rfl
        rw [e1]
        simp only
        rw [if_neg ha, e2]
        rw [List.append_assoc, List.append_assoc] at ih
        exact ih
    · obtain ⟨t, e, rfl⟩ := Option.map_eq_some_iff.mp h
      have ih := killA_pre (pre ++ [a]) (by rw [List.length_append, hp]; rfl) e
      rw [List.append_assoc, List.append_assoc] at ih
      exact ih
theorem killA_ok {s : S} {is : List Nat} {s1 : S} (h : killA 0 is s = some s1) : killL is s = some s1 := killA_pre [] rfl h
end PV
/-! PvTf: a, b = f(..), g(..) where both may raise; try whose handler leaves the def. -/
namespace PV
open PySem PySem.Spec PyProof.Rows L2
end PV
/-! PvDp: sorted texts, an own dict's pop, deep in. -/
namespace PV
open PySem L2
/-! ### texts in order -/
theorem str_of_cps {a b : Str} (h : a.cps.toList = b.cps.toList) : a = b := by
  obtain ⟨⟨a⟩⟩ := a
  obtain ⟨⟨b⟩⟩ := b
  have h : a = b := h
  rw [h]
def strsO : List D → Option (List Str)
  | [] => some []
  | .str x :: ds => (strsO ds).map (x :: ·)
  | _ => none
theorem strsO_map : ∀ (xs : List Str), strsO (xs.map .str) = some xs
  | [] => rfl
  | x :: xs => by rw [List.map_cons]; show (strsO (xs.map .str)).map (x :: ·) = _; rw [strsO_map xs]; rfl
/-! ### d.pop(k) of an own dict -/
def dropD (kvs : List (Key × D)) (k : Key) : List (Key × D) := kvs.filter fun kv => decide (kv.1 ≠ k)
section
variable {K : PySem.W.Frag} {mg : Str → Option Value} {F : Hp}
theorem RepK.drop {k : Key} : ∀ {ds : List (Key × D)} {vs : List (Key × V)}, RepK K mg F ds vs → RepK K mg F (dropD ds k) (dropK vs k)
  | [], vs, h => by unfold RepK at h; subst h; exact repk_nil
  | (k0, d0) :: ds, vs, h => by
    unfold RepK at h
    obtain ⟨v', r, rfl, h1, h⟩ := h
    unfold dropD dropK
    by_cases e : k0 = k
    · rw [List.filter_cons_of_neg (by simpa using e), List.filter_cons_of_neg (by simpa using e)]
      exact RepK.drop h
    · rw [List.filter_cons_of_pos (by simpa using e), List.filter_cons_of_pos (by simpa using e)]
      exact repk_cons h1 (RepK.drop h)
end
end PV
/-! PvOw: an object is made of which one own field is kept alone: C(..).f as an own thing. -/
namespace PV
open PySem PySem.Spec PyProof.Rows L2
/-! by data -/
end PV
/-! PvNt: a list of two new lists, looked at, and changed within, for a few statements. -/
namespace PV
open PySem PySem.Spec PyProof.Rows L2
end PV
/-! PvDt: dict(..) of pairs whose keys are tuples. -/
namespace L2
open PySem PySem.Spec PyProof.Rows PySem.W
end L2
namespace PV
open PySem PySem.Spec PyProof.Rows L2
end PV
/-! PvAi: isinstance of a caught exception with fields; two clauses with names. -/
namespace PySem.W
open PySem PySem.Spec PySem.Calls PyProof.Rows
end PySem.W
namespace L2
open PySem PySem.Spec PyProof.Rows
end L2
namespace L2
open PySem PySem.Spec PyProof.Rows
end L2
namespace L2
open PySem PySem.Spec PyProof.Rows
end L2
namespace PV
open PySem PySem.Spec PyProof.Rows L2
/-! suites -/
end PV
/-! PvSb: how many truth values a list has (len(set(..))); x is False. -/
namespace PpSet
open PySem PySem.Spec PyProof.Rows L2
end PpSet
namespace L2
open PySem PySem.Spec PyProof.Rows PpSet
end L2
namespace PV
open PySem PySem.Spec PyProof.Rows L2 PpSet
end PV
/-! PvAj: classes told by name; tries with named clauses, by data. -/
namespace L2
open PySem PySem.Spec PyProof.Rows
end L2
namespace PV
open PySem PySem.Spec PyProof.Rows L2
end PV
/-! PvBx: a class whose __init__ begins with a call that may raise. -/
namespace PV
open PySem PySem.Spec PyProof.Rows L2
/-! ### the class's call -/
/-! ### repr of anything that can be shown -/
end PV
/-! PvCs: the law's script and a list put together. -/
namespace PV
open PySem PySem.Spec PyProof.Rows L2
end PV
/-! PvSr: sorted lists of any plain data, a text's place in a list. -/
namespace PV
open PySem PySem.Spec PyProof.Rows L2
/-! ### plain data in order -/
def leD (a b : D) : Bool := PySem.W.dataLe false toR a b
def tup1 : D → Bool
  | .tup (_ :: _) => true
  | _ => false
def nonTup : D → Bool
  | .non => false
  | .tup _ => false
  | _ => true
def okD (ds : List D) : Bool := ds.all (fun d => pln 50 d) && ds.all (fun d => ds.all fun e => PySem.W.alike (toR d) (toR e)) && (ds.all tup1 || ds.all nonTup)
def dSortedG : D → Option AV
  | .lst ds => if okD ds = true ∧ ds.length ≤ SZ then some (.ow (.lst (ds.mergeSort leD))) else none
  | _ => none
mutual
theorem pln_depth : ∀ (n : Nat) (d : D), pln n d = true → (toR d).depth ≤ n
  | n, .non, _ => by unfold toR; simp only [PyData.depth]; exact Nat.zero_le _
  | n, .bl b, _ => by unfold toR; simp only [PyData.depth]; exact Nat.zero_le _
  | n, .int b, _ => by unfold toR; simp only [PyData.depth]; exact Nat.zero_le _
  | n, .str b, _ => by unfold toR; simp only [PyData.depth]; exact Nat.zero_le _
  | n + 1, .lst xs, h => by
    unfold pln at h
    have := plnL_depth n xs h
    unfold toR; simp only [PyData.depth]; omega
  | n + 1, .tup xs, h => by
    unfold pln at h
    have := plnL_depth n xs h
    unfold toR; simp only [PyData.depth]; omega
  | 0, .lst xs, h => by unfold pln at h; cases h
  | 0, .tup xs, h => by unfold pln at h; cases h
  | n, .dK _, h => by cases n <;> (unfold pln at h; cases h)
  | n, .dT _, h => by cases n <;> (unfold pln at h; cases h)
  | n, .ins _ _, h => by cases n <;> (unfold pln at h; cases h)
  | n, .scr _, h => by cases n <;> (unfold pln at h; cases h)
  | n, .ctp _, h => by cases n <;> (unfold pln at h; cases h)
theorem plnL_depth : ∀ (n : Nat) (ds : List D), plnL n ds = true → PyData.depthAll (toRL ds) ≤ n
  | n, [], _ => by unfold toRL; simp only [PyData.depthAll]; exact Nat.zero_le _
  | n, d :: ds, h => by
    unfold plnL at h
    rw [Bool.and_eq_true] at h
    have h1 := pln_depth n d h.1
    have h2 := plnL_depth n ds h.2
    unfold toRL; simp only [PyData.depthAll]; omega
end
section
variable {X : Cx} {pins : List (Addr × Obj)} {σ : L2.St} {F H : Hp} {s : Shared}
mutual
theorem pln_reads (I : Inv X pins σ H s) (e : Same F H) : ∀ (n : Nat) (d : D) (v : V) (u : Value), pln n d = true → Rep X.K X.mg F d v → RelV v u → ∃ as, Reads s.heap u (toR d) as
  | _, .non, v, u, _, r, rv => by
    rw [rep_non' r] at rv
    cases rv
    exact ⟨[], by unfold toR; exact Reads.none⟩
  | _, .bl b, v, u, _, r, rv => by
    rw [rep_bl' r] at rv
    cases rv
    exact ⟨[], by unfold toR; exact Reads.bool b⟩
  | _, .int i, v, u, _, r, rv => by
    rw [rep_int' r] at rv
    obtain ⟨t, rfl⟩ := rv
    exact ⟨[], by unfold toR; exact Reads.int i t⟩
  | _, .str x, v, u, _, r, rv => by
    rw [rep_str' r] at rv
    obtain ⟨t, rfl⟩ := rv
    exact ⟨[], by unfold toR; exact Reads.str x t⟩
  | n + 1, .lst xs, v, u, ok, r, rv => by
    unfold Rep at r
    obtain ⟨a, vs, rfl, q, r⟩ := r
    cases rv
    unfold pln at ok
    obtain ⟨its, rv, ⟨o, m, ho, hc, _, hd⟩, _⟩ := I.list (.inl (rd_mono e q))
    obtain ⟨as, h⟩ := plnL_reads I e n xs vs its ok r rv
    exact ⟨_, by unfold toR; exact Reads.list ho hc hd h⟩
  | n + 1, .tup xs, v, u, ok, r, rv => by
    unfold Rep at r
    obtain ⟨a, vs, rfl, q, r⟩ := r
    cases rv
    unfold pln at ok
    obtain ⟨its, rv, ⟨o, ho, hc, m, hd⟩, _⟩ := I.tuple (.inl (.inl (e _ _ q)))
    obtain ⟨as, h⟩ := plnL_reads I e n xs vs its ok r rv
    exact ⟨_, by unfold toR; exact Reads.tuple ho hc hd h⟩
  | 0, .lst xs, v, u, ok, _, _ => by unfold pln at ok; cases ok
  | 0, .tup xs, v, u, ok, _, _ => by unfold pln at ok; cases ok
  | n, .dK _, v, u, ok, _, _ => by cases n <;> (unfold pln at ok; cases ok)
  | n, .dT _, v, u, ok, _, _ => by cases n <;> (unfold pln at ok; cases ok)
  | n, .ins _ _, v, u, ok, _, _ => by cases n <;> (unfold pln at ok; cases ok)
  | n, .scr _, v, u, ok, _, _ => by cases n <;> (unfold pln at ok; cases ok)
  | n, .ctp _, v, u, ok, _, _ => by cases n <;> (unfold pln at ok; cases ok)
theorem plnL_reads (I : Inv X pins σ H s) (e : Same F H) : ∀ (n : Nat) (ds : List D) (vs : List V) (us : List Value), plnL n ds = true → Reps X.K X.mg F ds vs → Vals vs us → ∃ as, ReadsAll s.heap us (toRL ds) as
  | _, [], vs, us, _, r, rv => by
    unfold Reps at r
    subst r
    cases rv
    exact ⟨[], by unfold toRL; exact .nil⟩
  | n, d :: ds, vs, us, ok, r, rv => by
    unfold Reps at r
    obtain ⟨v, w, rfl, h1, h2⟩ := r
    unfold plnL at ok
    rw [Bool.and_eq_true] at ok
    cases rv with
    | cons r1 r2 =>
      obtain ⟨as, q1⟩ := pln_reads I e n d _ _ ok.1 h1 r1
      obtain ⟨bs, q2⟩ := plnL_reads I e n ds _ _ ok.2 h2 r2
      exact ⟨_, by unfold toRL; exact .cons q1 q2⟩
end
open PySem.W in
theorem each_reps : ∀ {ds : List D} {vs : List V} {us : List Value}, Reps X.K X.mg F ds vs → Vals vs us → EachIs (fun u d => ∃ v, RelV v u ∧ Rep X.K X.mg F d v) us ds
  | [], vs, us, r, rv => by
    unfold Reps at r
    subst r
    cases rv
    exact .nil
  | d :: ds, vs, us, r, rv => by
    unfold Reps at r
    obtain ⟨v, w, rfl, h1, h2⟩ := r
    cases rv with
    | cons r1 r2 => exact .cons ⟨v, r1, h1⟩ (each_reps h2 r2)
open PySem.W in
theorem reps_each : ∀ {ds : List D} {us : List Value}, EachIs (fun u d => ∃ v, RelV v u ∧ Rep X.K X.mg F d v) us ds → ∃ vs, Vals vs us ∧ Reps X.K X.mg F ds vs
  | _, _, .nil => ⟨[], .nil, by unfold Reps; rfl⟩
  | _, _, .cons ⟨v, r1, h1⟩ t => by
    obtain ⟨vs, r2, h2⟩ := reps_each t
    exact ⟨v :: vs, .cons r1 r2, by unfold Reps; exact ⟨v, vs, rfl, h1, h2⟩⟩
end
section
variable {X : Cx}
def rSortG (X : Cx) : List V → Hp → VK → Prop := fun vs H Q => ∃ (F : Hp) (ds : List D) (a : Addr) (us : List V), vs = [.ref a] ∧ Same F H ∧ Rd H a (.lst us) ∧ Reps X.K X.mg F ds us ∧ okD ds = true ∧ ds.length ≤ SZ ∧
  ∀ out p, Reps X.K X.mg F (ds.mergeSort leD) out → H p = none → Q (.ref p) (upd H p (.lst out))
open PySem.W in
theorem cr_sortG (hu : X.A.units + 64 < cLine) : CallR X (.builtin "sorted") (rSortG X) := fun pins s σ H vs us Q I rv h => by
  obtain ⟨F, ds, a, ws, rfl, sm, rd, rr, ok, hz, q⟩ := h
  obtain ⟨its, rv2, hl, hz2⟩ := I.list (.inl rd)
  rw [Vals.ref1 rv]
  unfold okD at ok
  rw [Bool.and_eq_true, Bool.and_eq_true, List.all_eq_true, List.all_eq_true] at ok
  have lz := rr.len
  have E := each_reps rr rv2
  have ER : EachIs (fun v b => ∃ as, Reads s.heap v (toR b) as) its ds := (each_mem E).mono fun v d ⟨⟨u, r1, r2⟩, hd⟩ => pln_reads I sm 50 d u v (ok.1.1 d hd) r2 r1
  refine sorted_data (β := D) (enc := toR) hl.isList E ER (fun d hd d' hd' => ?_) ?_ (by rw [← sz_line]; exact hz) (fun b hb => ?_) fun out h1 h2 => ?_
  · obtain ⟨b, hb, rfl⟩ := List.mem_map.mp hd
    obtain ⟨b', hb', rfl⟩ := List.mem_map.mp hd'
    exact List.all_eq_true.mp (ok.1.2 b hb) b' hb'
  · have ok2 := ok.2
    rw [Bool.or_eq_true, List.all_eq_true, List.all_eq_true] at ok2
    rcases ok2 with h | h
    · refine .inl fun d hd => ?_
      obtain ⟨b, hb, rfl⟩ := List.mem_map.mp hd
      have := h b hb
      unfold tup1 at this
      split at this
      · exact ⟨_, _, by unfold toR toRL; rfl⟩
      · cases this
    · refine .inr fun d hd => ?_
      obtain ⟨b, hb, rfl⟩ := List.mem_map.mp hd
      have := h b hb
      cases b <;> first | (cases this; done) | (unfold toR; exact ⟨(fun z => nomatch z), (fun xs z => nomatch z)⟩)
  · have := pln_depth 50 b (ok.1.1 b hb)
    omega
  · obtain ⟨outV, v1, v2⟩ := reps_each h2
    obtain ⟨ep, he'⟩ := sortedAll_at s.heap its out.toArray
    have hlen : outV.length ≤ sizeLine := by
      have e1 := v1.length
      rw [e1, h1, ← sz_line]
      exact hz
    exact ⟨.ref _, upd H (s.heap.objs.size + 1) (.lst outV), I.laid (t' := s.toks) (fun _ _ => sortedAll_old) (Nat.le_succ _) ⟨hlen, out, ep, v1, he'⟩, rfl, q outV _ v2 (I.hok.fresh (Nat.le_succ _))⟩
theorem opc_sortG : OpC X dSortedG (rSortG X) := by
  intro Fr F H s σ a c x st e vx Q q
  unfold dSortedG at e
  split at e
  · split at e
    · rename_i ds h
      cases e
      obtain ⟨l, vs, rfl, hl, r⟩ := vw_lst st.sub vx
      exact ⟨F, ds, l, vs, rfl, st.sub, hl, r, h.1, h.2, fun out p ro hp => new_lst st ro q p hp⟩
    · cases e
  · cases e
theorem wSortedG {p pos : Pos} {e : Expr} {ra : Rc} (hm : X.mg "sorted" = none) (hu : X.A.units + 64 < cLine) (ha : PRc X e ra) (hg : Gl X "sorted" := by rfl) (he : starEach [e] X.env = [(false, eval e X.env)] := by rfl) :
    PX X (.Call (.Name "sorted" p) [e] [] pos) (x1 dSortedG ra) := px_callB (cr_sortG hu) opc_sortG hg hm (by decide +kernel) ha he (by decide +kernel) (by decide +kernel)
end
/-! ### a text's place in a list -/
def dIdx : D → D → Option AV
  | .lst ds, .str k => (strsOf ds).bind fun L => if k ∈ L then some (fi (L.idxOf k : Nat)) else none
  | _, _ => none
def xIdx (d k : Rc) : XM := fun s => match d.pre s with
  | some (a, s1) => match d.fin a s1 with
    | some (.lst _) => match k.pre s1 with
      | some (b, s2) => match d.fin a s2, k.fin b s2 with
        | some d1, some k1 => (dIdx d1 k1).map fun w => (w, s2)
        | _, _ => none
      | none => none
    | _ => none
  | none => none
def rIdxT (K : PySem.W.Frag) : V → List V → Hp → VK → Prop := fun x xs H Q => ∃ (p : Addr) (ns : List Str) (k : Str), x = .ref p ∧ xs = [.str k] ∧ SqL K H p (ns.map V.str) ∧ k ∈ ns ∧ Q (.int (ns.idxOf k : Nat)) H
theorem idx_le {α : Type} [BEq α] [LawfulBEq α] : ∀ {l : List α} {m : Nat} {y : α}, l[m]? = some y → l.idxOf y ≤ m
  | [], m, y, h => by simp at h
  | x :: l, 0, y, h => by
    cases h
    rw [List.idxOf_cons_self]
    exact Nat.le_refl _
  | x :: l, m + 1, y, h => by
    rw [List.idxOf_cons]
    have := idx_le (l := l) (m := m) (y := y) (by simpa using h)
    cases x == y with
    | true => exact Nat.zero_le _
    | false => exact Nat.succ_le_succ this
theorem flat_strs : ∀ ns : List Str, (ns.map V.str).all flatV = true
  | [] => rfl
  | n :: ns => by rw [List.map_cons, List.all_cons, flat_strs ns]; rfl
section
variable {X : Cx}
theorem mt_idxT : MtR X "list.index" (rIdxT X.K) := fun pins s σ H x xs v us Q I rx rxs h => by
  obtain ⟨p, ns, k, rfl, rfl, hs, hk, q⟩ := h
  have hl : ns.idxOf k < ns.length := List.idxOf_lt_length_of_mem hk
  have hg : ns[ns.idxOf k]? = some k := by
    rw [List.getElem?_eq_getElem hl]
    exact congrArg some (List.getElem_idxOf hl)
  refine mt_index pins s σ H _ _ v us Q I rx rxs ⟨p, ns.map V.str, .str k, ns.idxOf k, .str k, rfl, rfl, hs, rfl, flat_strs ns, by rw [List.getElem?_map, hg]; rfl, ?_, fun m z hm hz => ?_, q⟩
  · show (k == k) = true
    exact beq_self_eq_true k
  · rw [List.getElem?_map] at hz
    obtain ⟨y, hy, rfl⟩ := Option.map_eq_some_iff.mp hz
    show (y == k) = false
    rw [beq_eq_false_iff_ne]
    intro e
    subst e
    have := idx_le hy
    omega
variable {o e : Expr} {apos cpos : Pos} {r re : Rc}
theorem wIdx (ho : PRc X o r) (he : PRc X e re) (hbase : attributeBase o "index" X.env (eval o X.env) = eval o X.env := by rfl) (hfew : ((backTo cpos (starEach [e] X.env)).all (fun x => !x.1) && (backToKw cpos (keywordEach [] X.env)).all (fun x => x.1.isSome)
      && decide (([e] : List Expr).length + ([] : List Keyword).length + (if ([] : List Keyword).isEmpty then 0 else 1) < 30)) = true := by rfl)
    (hline : (apos.endLine == cpos.line) = true := by rfl) (hs : starEach [e] X.env = (false, eval e X.env) :: starEach [] X.env := by rfl) (hplain : (backTo cpos (starEach [] X.env)).any (·.1) = false := by rfl) :
    PX X (.Call (.Attribute o "index" apos) [e] [] cpos) (xIdx r re) := by
  refine pe_imp (pe_bm (r := rIdxT X.K) F.plainAttrs_list F.slot_list_index F.type_list_index mt_idxT ho (pa_cons he pa_nil hs) hbase hfew hline hs hplain) fun σ H Q q => ?_
  obtain ⟨Fr, G, s, d, s', st, em, q⟩ := q
  unfold xIdx at em
  split at em
  · rename_i a s1 e1
    split at em
    · rename_i ds0 f1
      split at em
      · rename_i b s2 e2
        split at em
        · rename_i d1 k1 g1 g2
          obtain ⟨z, e5, e6⟩ := Option.map_eq_some_iff.mp em
          cases e6
          refine pre_run st e1 fun v F1 H1 q1 st1 pd => ?_
          obtain ⟨l0, vs0, rfl, rd0, _⟩ := vw_lst st1.sub (pd.view st1 f1)
          refine ⟨tLst_ok rd0, pre_run st1 e2 fun w F2 H2 q2 st2 pk => ?_⟩
          have v1 := (pd.mono q2).view st2 g1
          have v2 := pk.view st2 g2
          unfold dIdx at e5
          split at e5
          · rename_i ds k
            obtain ⟨L, e7, e8⟩ := Option.bind_eq_some_iff.mp e5
            split at e8
            · rename_i hk
              cases e8
              obtain ⟨l, vs, ev, rd, rr⟩ := vw_lst st2.sub v1
              rw [vw_str v2]
              refine ⟨l, L, k, ev, rfl, .inl ?_, hk, q _ F2 H2 (q1.trans q2) st2 (av_fz rep_int)⟩
              rw [← strsOf_rep e7 rr]
              exact rd
            · cases e8
          · cases e5
        · cases em
      · cases em
    · cases em
  · cases em
end
section
variable {r q : Rc} {s s1 s2 : S} {o p : Option D} {ds : List D} {a b e : D}
theorem xIdxL (ha : r.pre s = some (o, s1)) (fa : r.fin o s1 = some (.lst ds)) (hb : q.pre s1 = some (p, s2)) (f1 : r.fin o s2 = some a) (f2 : q.fin p s2 = some b) (e1 : oA (dIdx a b) = some e) : XA (xIdx r q) s e s2 := by
  obtain ⟨v, ev, rfl⟩ := Option.map_eq_some_iff.mp e1
  refine ⟨v, ?_, rfl⟩
  unfold xIdx; rw [ha]; simp only [fa, hb, f1, f2, ev, Option.map_some]
end
end PV
namespace Wk
open PySem PV
def m__law_cell_at : MS := (mSeq (mIfS (PV.tB (x2 dLt (.v 1) (.e (x1 dLen (.v 0))))) (mRet (x2 dIx (.v 0) (.v 1))) mSkip) (mRet (xC (.int 0))))
def f__law_cell_at : Fn := mFun [false, false] 2 m__law_cell_at
def m__law_source_of : MS := (mSeq (mAsg 0 (xIf (PV.tB (x2 dGe (.v 0) (.e (xC (.int 0))))) (xV 0) (x2 dSub (.e (x2 dSub (.e (xC (.int 0))) (.e (x2 dMul (.e (xC (.int 3))) (.v 0))))) (.e (xC (.int 1)))))) (mRet (xL dLst [(.e (x2 dMul (.v 0) (.e (x1 dInt (.e (x2 dGe (.v 0) (.e (x2 dPow (.e (xC (.int 10))) (.e (xC (.int 18))))))))))), (.e (x2 dMod (.v 0) (.e (xC (.int 2147483647))))), (.e (xC (.int 0)))])))
def f__law_source_of : Fn := mFun [false] 1 m__law_source_of
def m__law_next : MS := (mSeq (mIfS (PV.tB (x2 dGt (.e (x2 dIx (.v 0) (.e (xC (.int 0))))) (.e (xC (.int 0))))) (mSeq (mAsg 2 (x2 dMod (.e (x2 dIx (.v 0) (.e (xC (.int 0))))) (.v 1))) (mSeq (mPut (.v 0) (x2 dDiv (.e (x2 dIx (.v 0) (.e (xC (.int 0))))) (.v 1)) (.e (xC (.int 0)))) (mRet (xMove 2)))) mSkip) (mSeq (mPut (.v 0) (x2 dAdd (.e (x2 dIx (.v 0) (.e (xC (.int 2))))) (.e (xC (.int 1)))) (.e (xC (.int 2)))) (mSeq (mAsg 3 (xC (.int 2147483647))) (mSeq (mAsg 4 (x2 dMod (.e (x2 dAdd (.e (x2 dAdd (.e (x2 dIx (.v 0) (.e (xC (.int 1))))) (.e (x2 dMul (.e (xC (.int 104729))) (.e (x2 dIx (.v 0) (.e (xC (.int 2))))))))) (.e (xC (.int 7919))))) (.v 3))) (mSeq (mAsg 4 (x2 dMod (.e (x2 dMul (.v 4) (.e (xC (.int 48271))))) (.v 3))) (mSeq (mAsg 4 (x2 dMod (.e (x2 dMul (.v 4) (.e (x2 dAdd (.e (x2 dDiv (.v 4) (.e (xC (.int 1009))))) (.e (xC (.int 69621))))))) (.v 3))) (mSeq (mAsg 4 (x2 dMod (.e (x2 dMul (.v 4) (.e (x2 dAdd (.e (x2 dDiv (.v 4) (.e (xC (.int 2003))))) (.e (xC (.int 40692))))))) (.e (xC (.int 2147483399))))) (mRet (x2 dMod (.e (x2 dDiv (.v 4) (.e (xC (.int 7))))) (.v 1))))))))))
def f__law_next : Fn := mFun [true, false] 5 m__law_next
def m__law_mixed_1 : MS := (mDrop (chgR (.v 3) cApp (.e (chgR (.v 2) cPopAt (.e (xCall f__law_next [(.v 0), (.e (x1 dLen (.v 2)))]))))))
def m__law_mixed : MS := (mSeq (mAsg 2 (x1 dList (.v 1))) (mSeq (mAsg 3 (xL dLst [])) (mSeq (mWhile (PV.tB (x2 dNe (.v 2) (.e (xL dLst [])))) m__law_mixed_1) (mRet (xMove 3)))))
def f__law_mixed : Fn := mFun [true, false] 4 m__law_mixed
def m__law_one : MS := (mRet (x2 dIx (.v 1) (.e (xCall f__law_next [(.v 0), (.e (x1 dLen (.v 1)))]))))
def f__law_one : Fn := mFun [true, false] 2 m__law_one
def m__law_twelve_1 : MS := (mSeq (mAsg 6 (xCall f__law_one [(.v 0), (.e (xCall f__law_one [(.v 0), (.e (xL dLst [(.e (xV 1)), (.e (xSl (.v 1) (some (xV 3)) none)), (.e (xSl (.v 1) (some (xV 3)) (some (x2 dAdd (.v 3) (.e (xC (.int 2))))))), (.e (xSl (.v 1) (some (x1 dNeg (.e (xC (.int 2))))) none))]))]))])) (mPut (.v 4) (xCall f__law_one [(.v 0), (.e (xL dLst [(.e (xC (.int 1))), (.e (xC (.int 1))), (.e (xC (.int 1))), (.e (xC (.int 2))), (.e (xC (.int 99))), (.e (x2 dAdd (.e (xC (.int 1))) (.e (xCall f__law_next [(.v 0), (.e (xC (.int 99)))]))))]))]) (.v 6)))
def m__law_twelve_2 : MS := (mSeq (mAsg 4 dNewK) (mSeq (mFor (sRange1 (.e (xCall f__law_one [(.v 0), (.e (xL dLst [(.e (xC (.int 0))), (.e (xC (.int 1))), (.e (xC (.int 1))), (.e (xC (.int 2))), (.e (xC (.int 3)))]))]))) (.nm 5) m__law_twelve_1) (mDrop (chgR (.v 2) cApp (.e (xL dTup [(.e (x2 dIx (.v 1) (.v 3))), (.e (xIf (PV.tB (x2 dNe (.v 4) (.e dNewK))) (xV 4) (xC .non)))]))))))
def m__law_twelve : MS := (mSeq (mAsg 1 (xCall f__law_mixed [(.v 0), (.e (xL dLst [(.e (xC (.str "a"))), (.e (xC (.str "ab"))), (.e (xC (.str "b"))), (.e (xC (.str "ba"))), (.e (xC (.str "oats"))), (.e (xC (.str "rye"))), (.e (xC (.str "x"))), (.e (xC (.str "xx"))), (.e (xC (.str "zzzzzzzz"))), (.e (xC (.str "sheaf"))), (.e (xC (.str "none"))), (.e (xC (.str "true")))]))])) (mSeq (mAsg 1 (xSl (.v 1) none (some (x2 dAdd (.e (xC (.int 1))) (.e (xCall f__law_next [(.v 0), (.e (xC (.int 12)))])))))) (mSeq (mAsg 2 (xL dLst [])) (mSeq (mFor (sRange1 (.e (x1 dLen (.v 1)))) (.nm 3) m__law_twelve_2) (mRet (xCall f__law_mixed [(.v 0), (.e (xV 2))]))))))
def f__law_twelve : Fn := mFun [true] 7 m__law_twelve
def m_is_row : MS := (mRet (x1 (dIsa ["list", "tuple"]) (.v 0)))
def f_is_row : Fn := mFun [false] 1 m_is_row
def m_is_name : MS := (mRet (xAnd (x1 (dIsa ["str"]) (.v 0)) (xAnd (xChain dLe dLe (.e (xC (.int 1))) (.e (x1 dLen (.v 0))) (.e (xC (.int 8)))) (x1 dAll (.e (xLc [1] (sIt (xV 0)) (.nm 1) PV.tYes (x2 dIn (.v 1) (.e (xC (.str "abcdefghijklmnopqrstuvwxyz"))))))))))
def f_is_name : Fn := mFun [false] 2 m_is_name
def m_row_amiss : MS := (mSeq (mIfS (PV.tOr (PV.tNot (tTru (x1 (dIsa ["tuple"]) (.v 0)))) (PV.tB (x2 dNe (.e (x1 dLen (.v 0))) (.e (xC (.int 2)))))) (mRet (xC (.str "row"))) mSkip) (mSeq (mIfS (PV.tNot (tTru (xCall f_is_name [(.e (x2 dIx (.v 0) (.e (xC (.int 0)))))]))) (mRet (xC (.str "kind"))) mSkip) (mRet (xIf (PV.tB (x2 dIn (.e (x2 dIx (.v 0) (.e (xC (.int 0))))) (.v 1))) (xC (.str "again")) (xC (.str ""))))))
def f_row_amiss : Fn := mFun [false, true] 2 m_row_amiss
def m_is_whole : MS := (mRet (xAnd (x1 (dIsa ["int"]) (.v 0)) (xAnd (xNot (x1 (dIsa ["bool"]) (.v 0))) (x2 dGe (.v 0) (.v 1)))))
def f_is_whole : Fn := mFun [false, false] 2 m_is_whole
def m_look_heap_1 : MS := (mSeq (mIfS (PV.tNot (tTru (xCall f_is_name [(.e (xV 1))]))) mNever mSkip) (mIfS (PV.tNot (tTru (xCall f_is_whole [(.e (xV 2)), (.e (xC (.int 1)))]))) mNever mSkip))
def m_look_heap : MS := (mSeq (mIfS (PV.tNot (tTru (x1 (dIsa ["dict"]) (.v 0)))) mNever mSkip) (mFor (sItems (xV 0)) (.tp [(.nm 1), (.nm 2)]) m_look_heap_1))
def f_look_heap : Fn := mFun [false] 3 m_look_heap
def m_is_heap : MS := (mSeq (mDrop (xCall f_look_heap [(.e (xV 0))])) (mRet (xC (.bl true))))
def f_is_heap : Fn := mFun [false] 1 m_is_heap
def m_law_amiss : MS := (mSeq (mIfS (PV.tB (x1 dIsN (.v 0))) (mRet (xC (.str ""))) mSkip) (mSeq (mIfS (PV.tOr (PV.tNot (tTru (xCall f_is_heap [(.e (xV 0))]))) (PV.tB (x2 dEq (.v 0) (.e dNewK)))) (mRet (xC (.str "rule"))) mSkip) (mSeq (mIfS (PV.tNot (tTru (x1 dAll (.e (xLc [2] (sIt (xV 0)) (.nm 2) PV.tYes (x2 dIn (.v 2) (.v 1))))))) (mRet (xC (.str "unknown"))) mSkip) (mRet (xIf (PV.tB (x2 dGt (.e (x1 dMax (.e (x1 dValsL (.v 0))))) (.e (xC (.int 99))))) (xC (.str "many")) (xC (.str "")))))))
def f_law_amiss : Fn := mFun [false, false] 3 m_law_amiss
def m_look_rows_1 : MS := (mSeq (mAsg 4 (xCall f_row_amiss [(.e (xV 3)), (.v 1)])) (mSeq (mIfS (PV.tB (x2 dNe (.v 4) (.e (xC (.str ""))))) mNever mSkip) (mDrop (chgR (.v 1) cApp (.e (x2 dIx (.v 3) (.e (xC (.int 0)))))))))
def m_look_rows_2 : MS := (mSeq (mAsg 4 (xCall f_law_amiss [(.e (xV 6)), (.e (xV 1))])) (mIfS (PV.tB (x2 dNe (.v 4) (.e (xC (.str ""))))) mNever mSkip))
def m_look_rows : MS := (mSeq (mIfS (PV.tOr (PV.tNot (tTru (xCall f_is_row [(.e (xV 0))]))) (PV.tNot (PV.tB (xChain dLe dLe (.e (xC (.int 1))) (.e (x1 dLen (.v 0))) (.e (xC (.int 12))))))) mNever mSkip) (mSeq (mAsg 1 (xL dLst [])) (mSeq (mFor (sEnum (xV 0)) (.tp [(.nm 2), (.nm 3)]) m_look_rows_1) (mFor (sEnum (xV 0)) (.tp [(.nm 2), (.tp [(.nm 5), (.nm 6)])]) m_look_rows_2))))
def f_look_rows : Fn := mFun [false] 7 m_look_rows
def m_Book_init_1 : MS := (mPut (.f 0 "Book" "laws" 7) (xIf (PV.tB (x1 dIsN (.v 3))) (xC .non) (xDc [6] (sIt (xOwnF 0 "Book" "order")) (.nm 6) (PV.tB (x2 dIn (.v 6) (.v 3))) (xV 6) (x2 dIx (.v 3) (.v 6)))) (.v 2))
def m_Book_init : BM := (bSeq (bGen "Book" (mDrop (xCall f_look_rows [(.e (xV 1))]))) (bSeq (bFld "Book" "order" (xDc [4, 5] (sEnum (xV 1)) (.tp [(.nm 4), (.nm 5)]) PV.tYes (x2 dIx (.v 5) (.e (xC (.int 0)))) (xV 4))) (bSeq (bNew "Book" "laws" 7 dNewK) (bSeq (bSeq (bGen "Book" (mFor (sIt (xV 1)) (.tp [(.nm 2), (.nm 3)]) m_Book_init_1)) (bFrz "Book" 7)) (bSeq (bFld "Book" "rows" (x1 dTuple (.e (xLc [2, 3] (sItems (xOwnF 0 "Book" "laws")) (.tp [(.nm 2), (.nm 3)]) PV.tYes (xL dTup [(.e (xV 2)), (.e (xIf (PV.tB (x1 dIsN (.v 3))) (xC .non) (x1 dItemsT (.v 3))))]))))) bNil)))))
def g_Book : List D → Option D := mkI "Book" 8 1 m_Book_init
def m__law_heap_2_1 : MS := (mSeq (mAsg 4 (xCall f__law_one [(.v 0), (.e (xL dLst [(.e (xC (.int 1))), (.e (xC (.int 1))), (.e (xC (.int 2))), (.e (xC (.int 3))), (.e (x2 dAdd (.e (xC (.int 1))) (.e (xCall f__law_next [(.v 0), (.e (xC (.int 9)))])))), (.e (x2 dAdd (.e (x2 dPow (.e (xC (.int 10))) (.e (xC (.int 29))))) (.e (xCall f__law_next [(.v 0), (.e (xC (.int 9)))]))))]))])) (mPut (.v 2) (xV 4) (.e (x2 dIx (.e (xCall f__law_one [(.v 0), (.e (xV 1))])) (.e (xC (.int 0)))))))
def m__law_heap_2 : MS := (mSeq (mAsg 2 dNewK) (mSeq (mFor (sRange1 (.e (xCall f__law_one [(.v 0), (.e (xL dLst [(.e (xC (.int 0))), (.e (xC (.int 1))), (.e (xC (.int 1))), (.e (xC (.int 2))), (.e (xC (.int 3)))]))]))) (.nm 3) m__law_heap_2_1) (mRet (xMove 2))))
def f__law_heap_2 : Fn := mFun [true, false] 5 m__law_heap_2
def m_Book_has : MS := (mRet (xAnd (xCall f_is_name [(.e (xV 1))]) (x2 dIn (.v 1) (.e (x1 (dFldC "Book" "order") (.v 0))))))
def f_Book_has : Fn := mFun [false, false] 2 m_Book_has
def m_look_in_1 : MS := (mSeq (mIfS (PV.tNot (tTru (xMeth "Book" "has" f_Book_has (xV 0) [(.e (xV 2))]))) mNever mSkip) (mIfS (PV.tNot (tTru (xCall f_is_whole [(.e (xV 3)), (.e (xC (.int 1)))]))) mNever mSkip))
def m_look_in : MS := (mSeq (mIfS (PV.tNot (tTru (x1 (dIsa ["dict"]) (.v 1)))) mNever mSkip) (mFor (sItems (xV 1)) (.tp [(.nm 2), (.nm 3)]) m_look_in_1))
def f_look_in : Fn := mFun [false, false] 4 m_look_in
def m_kinds_from_1 : MS := (mIfS (PV.tB (x2 dNotIn (.v 4) (.v 2))) (mSeq (mPut (.v 2) (xC (.bl true)) (.v 4)) (mDrop (chgR (.v 3) cApp (.e (xV 4))))) mSkip)
def m_kinds_from_2 : MS := (mFor (sIt (xOrT (x2 dIx (.e (x1 (dFldC "Book" "laws") (.v 0))) (.e (chg0 (.v 3) cPop))) dNewK)) (.nm 4) m_kinds_from_1)
def m_kinds_from : MS := (mSeq (mAsg 2 (xDc [5] (sIt (xV 1)) (.nm 5) PV.tYes (xV 5) (xC (.bl true)))) (mSeq (mAsg 3 (x1 dList (.v 2))) (mSeq (mWhile (PV.tB (x2 dNe (.v 3) (.e (xL dLst [])))) m_kinds_from_2) (mRet (xLc [5] (sIt (x1 (dFldC "Book" "order") (.v 0))) (.nm 5) (PV.tB (x2 dIn (.v 5) (.v 2))) (xV 5))))))
def f_kinds_from : Fn := mFun [false, false] 6 m_kinds_from
def m_reached : MS := (mSeq (mDrop (xCall f_look_in [(.e (xV 0)), (.e (xV 1))])) (mRet (xCall f_kinds_from [(.e (xV 0)), (.e (xV 1))])))
def f_reached : Fn := mFun [false, false] 2 m_reached
def m_Web_lots_from : MS := (mSeq (mAsg 2 (xFr (xCall f_kinds_from [(.e (x1 (dFldC "Web" "book") (.v 0))), (.e (xV 1))]))) (mRet (xLc [3, 4] (sIt (x1 (dFldC "Web" "lots") (.v 0))) (.tp [(.nm 3), (.nm 4)]) (PV.tB (x2 dIn (.e (x2 dIx (.v 3) (.e (xC (.int 0))))) (.v 2))) (xV 3))))
def f_Web_lots_from : Fn := mFun [false, false] 5 m_Web_lots_from
def m_things_of : MS := (mSeq (mAsg 3 (xFr (xOrT (x2 dIx (.e (x1 (dFldC "Book" "laws") (.v 0))) (.v 1)) dNewK))) (mRet (xFr (x1 dSum (.e (xLc [4, 5] (sItems (xV 3)) (.tp [(.nm 4), (.nm 5)]) (PV.tB (x2 dIn (.v 4) (.v 2))) (xV 5)))))))
def f_things_of : Fn := mFun [false, false, false] 6 m_things_of
def m_Web_look_at_1 : MS := (mSeq (mPut (.f 0 "Web" "lot_of" 7) (xV 2) (.v 5)) (mKill [5]))
def m_Web_look_at : MS := (mSeq (mAsg 2 (xFr (x1 dTuple (.e (xLc [5] (sIt (x2 dIx (.e (xOwnF 0 "Web" "reach")) (.v 1))) (.nm 5) (PV.tB (x2 dIn (.v 1) (.e (x2 dIx (.e (xOwnF 0 "Web" "reach")) (.v 5))))) (xV 5)))))) (mSeq (mAsg 3 (xFr (x1 dMax (.e (xLc [5] (sIt (xV 2)) (.nm 5) PV.tYes (xCall f_things_of [(.e (xOwnF 0 "Web" "book")), (.e (xV 5)), (.e (xV 2))])))))) (mSeq (mIfS (PV.tB (x2 dEq (.v 3) (.e (xC (.int 0))))) (mSeq (mPut (.f 0 "Web" "lot_of" 7) (xC .non) (.v 1)) mRetN) mSkip) (mSeq (mAsg 4 (xFr (xIf (PV.tB (x2 dGt (.v 3) (.e (xC (.int 1))))) (xC (.str "grows")) (xC (.str "ring"))))) (mSeq (mDrop (chgR (.f 0 "Web" "lots" 6) cApp (.e (xL dTup [(.e (xV 2)), (.e (xV 4))])))) (mSeq (mPut (.f 0 "Web" "word_of" 8) (xV 4) (.v 2)) (mSeq (mFor (sIt (xV 2)) (.nm 5) m_Web_look_at_1) (mPut (.f 0 "Web" "below" 9) (xLc [5] (sIt (x2 dIx (.e (xOwnF 0 "Web" "reach")) (.v 1))) (.nm 5) (PV.tOr (PV.tB (x2 dEq (.v 4) (.e (xC (.str "grows"))))) (PV.tB (x2 dNotIn (.v 5) (.v 2)))) (xV 5)) (.v 2)))))))))
def f_Web_look_at : FnO := mObj "Web" 6 1 4 m_Web_look_at
def m_Web_init_1 : MS := (mSeq (mIfS (PV.tB (x2 dNotIn (.v 2) (.f 0 "Web" "lot_of" 4))) (mDrop (xObj "Web" "look_at" f_Web_look_at [(.e (xV 2))])) mSkip) (mKill [2]))
def m_Web_init : BM := (bSeq (bFld "Web" "book" (xV 1)) (bSeq (bFld "Web" "reach" (xDc [2] (sIt (x1 (dFldC "Book" "order") (.v 1))) (.nm 2) PV.tYes (xV 2) (xCall f_kinds_from [(.e (xV 1)), (.e (xL dLst [(.e (xV 2))]))]))) (bSeq (bNew "Web" "lots" 3 (xL dLst [])) (bSeq (bNew "Web" "lot_of" 4 dNewK) (bSeq (bNew "Web" "word_of" 5 dNewT) (bSeq (bNew "Web" "below" 6 dNewT) (bSeq (bSeq (bSeq (bSeq (bSeq (bGen "Web" (mFor (sIt (x1 (dFldC "Book" "order") (.v 1))) (.nm 2) m_Web_init_1)) (bFrz "Web" 3)) (bFrz "Web" 4)) (bFrz "Web" 5)) (bFrz "Web" 6)) bNil)))))))
def g_Web : List D → Option D := mkI "Web" 7 1 m_Web_init
def m_comes : MS := (mSeq (mDrop (xCall f_look_in [(.e (xV 0)), (.e (xV 1))])) (mRet (xMeth "Web" "lots_from" f_Web_lots_from (xMake g_Web [(.e (xV 0))]) [(.e (xV 1))])))
def f_comes : Fn := mFun [false, false] 2 m_comes
def m_Web_upper_from : MS := (mSeq (mAsg 2 (xFr (xMeth "Web" "lots_from" f_Web_lots_from (xV 0) [(.e (xV 1))]))) (mRet (xLc [3] (sIt (xV 2)) (.nm 3) (PV.tNot (tTru (x1 dAny (.e (xLc [4] (sIt (xV 2)) (.nm 4) (PV.tB (x2 dNe (.v 4) (.v 3))) (x2 dIn (.e (x2 dIx (.v 3) (.e (xC (.int 0))))) (.e (x2 dIx (.e (x1 (dFldC "Web" "reach") (.v 0))) (.e (x2 dIx (.v 4) (.e (xC (.int 0))))))))))))) (xV 3))))
def f_Web_upper_from : Fn := mFun [false, false] 5 m_Web_upper_from
def m_upper : MS := (mSeq (mDrop (xCall f_look_in [(.e (xV 0)), (.e (xV 1))])) (mRet (xMeth "Web" "upper_from" f_Web_upper_from (xMake g_Web [(.e (xV 0))]) [(.e (xV 1))])))
def f_upper : Fn := mFun [false, false] 2 m_upper
def m_lots : MS := (mRet (xFr (x1 (dFldC "Web" "lots") (.e (xMake g_Web [(.e (xV 0))])))))
def f_lots : Fn := mFun [false] 1 m_lots
end Wk
namespace Wk
open PySem PV
theorem source_ok (c : Int) : ∃ a b : Int, f__law_source_of [.int c] = some (.ow (.lst [.int a, .int b, .int 0]), [.non]) := by
  unfold f__law_source_of mFun m__law_source_of
  by_cases h : 0 ≤ c
  · by_cases g : (1000000000000000000 : Int) ≤ c <;>
    simp [h, g, svs, mSeq, mIfS, mAsg, mRet, PV.tB, x1, x2, xL, xIf, ev1, ev2, evL, preL, finL, Rc.pre, Rc.fin, xC, xV, xMove, xF, SV.get, put, SV.pin, AV.sv, AV.d, dGe, dSub, dMul, dMod, dPow, dInt, dLst, fi, fb, outsOf, SV.re]
  · by_cases g : (1000000000000000000 : Int) ≤ -(3 * c) - 1 <;>
    simp [h, g, svs, mSeq, mIfS, mAsg, mRet, PV.tB, x1, x2, xL, xIf, ev1, ev2, evL, preL, finL, Rc.pre, Rc.fin, xC, xV, xMove, xF, SV.get, put, SV.pin, AV.sv, AV.d, dGe, dSub, dMul, dMod, dPow, dInt, dLst, fi, fb, outsOf, SV.re]
theorem lgs : lg 1009 < 9000 ∧ lg 2003 < 9000 ∧ lg 7 < 9000 := by decide +kernel
theorem next_ok (a b c n : Int) (hn : 0 < n) (hl : lg n < 9000) : ∃ r a' b' c' : Int, f__law_next [.lst [.int a, .int b, .int c], .int n] = some (.fz (.int r), [.lst [.int a', .int b', .int c'], .non]) ∧ 0 ≤ r ∧ r < n := by
  obtain ⟨l1, l2, l3⟩ := lgs
  by_cases h : 0 < a
  · refine ⟨a % n, a / n, b, c, ?_, Int.emod_nonneg _ (by omega), Int.emod_lt_of_pos _ hn⟩
    unfold f__law_next mFun m__law_next
    simp [h, hn, hl, svs, mSeq, mIfS, mAsg, mRet, mPut, Rc.tgt, chg, cPut, PV.tB, x1, x2, xL, xIf, ev1, ev2, evL, preL, finL, Rc.pre, Rc.fin, xC, xV, xMove, xF, SV.get, put, SV.pin, AV.sv, AV.d, dGt, dSub, dMul, dMod, dDiv, dIx, ixAt, dLst, fi, fb, outsOf, SV.re]
  · have p1 : ∀ x : Int, -18446744073709551616 < x % 2147483647 ∧ x % 2147483647 < 18446744073709551616 := fun x => by have := Int.emod_nonneg x (b := 2147483647) (by omega); have := Int.emod_lt_of_pos x (b := 2147483647) (by omega); omega
    refine ⟨(((((b + 104729 * (c + 1) + 7919) % 2147483647) * 48271 % 2147483647) * ((((b + 104729 * (c + 1) + 7919) % 2147483647) * 48271 % 2147483647) / 1009 + 69621) % 2147483647) * (((((b + 104729 * (c + 1) + 7919) % 2147483647) * 48271 % 2147483647) * ((((b + 104729 * (c + 1) + 7919) % 2147483647) * 48271 % 2147483647) / 1009 + 69621) % 2147483647) / 2003 + 40692) % 2147483399) / 7 % n, a, b, c + 1, ?_, Int.emod_nonneg _ (by omega), Int.emod_lt_of_pos _ hn⟩
    unfold f__law_next mFun m__law_next
    simp [h, hn, hl, l1, l2, l3, p1, svs, mSeq, mIfS, mAsg, mRet, mPut, Rc.tgt, chg, cPut, PV.tB, x1, x2, xL, xIf, mSkip, ev1, ev2, evL, preL, finL, Rc.pre, Rc.fin, xC, xV, xMove, xF, SV.get, put, SV.pin, AV.sv, AV.d, dGt, dAdd, dSub, dMul, dMod, dDiv, dIx, ixAt, dLst, fi, fb, outsOf, SV.re]
def Src (d : D) : Prop := ∃ a b c : Int, d = .lst [.int a, .int b, .int c]
theorem next_src {d : D} {n : Int} (h : Src d) (hn : 0 < n) (hl : lg n < 9000) : ∃ r d', f__law_next [d, .int n] = some (.fz (.int r), [d', .non]) ∧ Src d' ∧ 0 ≤ r ∧ r < n := by
  obtain ⟨a, b, c, rfl⟩ := h
  obtain ⟨r, a', b', c', e, h1, h2⟩ := next_ok a b c n hn hl
  exact ⟨r, _, e, ⟨a', b', c', rfl⟩, h1, h2⟩
theorem lg_le {n : Nat} (h : n ≤ 1000) : lg (n : Int) < 9000 := by
  unfold lg
  have : ((n : Int).natAbs).log2 ≤ n := by
    rw [Int.natAbs_natCast]
    exact Nat.log2_le_self n
  omega
theorem one_src {d : D} {xs : List D} (h : Src d) (h0 : xs ≠ []) (hl : xs.length ≤ 1000) : ∃ x d', f__law_one [d, .lst xs] = some (.fz x, [d', .non]) ∧ Src d' ∧ x ∈ xs := by
  have hp : 0 < xs.length := List.length_pos_iff.mpr h0
  obtain ⟨r, d', e, h1, h2, h3⟩ := next_src (n := (xs.length : Int)) h (by omega) (lg_le hl)
  have hr : r.toNat < xs.length := by omega
  refine ⟨xs[r.toNat], d', ?_, h1, List.getElem_mem hr⟩
  unfold f__law_one mFun m__law_one
  simp [svs, mSeq, mIfS, mAsg, mRet, mDrop, mPut, mSkip, mNever, Rc.tgt, chg, chgR, chg0, cPut, cApp, cPop, cPopAt, cExt, PV.tB, tTru, dTru, PV.tNot, PV.tAnd, PV.tOr, x1, x2, xL, xIf, xCall, upds, ev1, ev2, evL, preL, finL, Rc.pre, Rc.fin, xC, xV, xMove, xF, SV.get, put, SV.pin, AV.sv, AV.d, dGt, dLt, dLe, dGe, dAdd, dSub, dNe, dEq, dEqB, dLen, dList, dIx, ixAt, dLst, dTup, fi, fb, outsOf, SV.re, e, h2, List.getElem?_eq_getElem hr]
theorem erase_perm {α : Type} : ∀ {l : List α} {i : Nat} (h : i < l.length), (l[i] :: l.eraseIdx i).Perm l
  | [], i, h => absurd h (Nat.not_lt_zero _)
  | a :: l, 0, h => List.Perm.refl _
  | a :: l, i + 1, h => (List.Perm.swap a _ _).trans (List.Perm.cons a (erase_perm (l := l) (Nat.lt_of_succ_lt_succ h)))
theorem mixed_loop (q : D) : ∀ (n k : Nat) (d : D) (left found : List D), Src d → left.length = n → n < k → left.length + found.length ≤ 1000 → ∃ ys d', Src d' ∧ ys.Perm left ∧
    whileL (PV.tB (x2 dNe (.v 2) (.e (xL dLst [])))) m__law_mixed_1 k [.io d, .fz q, .ow (.lst left), .ow (.lst found)] = some (.nx, [.io d', .fz q, .ow (.lst []), .ow (.lst (found ++ ys))])
  | 0, k + 1, d, left, found, hd, hl, hk, hz => by
    have : left = [] := List.length_eq_zero_iff.mp hl
    subst this
    refine ⟨[], d, hd, List.Perm.refl _, ?_⟩
    unfold whileL
    simp [svs, mSeq, mIfS, mAsg, mRet, mDrop, mPut, mSkip, mNever, Rc.tgt, chg, chgR, chg0, cPut, cApp, cPop, cPopAt, cExt, PV.tB, tTru, dTru, PV.tNot, PV.tAnd, PV.tOr, x1, x2, xL, xIf, xCall, upds, ev1, ev2, evL, preL, finL, Rc.pre, Rc.fin, xC, xV, xMove, xF, SV.get, put, SV.pin, AV.sv, AV.d, dGt, dLt, dLe, dGe, dAdd, dSub, dNe, dEq, dEqB, dLen, dList, dIx, ixAt, dLst, dTup, fi, fb, outsOf, SV.re, pln, plnL, eqv, eqvL]
  | n + 1, k + 1, d, left, found, hd, hl, hk, hz => by
    obtain ⟨r, d1, e, h1, h2, h3⟩ := next_src (n := (left.length : Int)) hd (by omega) (lg_le (by omega))
    have hr : r.toNat < left.length := by omega
    have hs : found.length < 16777216 := by omega
    have h63 : r < 9223372036854775808 := by omega
    have hne : ¬ (left.length = 0) := by omega
    have hne2 : left ≠ [] := by intro z; rw [z] at hne; exact hne rfl
    obtain ⟨ys, d', g1, g2, g3⟩ := mixed_loop q n k d1 (left.eraseIdx r.toNat) (found ++ [left[r.toNat]]) h1 (by rw [List.length_eraseIdx_of_lt hr]; omega) (by omega) (by rw [List.length_eraseIdx_of_lt hr, List.length_append, List.length_singleton]; omega)
    refine ⟨left[r.toNat] :: ys, d', g1, (List.Perm.cons _ g2).trans (erase_perm hr), ?_⟩
    unfold whileL
    have body : m__law_mixed_1 [.io d, .fz q, .ow (.lst left), .ow (.lst found)] = some (.nx, [.io d1, .fz q, .ow (.lst (left.eraseIdx r.toNat)), .ow (.lst (found ++ [left[r.toNat]]))]) := by
      unfold m__law_mixed_1
      simp [svs, mSeq, mIfS, mAsg, mRet, mDrop, mPut, mSkip, mNever, Rc.tgt, chg, chgR, chg0, cPut, cApp, cPop, cPopAt, cExt, PV.tB, tTru, dTru, PV.tNot, PV.tAnd, PV.tOr, x1, x2, xL, xIf, xCall, upds, ev1, ev2, evL, preL, finL, Rc.pre, Rc.fin, xC, xV, xMove, xF, SV.get, put, SV.pin, AV.sv, AV.d, dGt, dLt, dLe, dGe, dAdd, dSub, dNe, dEq, dEqB, dLen, dList, dIx, ixAt, dLst, dTup, fi, fb, outsOf, SV.re, e, h2, h63, hs, SZ, List.getElem?_eq_getElem hr]
    have test : PV.tB (x2 dNe (.v 2) (.e (xL dLst []))) [.io d, .fz q, .ow (.lst left), .ow (.lst found)] = some (true, [.io d, .fz q, .ow (.lst left), .ow (.lst found)]) := by
      simp [svs, mSeq, mIfS, mAsg, mRet, mDrop, mPut, mSkip, mNever, Rc.tgt, chg, chgR, chg0, cPut, cApp, cPop, cPopAt, cExt, PV.tB, tTru, dTru, PV.tNot, PV.tAnd, PV.tOr, x1, x2, xL, xIf, xCall, upds, ev1, ev2, evL, preL, finL, Rc.pre, Rc.fin, xC, xV, xMove, xF, SV.get, put, SV.pin, AV.sv, AV.d, dGt, dLt, dLe, dGe, dAdd, dSub, dNe, dEq, dEqB, dLen, dList, dIx, ixAt, dLst, dTup, fi, fb, outsOf, SV.re, hne2]
    rw [test]
    simp only [body, g3, List.append_assoc, List.singleton_append]
theorem mixed_src {d : D} {xs : List D} (h : Src d) (hl : xs.length ≤ 900) : ∃ ys d', f__law_mixed [d, .lst xs] = some (.ow (.lst ys), [d', .non]) ∧ Src d' ∧ ys.Perm xs := by
  obtain ⟨ys, d', g1, g2, g3⟩ := mixed_loop (.lst xs) xs.length 1000000 d xs [] h rfl (by omega) (by rw [List.length_nil]; omega)
  refine ⟨ys, d', ?_, g1, g2⟩
  unfold f__law_mixed mFun m__law_mixed
  have e : mWhile (PV.tB (x2 dNe (.v 2) (.e (xL dLst [])))) m__law_mixed_1 [.io d, .fz (.lst xs), .ow (.lst xs), .ow (.lst [])] = some (.nx, [.io d', .fz (.lst xs), .ow (.lst []), .ow (.lst ys)]) := by
    unfold mWhile
    rw [g3, List.nil_append]
  simp [svs, mSeq, mIfS, mAsg, mRet, mDrop, mPut, mSkip, mNever, Rc.tgt, chg, chgR, chg0, cPut, cApp, cPop, cPopAt, cExt, PV.tB, tTru, dTru, PV.tNot, PV.tAnd, PV.tOr, x1, x2, xL, xIf, xCall, upds, ev1, ev2, evL, preL, finL, Rc.pre, Rc.fin, xC, xV, xMove, xF, SV.get, put, SV.pin, AV.sv, AV.d, dGt, dLt, dLe, dGe, dAdd, dSub, dNe, dEq, dEqB, dLen, dList, dIx, ixAt, dLst, dTup, fi, fb, outsOf, SV.re, e]
end Wk
namespace Wk
open PySem PV
theorem pin_fz (d : D) : (SV.fz d).pin = false := rfl
theorem pin_ow (d : D) : (SV.ow d).pin = false := rfl
theorem pin_un : SV.un.pin = false := rfl
abbrev Tab := List (Str × Option (List (Key × D)))
def itsD : Option (List (Key × D)) → D
  | none => .non
  | some kvs => .dK kvs
def rowD (r : Str × Option (List (Key × D))) : D := .tup [.str r.1, itsD r.2]
def DictOk (S : List Str) (P : Int → Prop) (kvs : List (Key × D)) : Prop := (kvs.map (·.1)).Nodup ∧ ∀ p ∈ kvs, ∃ m i, p = (.inr m, .int i) ∧ m ∈ S ∧ P i
theorem any_key {κ α : Type} [DecidableEq κ] {k : κ} : ∀ {kvs : List (κ × α)}, (kvs.any fun kv => decide (kv.1 = k)) = true ↔ k ∈ kvs.map (·.1)
  | [] => by simp
  | p :: kvs => by
    rw [List.any_cons, Bool.or_eq_true, any_key (kvs := kvs), List.map_cons, List.mem_cons, decide_eq_true_eq]
    exact ⟨fun h => h.imp Eq.symm id, fun h => h.imp Eq.symm id⟩
theorem gp_keys {κ α : Type} [DecidableEq κ] (kvs : List (κ × α)) (k : κ) (v : α) : (gp kvs k v).map (·.1) = if k ∈ kvs.map (·.1) then kvs.map (·.1) else kvs.map (·.1) ++ [k] := by
  unfold gp
  by_cases h : k ∈ kvs.map (·.1)
  · rw [if_pos h, if_pos (any_key.mpr h), List.map_map]
    apply List.map_congr_left
    intro p hp
    show (if p.1 = k then (p.1, v) else p).1 = p.1
    by_cases z : p.1 = k
    · rw [if_pos z]
    · rw [if_neg z]
  · rw [if_neg h, if_neg (fun z => h (any_key.mp z)), List.map_append]
    rfl
theorem gp_mem {κ α : Type} [DecidableEq κ] {kvs : List (κ × α)} {k : κ} {v : α} {p : κ × α} (h : p ∈ gp kvs k v) : p ∈ kvs ∨ p = (k, v) := by
  unfold gp at h
  split at h
  · obtain ⟨q, hq, e⟩ := List.mem_map.mp h
    by_cases z : q.1 = k
    · rw [if_pos z] at e; exact .inr (by rw [← e, z])
    · rw [if_neg z] at e; exact .inl (by rw [← e]; exact hq)
  · rcases List.mem_append.mp h with h | h
    · exact .inl h
    · exact .inr (List.mem_singleton.mp h)
theorem gp_nodup {κ α : Type} [DecidableEq κ] {kvs : List (κ × α)} {k : κ} {v : α} (h : (kvs.map (·.1)).Nodup) : ((gp kvs k v).map (·.1)).Nodup := by
  rw [gp_keys]
  split
  · exact h
  · rename_i hk
    rw [List.nodup_append]
    refine ⟨h, by simp, fun a ha b hb => ?_⟩
    rw [List.mem_singleton] at hb
    subst hb
    exact fun z => hk (by rw [← z]; exact ha)
theorem gp_len {κ α : Type} [DecidableEq κ] (kvs : List (κ × α)) (k : κ) (v : α) : (gp kvs k v).length ≤ kvs.length + 1 := by
  have := congrArg List.length (gp_keys kvs k v)
  rw [List.length_map] at this
  rw [this]
  split
  · rw [List.length_map]; omega
  · rw [List.length_append, List.length_map]; exact Nat.le_refl _
theorem DictOk.gp {S : List Str} {P : Int → Prop} {kvs : List (Key × D)} {m : Str} {i : Int} (h : DictOk S P kvs) (hm : m ∈ S) (hi : P i) : DictOk S P (gp kvs (.inr m) (.int i)) :=
  ⟨gp_nodup h.1, fun p hp => by
    rcases gp_mem hp with hp | rfl
    · exact h.2 p hp
    · exact ⟨m, i, rfl, hm, hi⟩⟩
theorem forL_ix {tg : Tg} {body : MS} (J : Nat → List SV → Prop) : ∀ (ds : List D) (n : Nat) (s : List SV), J n s → (∀ i d s, ds[i]? = some d → J (n + i) s → ∃ s1 s2, asgT tg d s = some s1 ∧ body s1 = some (.nx, s2) ∧ J (n + i + 1) s2) → ∃ s', forL tg body ds s = some (.nx, s') ∧ J (n + ds.length) s'
  | [], n, s, h, _ => ⟨s, rfl, h⟩
  | d :: ds, n, s, h, st => by
    obtain ⟨s1, s2, e1, e2, h2⟩ := st 0 d s rfl h
    obtain ⟨s', e3, h3⟩ := forL_ix J ds (n + 1) s2 h2 fun i d s e hj => by
      have := st (i + 1) d s (by simpa using e) (by rw [show n + (i + 1) = n + 1 + i from by omega]; exact hj)
      rw [show n + (i + 1) + 1 = n + 1 + i + 1 from by omega] at this
      exact this
    refine ⟨s', ?_, by rw [List.length_cons, show n + (ds.length + 1) = n + 1 + ds.length from by omega]; exact h3⟩
    unfold forL
    simp only [e1, e2, e3]
theorem rng_get {b : Int} {i : Nat} {d : D} (h : (rngOf 0 b)[i]? = some d) : d = .int i := by
  unfold rngOf at h
  rw [List.getElem?_map] at h
  obtain ⟨k, hk, rfl⟩ := Option.map_eq_some_iff.mp h
  rw [List.getElem?_range (by have := (List.getElem?_eq_some_iff.mp hk).1; rw [List.length_range] at this; exact this)] at hk
  cases hk
  simp
theorem rng_len {b : Int} : (rngOf 0 b).length = b.toNat := by unfold rngOf; rw [List.length_map, List.length_range]; simp
theorem lg9 : lg 9 < 9000 ∧ lg 12 < 9000 ∧ lg 99 < 9000 ∧ lg 100000000000000000000 < 9000 := by decide +kernel
def names (rs : Tab) : List Str := rs.map (·.1)
/-- the numbers of a heap that is drawn -/
abbrev R30 (i : Int) : Prop := 1 ≤ i ∧ i < 1000000000000000000000000000000
theorem heap_okB {d : D} {rs : Tab} (h : Src d) (h0 : rs ≠ []) (hl : rs.length ≤ 1000) : ∃ kvs d', f__law_heap_2 [d, .lst (rs.map rowD)] = some (.ow (.dK kvs), [d', .non]) ∧ Src d' ∧ DictOk (names rs) R30 kvs ∧ kvs.length ≤ 3 := by
  obtain ⟨x, d1, e1, h1, hx⟩ := one_src (xs := [.int 0, .int 1, .int 1, .int 2, .int 3]) h (by simp) (by decide)
  obtain ⟨b, rfl, hb⟩ : ∃ b : Nat, x = .int b ∧ b ≤ 3 := by
    simp only [List.mem_cons, List.mem_nil_iff, or_false] at hx
    rcases hx with rfl | rfl | rfl | rfl | rfl
    · exact ⟨0, rfl, by decide⟩
    · exact ⟨1, rfl, by decide⟩
    · exact ⟨1, rfl, by decide⟩
    · exact ⟨2, rfl, by decide⟩
    · exact ⟨3, rfl, by decide⟩
  have loop := forL_ix (tg := .nm 3) (body := m__law_heap_2_1) (fun i s => ∃ d kvs k n, s = [.io d, .fz (.lst (rs.map rowD)), .ow (.dK kvs), k, n] ∧ Src d ∧ DictOk (names rs) R30 kvs ∧ kvs.length ≤ i ∧ k.pin = false ∧ n.pin = false)
    (rngOf 0 b) 0 [.io d1, .fz (.lst (rs.map rowD)), .ow (.dK []), .un, .un] ⟨d1, [], .un, .un, rfl, h1, ⟨by simp, by simp⟩, Nat.le_refl _, rfl, rfl⟩ fun i v s hv hs => by
    obtain ⟨d, kvs, k, n, rfl, hd, hk, hz, hp1, hp2⟩ := hs
    have hi : i < 3 := by
      have := (List.getElem?_eq_some_iff.mp hv).1
      rw [rng_len] at this
      omega
    obtain ⟨l9, _⟩ := lg9
    obtain ⟨r1, d2, e2, h2, a1, a2⟩ := next_src (n := 9) hd (by decide) l9
    obtain ⟨r2, d3, e3, h3, b1, b2⟩ := next_src (n := 9) h2 (by decide) l9
    obtain ⟨y, d4, e4, h4, hy⟩ := one_src (xs := [.int 1, .int 1, .int 2, .int 3, .int (1 + r1), .int (100000000000000000000000000000 + r2)]) h3 (by simp) (by simp)
    obtain ⟨z, rfl, hz1⟩ : ∃ z : Int, y = .int z ∧ R30 z := by
      simp only [List.mem_cons, List.mem_nil_iff, or_false] at hy
      rcases hy with rfl | rfl | rfl | rfl | rfl | rfl <;> exact ⟨_, rfl, by omega, by omega⟩
    obtain ⟨w, d5, e5, h5, hw⟩ := one_src (xs := rs.map rowD) h4 (by simpa using h0) (by rw [List.length_map]; exact hl)
    obtain ⟨r, hr, rfl⟩ := List.mem_map.mp hw
    refine ⟨[.io d, .fz (.lst (rs.map rowD)), .ow (.dK kvs), .fz v, n], [.io d5, .fz (.lst (rs.map rowD)), .ow (.dK (gp kvs (.inr r.1) (.int z))), .fz v, .fz (.int z)], ?_, ?_, d5, _, _, _, rfl, h5, hk.gp (List.mem_map.mpr ⟨r, hr, rfl⟩) hz1, ?_, rfl, rfl⟩
    · unfold asgT put; simp [hp1]
    · have hz' : kvs.length < 16777216 := by omega
      unfold m__law_heap_2_1
      simp [svs, mSeq, mIfS, mAsg, mRet, mDrop, mPut, mSkip, mNever, Rc.tgt, chg, chgR, chg0, cPut, keyOf, PV.tB, x1, x2, xL, xIf, xCall, upds, ev1, ev2, evL, preL, finL, Rc.pre, Rc.fin, xC, xV, xMove, xF, SV.get, put, pin_fz, pin_ow, pin_un, AV.sv, AV.d, dAdd, dPow, dIx, ixAt, dLst, fi, fb, outsOf, SV.re, e2, e3, e4, e5, hp2, rowD, SZ, hz', Bool.false_eq_true]
    · have := gp_len kvs (.inr r.1) (.int z)
      omega
  obtain ⟨s', e6, d6, kvs, k, n, rfl, h6, hk, hz, hp1, hp2⟩ := loop
  refine ⟨kvs, d6, ?_, h6, hk, by rw [rng_len] at hz; omega⟩
  unfold f__law_heap_2 mFun m__law_heap_2
  have hb2 : (b : Int) < 4611686018427387904 := by omega
  have hb3 : -4611686018427387904 ≤ (b : Int) := by omega
  simp [svs, mSeq, mIfS, mAsg, mRet, mDrop, mPut, mFor, sRange1, mSkip, mNever, Rc.tgt, PV.tB, x1, x2, xL, xIf, xCall, upds, ev1, ev2, evL, preL, finL, Rc.pre, Rc.fin, xC, xV, xMove, xF, SV.get, put, pin_fz, pin_ow, pin_un, AV.sv, AV.d, dNewK, xC0, dLst, fi, fb, outsOf, SV.re, e1, e6, hb2, hb3]
end Wk
namespace Wk
open PySem PV
theorem cut_mem {α : Type} {xs : List α} {l h : Option Int} {x : α} (hx : x ∈ cut xs l h) : x ∈ xs := by
  unfold cut at hx
  exact List.mem_of_mem_drop (List.mem_of_mem_take hx)
theorem cut_ne {α : Type} {xs : List α} {l h : Option Int} (h1 : cutIx xs.length 0 l < cutIx xs.length xs.length h) (h2 : cutIx xs.length 0 l < xs.length) : cut xs l h ≠ [] := by
  intro e
  have := congrArg List.length e
  unfold cut at this
  rw [List.length_take, List.length_drop, List.length_nil] at this
  omega
def NAMES : List Str := ["a", "ab", "b", "ba", "oats", "rye", "x", "xx", "zzzzzzzz", "sheaf", "none", "true"]
/-- all names of kinds that the laws use -/
def ALLN : List Str := (["a", "ab", "again", "b", "ba", "barley", "c", "cc", "d", "e", "ears", "f", "g", "h", "hay", "heap", "i", "j", "k", "kind", "kinds", "l", "later", "lotus", "m", "more"] : List Str) ++ (["new", "nobody", "none", "oat", "oats", "one", "other", "p", "q", "qa", "r", "rest", "ring", "rye", "s", "sheaf", "t", "top", "true", "u", "x", "xx", "y", "yyyyyyyy", "z", "zz", "zzzzzzzz"] : List Str)
theorem names_all : ∀ m ∈ NAMES, m ∈ ALLN := by decide +kernel
theorem names_nd : NAMES.Nodup := by decide +kernel
def ItsOk (S : List Str) (r : Str × Option (List (Key × D))) : Prop := ∀ kvs, r.2 = some kvs → kvs ≠ [] ∧ DictOk S (fun i => 1 ≤ i ∧ i ≤ 99) kvs
structure TabOk (rs : Tab) : Prop where
  ne : rs ≠ []
  len : rs.length ≤ 12
  nd : (names rs).Nodup
  good : ∀ m ∈ names rs, m ∈ ALLN
  its : ∀ r ∈ rs, ItsOk (names rs) r
/-- a list's slot, own or frozen -/
def LS (a : SV) (d : D) : Prop := a = .ow d ∨ a = .fz d
theorem LS.get {a : SV} {d : D} (h : LS a d) : a.get = some d := by rcases h with rfl | rfl <;> rfl
theorem LS.pin {a : SV} {d : D} (h : LS a d) : a.pin = false := by rcases h with rfl | rfl <;> rfl
theorem cutIx_nn {n m i : Nat} : cutIx n m (some (i : Int)) = min i n := by
  unfold cutIx
  simp only
  rw [if_neg (by omega)]
  simp
theorem cutIx_none {n m : Nat} : cutIx n m none = m := rfl
theorem cutIx_neg {n m : Nat} : cutIx n m (some (-2)) = (-2 + (n : Int)).toNat := rfl
theorem dEqB_nil {kvs : List (Key × D)} {S : List Str} {P : Int → Prop} (h : DictOk S P kvs) : dEqB (.dK kvs) (.dK []) = some (decide (kvs = [])) := by
  have hf : (kvs.all fun p => flat p.2) = true := by
    rw [List.all_eq_true]
    intro p hp
    obtain ⟨m, i, rfl, _⟩ := h.2 p hp
    rfl
  unfold dEqB
  simp only [hf, List.all_nil, Bool.and_self, if_true]
  cases kvs with
  | nil => simp [eqK]
  | cons p kvs => simp [eqK]
theorem one_int {d : D} {xs : List D} {P : Int → Prop} (h : Src d) (h0 : xs ≠ []) (hl : xs.length ≤ 1000) (hx : ∀ x ∈ xs, ∃ i, x = .int i ∧ P i) : ∃ i d', f__law_one [d, .lst xs] = some (.fz (.int i), [d', .non]) ∧ Src d' ∧ P i := by
  obtain ⟨x, d', e, h1, h2⟩ := one_src h h0 hl
  obtain ⟨i, rfl, hi⟩ := hx x h2
  exact ⟨i, d', e, h1, hi⟩
theorem twelve_inner {ns : List Str} {i : Nat} (hi : i < ns.length) (hz : ns.length ≤ 12) (v : D) (rw_ : D) {d : D} {a1 : SV} {kvs : List (Key × D)} {k5 k6 : SV} (hd : Src d) (ha : LS a1 (.lst (ns.map .str))) (hk : DictOk ns (fun i => 1 ≤ i ∧ i ≤ 99) kvs) (hl : kvs.length ≤ 10) (p5 : k5.pin = false) (p6 : k6.pin = false) :
    ∃ d' a1' kvs' k6', m__law_twelve_1 [.io d, a1, .ow rw_, .fz (.int (i : Int)), .ow (.dK kvs), k5, k6] = some (.nx, [.io d', a1', .ow rw_, .fz (.int (i : Int)), .ow (.dK kvs'), k5, k6']) ∧ Src d' ∧ LS a1' (.lst (ns.map .str)) ∧ DictOk ns (fun i => 1 ≤ i ∧ i ≤ 99) kvs' ∧ kvs'.length ≤ kvs.length + 1 ∧ k6'.pin = false := by
  have hL : (ns.map D.str).length = ns.length := List.length_map ..
  obtain ⟨x, d1, e1, h1, hx⟩ := one_src (xs := [.lst (ns.map .str), .lst (cut (ns.map .str) (some (i : Int)) none), .lst (cut (ns.map .str) (some (i : Int)) (some ((i : Int) + 2))), .lst (cut (ns.map .str) (some (-2)) none)]) hd (by simp) (by simp)
  obtain ⟨ys, rfl, hy0, hy⟩ : ∃ ys : List D, x = .lst ys ∧ ys ≠ [] ∧ ∀ y ∈ ys, y ∈ ns.map D.str := by
    simp only [List.mem_cons, List.mem_nil_iff, or_false] at hx
    rcases hx with rfl | rfl | rfl | rfl
    · exact ⟨_, rfl, by intro z; rw [z] at hL; simp at hL; omega, fun y h => h⟩
    · exact ⟨_, rfl, cut_ne (by rw [cutIx_nn, cutIx_none, hL]; omega) (by rw [cutIx_nn, hL]; omega), fun y h => cut_mem h⟩
    · exact ⟨_, rfl, cut_ne (by rw [show ((i : Int) + 2) = ((i + 2 : Nat) : Int) from by omega, cutIx_nn, cutIx_nn, hL]; omega) (by rw [cutIx_nn, hL]; omega), fun y h => cut_mem h⟩
    · exact ⟨_, rfl, cut_ne (by rw [cutIx_none, cutIx_neg, hL]; omega) (by rw [cutIx_neg, hL]; omega), fun y h => cut_mem h⟩
  have hyl : ys.length ≤ 1000 := by
    simp only [List.mem_cons, List.mem_nil_iff, or_false, D.lst.injEq] at hx
    have cl : ∀ l h, (cut (ns.map D.str) l h).length ≤ ns.length := fun l h => by unfold cut; rw [List.length_take, List.length_drop, hL]; omega
    rcases hx with rfl | rfl | rfl | rfl
    · rw [hL]; omega
    · exact Nat.le_trans (cl _ _) (by omega)
    · exact Nat.le_trans (cl _ _) (by omega)
    · exact Nat.le_trans (cl _ _) (by omega)
  obtain ⟨y, d2, e2, h2, hym⟩ := one_src (xs := ys) h1 hy0 hyl
  obtain ⟨m, hm, rfl⟩ := List.mem_map.mp (hy y hym)
  obtain ⟨_, _, l99, _⟩ := lg9
  obtain ⟨r, d3, e3, h3, b1, b2⟩ := next_src (n := 99) h2 (by decide) l99
  obtain ⟨z, d4, e4, h4, hz1⟩ := one_int (xs := [.int 1, .int 1, .int 1, .int 2, .int 99, .int (1 + r)]) (P := fun i => 1 ≤ i ∧ i ≤ 99) h3 (by simp) (by simp) (by
    intro x hx
    simp only [List.mem_cons, List.mem_nil_iff, or_false] at hx
    rcases hx with rfl | rfl | rfl | rfl | rfl | rfl <;> exact ⟨_, rfl, by omega, by omega⟩)
  refine ⟨d4, .fz (.lst (ns.map .str)), gp kvs (.inr m) (.int z), .fz (.str m), ?_, h4, .inr rfl, hk.gp hm hz1, gp_len _ _ _, rfl⟩
  have hz' : kvs.length < 16777216 := by omega
  unfold m__law_twelve_1
  rcases ha with rfl | rfl <;>
  simp [svs, mSeq, mIfS, mAsg, mRet, mDrop, mPut, mSkip, mNever, Rc.tgt, chg, chgR, chg0, cPut, keyOf, PV.tB, x1, x2, xL, xIf, xSl, prt, dSl, dNeg, xCall, upds, ev1, ev2, evL, preL, finL, Rc.pre, Rc.fin, xC, xV, xMove, xF, SV.get, put, pin_fz, pin_ow, pin_un, AV.sv, AV.d, dAdd, dPow, dIx, ixAt, dLst, fi, fb, outsOf, SV.re, e1, e2, e3, e4, p6, SZ, hz', Bool.false_eq_true]
end Wk
namespace Wk
open PySem PV
theorem small_list : ∀ x ∈ [D.int 0, .int 1, .int 1, .int 2, .int 3], ∃ i : Int, x = .int i ∧ 0 ≤ i ∧ i ≤ 3 := by
  intro x hx
  simp only [List.mem_cons, List.mem_nil_iff, or_false] at hx
  rcases hx with rfl | rfl | rfl | rfl | rfl <;> exact ⟨_, rfl, by omega, by omega⟩
theorem twelve_row {ns : List Str} {i : Nat} (hi : i < ns.length) (hz : ns.length ≤ 12) {rows : List D} (hr : rows.length ≤ 12) {d : D} {a1 : SV} {k4 k5 k6 : SV} (hd : Src d) (ha : LS a1 (.lst (ns.map .str))) (p4 : k4.pin = false) (p5 : k5.pin = false) (p6 : k6.pin = false) :
    ∃ d' a1' its k4' k5' k6', m__law_twelve_2 [.io d, a1, .ow (.lst rows), .fz (.int (i : Int)), k4, k5, k6] = some (.nx, [.io d', a1', .ow (.lst (rows ++ [rowD (ns[i], its)])), .fz (.int (i : Int)), k4', k5', k6']) ∧ Src d' ∧ LS a1' (.lst (ns.map .str)) ∧ ItsOk ns (ns[i], its) ∧ k4'.pin = false ∧ k5'.pin = false ∧ k6'.pin = false := by
  obtain ⟨b, d1, e1, h1, hb⟩ := one_int (P := fun i => 0 ≤ i ∧ i ≤ 3) hd (by simp) (by simp) small_list
  have loop := forL_ix (tg := .nm 5) (body := m__law_twelve_1) (fun j s => ∃ d a1 kvs k5 k6, s = [.io d, a1, .ow (.lst rows), .fz (.int (i : Int)), .ow (.dK kvs), k5, k6] ∧ Src d ∧ LS a1 (.lst (ns.map .str)) ∧ DictOk ns (fun i => 1 ≤ i ∧ i ≤ 99) kvs ∧ kvs.length ≤ j ∧ k5.pin = false ∧ k6.pin = false)
    (rngOf 0 b) 0 [.io d1, a1, .ow (.lst rows), .fz (.int (i : Int)), .ow (.dK []), k5, k6] ⟨d1, a1, [], k5, k6, rfl, h1, ha, ⟨by simp, by simp⟩, Nat.le_refl _, p5, p6⟩ fun j v s hv hs => by
    obtain ⟨d, a1, kvs, k5, k6, rfl, hd, ha, hk, hl, p5, p6⟩ := hs
    have hj : j < 3 := by
      have := (List.getElem?_eq_some_iff.mp hv).1
      rw [rng_len] at this
      omega
    obtain ⟨d', a1', kvs', k6', e, g1, g2, g3, g4, g5⟩ := twelve_inner (k5 := .fz v) hi hz v (.lst rows) hd ha hk (by omega) rfl p6
    refine ⟨_, _, ?_, e, d', a1', kvs', .fz v, k6', rfl, g1, g2, g3, by omega, rfl, g5⟩
    unfold asgT put; simp [p5]
  obtain ⟨s', e2, d2, a2, kvs, k5', k6', rfl, h2, ha2, hk, hl, q5, q6⟩ := loop
  have hix : (ns.map D.str)[i]? = some (.str ns[i]) := by rw [List.getElem?_map, List.getElem?_eq_getElem hi]; rfl
  have hb2 : b < 4611686018427387904 := by omega
  have hb3 : -4611686018427387904 ≤ b := by omega
  have hrr : rows.length < 16777216 := by omega
  have hne := dEqB_nil hk
  by_cases hkv : kvs = []
  · subst hkv
    refine ⟨d2, a2, none, .ow (.dK []), k5', k6', ?_, h2, ha2, fun kvs z => (nomatch z), rfl, q5, q6⟩
    unfold m__law_twelve_2
    rcases ha2 with rfl | rfl <;>
    simp [svs, mSeq, mIfS, mAsg, mRet, mDrop, mPut, mSkip, mNever, mFor, sRange1, Rc.tgt, chg, chgR, chg0, cPut, cApp, keyOf, PV.tB, x1, x2, xL, xIf, xCall, upds, ev1, ev2, evL, preL, finL, Rc.pre, Rc.fin, xC, xC0, xV, xMove, xF, SV.get, put, pin_fz, pin_ow, pin_un, AV.sv, AV.d, dNewK, dNe, dAdd, dPow, dIx, ixAt, dLst, dTup, fi, fb, outsOf, SV.re, e1, e2, p4, p5, p6, hb2, hb3, hix, hne, SZ, hrr, rowD, itsD, Bool.false_eq_true, hi]
  · refine ⟨d2, a2, some kvs, .fz (.dK kvs), k5', k6', ?_, h2, ha2, fun kvs' z => by cases z; exact ⟨hkv, hk⟩, rfl, q5, q6⟩
    unfold m__law_twelve_2
    rcases ha2 with rfl | rfl <;>
    simp [svs, mSeq, mIfS, mAsg, mRet, mDrop, mPut, mSkip, mNever, mFor, sRange1, Rc.tgt, chg, chgR, chg0, cPut, cApp, keyOf, PV.tB, x1, x2, xL, xIf, xCall, upds, ev1, ev2, evL, preL, finL, Rc.pre, Rc.fin, xC, xC0, xV, xMove, xF, SV.get, put, pin_fz, pin_ow, pin_un, AV.sv, AV.d, dNewK, dNe, dAdd, dPow, dIx, ixAt, dLst, dTup, fi, fb, outsOf, SV.re, e1, e2, p4, p5, p6, hb2, hb3, hix, hne, hkv, SZ, hrr, rowD, itsD, Bool.false_eq_true, hi]
theorem unmap_str : ∀ {l : List Str} {ys : List D}, ys.Perm (l.map D.str) → ∃ ks : List Str, ys = ks.map D.str ∧ ks.Perm l := by
  intro l ys h
  have : ∀ y ∈ ys, ∃ m, y = D.str m := fun y hy => by
    obtain ⟨m, _, rfl⟩ := List.mem_map.mp (h.mem_iff.mp hy)
    exact ⟨m, rfl⟩
  let f : D → Str := fun d => match d with
    | .str m => m
    | _ => ""
  have e : ys = (ys.map f).map D.str := by
    rw [List.map_map]
    conv => lhs; rw [← List.map_id ys]
    apply List.map_congr_left
    intro y hy
    obtain ⟨m, rfl⟩ := this y hy
    rfl
  refine ⟨ys.map f, e, ?_⟩
  have := h.map f
  rw [List.map_map] at this
  have e2 : l.map (f ∘ D.str) = l := by
    conv => rhs; rw [← List.map_id l]
    exact List.map_congr_left fun _ _ => rfl
  rw [e2] at this
  exact this
theorem unmap_row : ∀ {l : Tab} {ys : List D}, ys.Perm (l.map rowD) → ∃ ks : Tab, ys = ks.map rowD ∧ ks.Perm l := by
  intro l ys h
  have : ∀ y ∈ ys, ∃ m, y = rowD m := fun y hy => by
    obtain ⟨m, _, rfl⟩ := List.mem_map.mp (h.mem_iff.mp hy)
    exact ⟨m, rfl⟩
  let f : D → Str × Option (List (Key × D)) := fun d => match d with
    | .tup [.str m, .dK kvs] => (m, some kvs)
    | .tup [.str m, _] => (m, none)
    | _ => ("", none)
  have fr : ∀ r, f (rowD r) = r := fun r => by
    obtain ⟨m, o⟩ := r
    cases o <;> rfl
  have e : ys = (ys.map f).map rowD := by
    rw [List.map_map]
    conv => lhs; rw [← List.map_id ys]
    apply List.map_congr_left
    intro y hy
    obtain ⟨m, rfl⟩ := this y hy
    show rowD m = rowD (f (rowD m))
    rw [fr]
  refine ⟨ys.map f, e, ?_⟩
  have := h.map f
  rw [List.map_map] at this
  have e2 : l.map (f ∘ rowD) = l := by
    conv => rhs; rw [← List.map_id l]
    apply List.map_congr_left
    intro r _
    exact fr r
  rw [e2] at this
  exact this
theorem DictOk.mono {S S' : List Str} {P : Int → Prop} {kvs : List (Key × D)} (h : DictOk S P kvs) (hs : ∀ m ∈ S, m ∈ S') : DictOk S' P kvs := ⟨h.1, fun p hp => let ⟨m, i, e, h1, h2⟩ := h.2 p hp; ⟨m, i, e, hs m h1, h2⟩⟩
theorem preL_consts : ∀ (ds : List D) (s : S), preL (ds.map fun d => Rc.e (xC d)) s = some (ds.map some, s)
  | [], s => rfl
  | d :: ds, s => by
    show preL (Rc.e (xC d) :: ds.map fun d => Rc.e (xC d)) s = _
    unfold preL
    simp only [Rc.pre, xC, AV.d, preL_consts ds s, List.map_cons]
theorem finL_consts : ∀ (ds : List D) (s : S), finL (ds.map fun d => Rc.e (xC d)) (ds.map some) s = some ds
  | [], s => rfl
  | d :: ds, s => by
    show finL (Rc.e (xC d) :: ds.map fun d => Rc.e (xC d)) (some d :: ds.map some) s = _
    unfold finL
    simp only [Rc.fin, List.head?_cons, Option.getD_some, List.tail_cons, finL_consts ds s]
theorem xL_consts (ds : List D) (s : S) : xL dLst (ds.map fun d => Rc.e (xC d)) s = some (.ow (.lst ds), s) := by
  unfold xL evL
  simp only [preL_consts, finL_consts, dLst, Option.map_some]
theorem xL_names (s : S) : xL dLst [.e (xC (.str "a")), .e (xC (.str "ab")), .e (xC (.str "b")), .e (xC (.str "ba")), .e (xC (.str "oats")), .e (xC (.str "rye")), .e (xC (.str "x")), .e (xC (.str "xx")), .e (xC (.str "zzzzzzzz")), .e (xC (.str "sheaf")), .e (xC (.str "none")), .e (xC (.str "true"))] s = some (.ow (.lst (NAMES.map .str)), s) := xL_consts (NAMES.map .str) s
theorem two62 : (2 : Int) ^ 62 = 4611686018427387904 := by decide
theorem range_nat {r : Rc} {n : Nat} {s s' : S} (h : ev1 r s = some (.int (n : Int), s')) (hn : n ≤ 1000) : sRange1 r s = some (rngOf 0 (n : Int), s') := by
  unfold sRange1
  rw [h]
  exact if_pos ⟨by rw [two62]; omega, by rw [two62]; omega⟩
theorem mFor_eq {src : PV.Src} {tg : Tg} {body : MS} {s s' : S} {ds : List D} (h : src s = some (ds, s')) : mFor src tg body s = forL tg body ds s' := by
  unfold mFor
  rw [h]
theorem names_len : NAMES.length ≤ 900 := by simp [NAMES]
theorem names_12 : NAMES.length = 12 := rfl
theorem mSeq_nx {a b : MS} {s s' : S} (h : a s = some (.nx, s')) : mSeq a b s = b s' := by
  unfold mSeq
  rw [h]
theorem g4_lem {ns : List Str} {d2 d3 : D} {a3 k3 k4 k5 k6 : SV} {rows : Tab} (hl : ns.length ≤ 12) (e3 : forL (.nm 3) m__law_twelve_2 (rngOf 0 (ns.length : Int)) [.io d2, .ow (.lst (ns.map .str)), .ow (.lst []), .un, .un, .un, .un] = some (.nx, [.io d3, a3, .ow (.lst (rows.map rowD)), k3, k4, k5, k6])) :
    mFor (sRange1 (.e (x1 dLen (.v 1)))) (.nm 3) m__law_twelve_2 [.io d2, .ow (.lst (ns.map .str)), .ow (.lst []), .un, .un, .un, .un] = some (.nx, [.io d3, a3, .ow (.lst (rows.map rowD)), k3, k4, k5, k6]) := by
  rw [mFor_eq (range_nat (n := ns.length) (s' := [.io d2, .ow (.lst (ns.map .str)), .ow (.lst []), .un, .un, .un, .un]) (by simp [x1, ev1, Rc.pre, Rc.fin, SV.get, AV.d, dLen, fi]) (by omega))]
  exact e3
theorem twelve_eval {as ns : List Str} {d d1 d2 d3 d4 : D} {r : Int} {a3 k3 k4 k5 k6 : SV} {rows rs : Tab} (hl : ns.length ≤ 12) (e1 : f__law_mixed [d, .lst (NAMES.map .str)] = some (.ow (.lst (as.map .str)), [d1, .non])) (e2 : f__law_next [d1, .int 12] = some (.fz (.int r), [d2, .non])) (hcut : cut (as.map D.str) none (some (1 + r)) = ns.map D.str)
    (e3 : forL (.nm 3) m__law_twelve_2 (rngOf 0 (ns.length : Int)) [.io d2, .ow (.lst (ns.map .str)), .ow (.lst []), .un, .un, .un, .un] = some (.nx, [.io d3, a3, .ow (.lst (rows.map rowD)), k3, k4, k5, k6])) (e4 : f__law_mixed [d3, .lst (rows.map rowD)] = some (.ow (.lst (rs.map rowD)), [d4, .non])) :
    f__law_twelve [d] = some (.ow (.lst (rs.map rowD)), [d4]) := by
  have g1 : mAsg 1 (xCall f__law_mixed [.v 0, .e (xL dLst [.e (xC (.str "a")), .e (xC (.str "ab")), .e (xC (.str "b")), .e (xC (.str "ba")), .e (xC (.str "oats")), .e (xC (.str "rye")), .e (xC (.str "x")), .e (xC (.str "xx")), .e (xC (.str "zzzzzzzz")), .e (xC (.str "sheaf")), .e (xC (.str "none")), .e (xC (.str "true"))])]) [.io d, .un, .un, .un, .un, .un, .un] = some (.nx, [.io d1, .ow (.lst (as.map .str)), .un, .un, .un, .un, .un]) := by
    simp [svs, mSeq, mIfS, mAsg, mRet, mDrop, mFor, sRange1, Rc.tgt, x1, x2, xSl, prt, dSl, xCall, upds, ev1, ev2, evL, preL, finL, Rc.pre, Rc.fin, xC, xC0, xV, xMove, xF, SV.get, put, pin_fz, pin_ow, pin_un, AV.sv, AV.d, dAdd, dLen, fi, fb, outsOf, SV.re, Bool.false_eq_true, xL_names, e1]
  have g2 : mAsg 1 (xSl (.v 1) none (some (x2 dAdd (.e (xC (.int 1))) (.e (xCall f__law_next [.v 0, .e (xC (.int 12))]))))) [.io d1, .ow (.lst (as.map .str)), .un, .un, .un, .un, .un] = some (.nx, [.io d2, .ow (.lst (ns.map .str)), .un, .un, .un, .un, .un]) := by
    simp [svs, mSeq, mIfS, mAsg, mRet, mDrop, mFor, sRange1, Rc.tgt, x1, x2, xSl, prt, dSl, xCall, upds, ev1, ev2, evL, preL, finL, Rc.pre, Rc.fin, xC, xC0, xV, xMove, xF, SV.get, put, pin_fz, pin_ow, pin_un, AV.sv, AV.d, dAdd, dLen, fi, fb, outsOf, SV.re, Bool.false_eq_true, e2, hcut]
  have g4 := g4_lem hl e3
  have g5 : mRet (xCall f__law_mixed [.v 0, .e (xV 2)]) [.io d3, a3, .ow (.lst (rows.map rowD)), k3, k4, k5, k6] = some (.rt (.ow (.lst (rs.map rowD))), [.io d4, a3, .fz (.lst (rows.map rowD)), k3, k4, k5, k6]) := by
    simp [svs, mSeq, mIfS, mAsg, mRet, mDrop, mFor, sRange1, Rc.tgt, x1, x2, xSl, prt, dSl, xCall, upds, ev1, ev2, evL, preL, finL, Rc.pre, Rc.fin, xC, xC0, xV, xMove, xF, SV.get, put, pin_fz, pin_ow, pin_un, AV.sv, AV.d, dAdd, dLen, fi, fb, outsOf, SV.re, Bool.false_eq_true, e4]
  have g0 : m__law_twelve [.io d, .un, .un, .un, .un, .un, .un] = some (.rt (.ow (.lst (rs.map rowD))), [.io d4, a3, .fz (.lst (rows.map rowD)), k3, k4, k5, k6]) := by
    unfold m__law_twelve
    exact (mSeq_nx g1).trans ((mSeq_nx g2).trans ((mSeq_nx (a := mAsg 2 (xL dLst [])) rfl).trans ((mSeq_nx g4).trans g5)))
  unfold f__law_twelve mFun
  simp [svs, g0, outsOf]
theorem twelve_ok {d : D} (hd : Src d) : ∃ rs d', f__law_twelve [d] = some (.ow (.lst (rs.map rowD)), [d']) ∧ Src d' ∧ TabOk rs := by
  obtain ⟨ys, d1, e1, h1, hp⟩ := mixed_src (xs := NAMES.map .str) hd (by rw [List.length_map]; exact names_len)
  obtain ⟨as, rfl, hpa⟩ := unmap_str hp
  obtain ⟨_, l12, _⟩ := lg9
  obtain ⟨r, d2, e2, h2, b1, b2⟩ := next_src (n := 12) h1 (by decide) l12
  have la : as.length = 12 := hpa.length_eq.trans names_12
  have hnsl : (as.take (r.toNat + 1)).length = r.toNat + 1 := by rw [List.length_take]; omega
  generalize hns : as.take (r.toNat + 1) = ns at hnsl
  have hcut : cut (as.map D.str) none (some (1 + r)) = ns.map D.str := by
    unfold cut
    have e : (1 + r) = ((r.toNat + 1 : Nat) : Int) := by omega
    rw [cutIx_none, e, cutIx_nn, List.length_map, la, ← hns, List.map_take]
    simp
    omega
  have nsub : ∀ m ∈ ns, m ∈ NAMES := fun m hm => hpa.mem_iff.mp (List.mem_of_mem_take (by rw [hns]; exact hm))
  have nnd : ns.Nodup := by rw [← hns]; exact (hpa.nodup_iff.mpr names_nd).sublist (List.take_sublist _ _)
  have loop := forL_ix (tg := .nm 3) (body := m__law_twelve_2) (fun j s => ∃ d a1 rows k3 k4 k5 k6, s = [.io d, a1, .ow (.lst (rows.map rowD)), k3, k4, k5, k6] ∧ Src d ∧ LS a1 (.lst (ns.map .str)) ∧ rows.map (·.1) = ns.take j ∧ (∀ r ∈ rows, ItsOk ns r) ∧ k3.pin = false ∧ k4.pin = false ∧ k5.pin = false ∧ k6.pin = false)
    (rngOf 0 (ns.length : Int)) 0 [.io d2, .ow (.lst (ns.map .str)), .ow (.lst []), .un, .un, .un, .un] ⟨d2, _, [], .un, .un, .un, .un, rfl, h2, .inl rfl, rfl, by simp, rfl, rfl, rfl, rfl⟩ fun j v s hv hs => by
    obtain ⟨d, a1, rows, k3, k4, k5, k6, rfl, hd, ha, hm, hi, p3, p4, p5, p6⟩ := hs
    rw [Nat.zero_add] at hm
    have hj : j < ns.length := by
      have := (List.getElem?_eq_some_iff.mp hv).1
      rw [rng_len] at this
      omega
    have hrl : rows.length ≤ 12 := by
      have := congrArg List.length hm
      rw [List.length_map, List.length_take] at this
      omega
    have hv' := rng_get hv
    subst hv'
    obtain ⟨d', a1', its, k4', k5', k6', e, g1, g2, g3, g4, g5, g6⟩ := twelve_row (rows := rows.map rowD) hj (by omega) (by rw [List.length_map]; exact hrl) hd ha p4 p5 p6
    refine ⟨_, _, ?_, e, d', a1', rows ++ [(ns[j], its)], _, k4', k5', k6', by rw [List.map_append]; rfl, g1, g2, ?_, ?_, rfl, g4, g5, g6⟩
    · unfold asgT put; simp [p3]
    · rw [Nat.zero_add, List.map_append, hm, List.take_succ_eq_append_getElem hj]
      rfl
    · intro q hq
      rcases List.mem_append.mp hq with hq | hq
      · exact hi q hq
      · rw [List.mem_singleton.mp hq]; exact g3
  obtain ⟨s', e3, d3, a3, rows, k3, k4, k5, k6, rfl, h3, ha3, hm, hi, p3, p4, p5, p6⟩ := loop
  rw [Nat.zero_add, rng_len, Int.toNat_natCast, List.take_length] at hm
  have hrl : rows.length = ns.length := by have := congrArg List.length hm; rw [List.length_map] at this; exact this
  obtain ⟨zs, d4, e4, h4, hz⟩ := mixed_src (xs := rows.map rowD) h3 (by rw [List.length_map]; omega)
  obtain ⟨rs, rfl, hrp⟩ := unmap_row hz
  have hnp : (names rs).Perm ns := by rw [← hm]; exact hrp.map _
  refine ⟨rs, d4, ?_, h4, ⟨?_, ?_, hnp.nodup_iff.mpr nnd, fun m hm => names_all m (nsub m (hnp.mem_iff.mp hm)), fun r hr kvs e => ?_⟩⟩
  · exact twelve_eval (by omega) e1 e2 hcut e3 e4
  · intro z
    have := hrp.length_eq
    rw [z, List.length_nil, hrl, hnsl] at this
    omega
  · have := hrp.length_eq
    omega
  · obtain ⟨g1, g2⟩ := hi r (hrp.mem_iff.mp hr) kvs e
    exact ⟨g1, g2.mono fun m hm => hnp.mem_iff.mpr hm⟩
end Wk
namespace Wk
open PySem PV
def isT : Option (AV × List D) → Bool
  | some (.fz (.bl true), [.non]) => true
  | _ => false
theorem isT_eq {x : Option (AV × List D)} (h : isT x = true) : x = some (.fz (.bl true), [.non]) := by
  unfold isT at h
  split at h
  · rfl
  · cases h
theorem names_ok : (ALLN.all fun m => isT (f_is_name [.str m]) && sok m) = true := by decide +kernel
theorem name_ok {m : Str} (h : m ∈ ALLN) : f_is_name [.str m] = some (.fz (.bl true), [.non]) := by
  have := List.all_eq_true.mp names_ok m h
  rw [Bool.and_eq_true] at this
  exact isT_eq this.1
theorem name_sok {m : Str} (h : m ∈ ALLN) : sok m = true := by
  have := List.all_eq_true.mp names_ok m h
  rw [Bool.and_eq_true] at this
  exact this.2
theorem whole_ok {i : Int} (h : 1 ≤ i) : f_is_whole [.int i, .int 1] = some (.fz (.bl true), [.non, .non]) := by
  unfold f_is_whole mFun m_is_whole
  simp [svs, mRet, xAnd, xNot, x1, x2, ev1, ev2, Rc.pre, Rc.fin, SV.get, dIsa, tyD, isaB, dGe, fb, outsOf, h]
theorem look_heap_ok {S : List Str} {P : Int → Prop} {kvs : List (Key × D)} (hS : ∀ m ∈ S, m ∈ ALLN) (hP : ∀ i, P i → 1 ≤ i) (h : DictOk S P kvs) : f_look_heap [.dK kvs] = some (.fz .non, [.non]) := by
  have loop := forL_ix (tg := .tp [.nm 1, .nm 2]) (body := m_look_heap_1) (fun i s => ∃ a b, s = [.fz (.dK kvs), a, b] ∧ a.pin = false ∧ b.pin = false) (kvs.map fun p => .tup [kD p.1, p.2]) 0 [.fz (.dK kvs), .un, .un] ⟨.un, .un, rfl, rfl, rfl⟩ fun i d s hd hs => by
    obtain ⟨a, b, rfl, p1, p2⟩ := hs
    rw [List.getElem?_map] at hd
    obtain ⟨p, hp, rfl⟩ := Option.map_eq_some_iff.mp hd
    obtain ⟨m, j, rfl, hm, hj⟩ := h.2 p (List.mem_of_getElem? hp)
    refine ⟨[.fz (.dK kvs), .fz (.str m), .fz (.int j)], [.fz (.dK kvs), .fz (.str m), .fz (.int j)], ?_, ?_, _, _, rfl, rfl, rfl⟩
    · simp [asgT, asgTs, put, kD, p1, p2]
    · have e1 := name_ok (hS m hm)
      have e2 := whole_ok (hP j hj)
      unfold m_look_heap_1
      refine (mSeq_nx (s' := [.fz (.dK kvs), .fz (.str m), .fz (.int j)]) ?_).trans ?_
      · simp [mIfS, PV.tNot, tTru, xCall, evL, preL, finL, Rc.pre, Rc.fin, xV, AV.d, e1, dTru, upds, mSkip]
      · simp [mIfS, PV.tNot, tTru, xCall, evL, preL, finL, Rc.pre, Rc.fin, xV, xC, AV.d, e2, dTru, upds, mSkip]
  obtain ⟨s', e, a, b, rfl, p1, p2⟩ := loop
  have g : m_look_heap [.fz (.dK kvs), .un, .un] = some (.nx, [.fz (.dK kvs), a, b]) := by
    unfold m_look_heap
    refine (mSeq_nx (s' := [.fz (.dK kvs), .un, .un]) ?_).trans ?_
    · simp [mIfS, PV.tNot, tTru, x1, ev1, Rc.pre, Rc.fin, SV.get, dIsa, tyD, isaB, fb, AV.d, dTru, mSkip]
    · refine (mFor_eq (s' := [.fz (.dK kvs), .un, .un]) ?_).trans e
      simp [sItems, sOf, xV, AV.d]
  unfold f_look_heap mFun
  simp [svs, g, outsOf]
theorem is_heap_ok {S : List Str} {P : Int → Prop} {kvs : List (Key × D)} (hS : ∀ m ∈ S, m ∈ ALLN) (hP : ∀ i, P i → 1 ≤ i) (h : DictOk S P kvs) : f_is_heap [.dK kvs] = some (.fz (.bl true), [.non]) := by
  have e := look_heap_ok hS hP h
  have g : m_is_heap [.fz (.dK kvs)] = some (.rt (.fz (.bl true)), [.fz (.dK kvs)]) := by
    unfold m_is_heap
    refine (mSeq_nx (s' := [.fz (.dK kvs)]) ?_).trans ?_
    · simp [mDrop, xCall, evL, preL, finL, Rc.pre, Rc.fin, xV, AV.d, e, upds]
    · simp [mRet, xC]
  unfold f_is_heap mFun
  simp [svs, g, outsOf]
theorem str_in {m : Str} {ks : List Str} : dInB (.str m) (.lst (ks.map .str)) = some (decide (m ∈ ks)) := by
  have hf : ((ks.map D.str).all flat) = true := by rw [List.all_eq_true]; intro x hx; obtain ⟨k, _, rfl⟩ := List.mem_map.mp hx; rfl
  have ha : ((ks.map D.str).any fun y => eqv y (.str m)) = decide (m ∈ ks) := by
    rw [List.any_map, Bool.eq_iff_iff, List.any_eq_true, decide_eq_true_eq]
    constructor
    · rintro ⟨k, hk, e⟩
      have e : (k == m) = true := by simpa [eqv] using e
      rw [← eq_of_beq e]; exact hk
    · intro h
      exact ⟨m, h, by simp [eqv]⟩
  unfold dInB
  simp only [show flat (D.str m) = true from rfl, hf, Bool.and_self, if_true, ha]
theorem row_amiss_ok {m : Str} {o : D} {ks : List Str} (hm : m ∈ ALLN) (hk : m ∉ ks) : f_row_amiss [.tup [.str m, o], .lst (ks.map .str)] = some (.fz (.str ""), [.non, .lst (ks.map .str)]) := by
  have e1 := name_ok hm
  have e2 := str_in (m := m) (ks := ks)
  have e3 : dEqB (.int 2) (.int 2) = some true := rfl
  have g : m_row_amiss [.fz (.tup [.str m, o]), .io (.lst (ks.map .str))] = some (.rt (.fz (.str "")), [.fz (.tup [.str m, o]), .io (.lst (ks.map .str))]) := by
    unfold m_row_amiss
    refine (mSeq_nx (s' := [.fz (.tup [.str m, o]), .io (.lst (ks.map .str))]) ?_).trans ((mSeq_nx (s' := [.fz (.tup [.str m, o]), .io (.lst (ks.map .str))]) ?_).trans ?_)
    · simp [mIfS, PV.tOr, PV.tNot, tTru, PV.tB, x1, x2, ev1, ev2, Rc.pre, Rc.fin, SV.get, dIsa, tyD, isaB, fb, fi, AV.d, dTru, dLen, dNe, e3, xC, mSkip]
    · simp [mIfS, PV.tNot, tTru, xCall, evL, preL, finL, x2, ev2, dIx, ixAt, Rc.pre, Rc.fin, xC, SV.get, AV.d, e1, dTru, upds, mSkip]
    · simp [mRet, xIf, PV.tB, x2, ev2, dIx, ixAt, Rc.pre, Rc.fin, xC, SV.get, AV.d, dIn, e2, hk, fb]
  unfold f_row_amiss mFun
  simp [svs, g, outsOf]
end Wk
namespace Wk
open PySem PV
def LcStep (vs : List Nat) (tg : Tg) (t : TM) (e : XM) (s : List SV) (f : D → Option D) (d : D) : Prop :=
  ∃ s1, asgT tg d s = some s1 ∧ ((∃ s2 a s3, f d = some (AV.d a) ∧ t s1 = some (true, s2) ∧ e s2 = some (a, s3) ∧ calm s3 vs = true ∧ wipeS s3 vs = s) ∨ (∃ s2, f d = none ∧ t s1 = some (false, s2) ∧ calm s2 vs = true ∧ wipeS s2 vs = s))
theorem lcL_pure {vs : List Nat} {tg : Tg} {t : TM} {e : XM} {s : List SV} {f : D → Option D} : ∀ (ds acc : List D), acc.length + ds.length ≤ 1000 → (∀ d ∈ ds, LcStep vs tg t e s f d) → lcL vs tg t e ds acc s = some (acc ++ ds.filterMap f, s)
  | [], acc, _, _ => by unfold lcL; simp
  | d :: ds, acc, hl, h => by
    rw [List.length_cons] at hl
    obtain ⟨s1, e1, z⟩ := h d List.mem_cons_self
    have hS : acc.length < SZ := by unfold SZ; omega
    unfold lcL
    rw [e1]
    rcases z with ⟨s2, a, s3, ef, e2, e3, e4, e5⟩ | ⟨s2, ef, e2, e3, e4⟩
    · simp only [e2, e3]
      rw [if_pos ⟨hS, e4⟩, e5, lcL_pure ds (acc ++ [AV.d a]) (by rw [List.length_append, List.length_singleton]; omega) fun d hd => h d (List.mem_cons_of_mem _ hd), List.filterMap_cons_some ef, List.append_assoc]
      rfl
    · simp only [e2]
      rw [if_pos e3, e4, lcL_pure ds acc (by omega) fun d hd => h d (List.mem_cons_of_mem _ hd), List.filterMap_cons_none ef]
theorem xLc_pure {vs : List Nat} {src : PV.Src} {tg : Tg} {t : TM} {e : XM} {s0 s1 : S} {ds : List D} {f : D → Option D} (hs : src s0 = some (ds, s1)) (hc : calm s1 vs = true) (hl : ds.length ≤ 1000) (h : ∀ d ∈ ds, LcStep vs tg t e (wipeS s1 vs) f d) : xLc vs src tg t e s0 = some (.ow (.lst (ds.filterMap f)), back s1 (wipeS s1 vs) vs) := by
  unfold xLc
  simp only [hs, hc, if_true]
  rw [lcL_pure ds [] (by rw [List.length_nil]; omega) h]
  simp
theorem fm_const (b : D) : ∀ (ds : List D), ds.filterMap (fun _ => some b) = List.replicate ds.length b
  | [] => rfl
  | d :: ds => by
    rw [List.filterMap_cons]
    show b :: ds.filterMap (fun _ => some b) = _
    rw [fm_const b ds]
    rfl
theorem bools_true : ∀ (n : Nat), boolsOf (List.replicate n (D.bl true)) = some (List.replicate n true)
  | 0 => rfl
  | n + 1 => by
    show (boolsOf (List.replicate n (D.bl true))).map (true :: ·) = _
    rw [bools_true n]
    rfl
theorem all_true {n : Nat} : dAll (.lst (List.replicate n (.bl true))) = some (fb true) := by
  unfold dAll
  simp only [bools_true, Option.map_some]
  have : (List.replicate n true).all id = true := by rw [List.all_eq_true]; intro x hx; rw [(List.mem_replicate.mp hx).2]; rfl
  rw [this]
theorem top_le {m : Int} : ∀ {ns : List Int} {n : Int}, n ≤ m → (∀ k ∈ ns, k ≤ m) → PV.top n ns ≤ m
  | [], n, h, _ => h
  | k :: ns, n, h, hk => by
    show PV.top (if k > n then k else n) ns ≤ m
    refine top_le ?_ fun j hj => hk j (List.mem_cons_of_mem _ hj)
    split
    · exact hk k List.mem_cons_self
    · exact h
theorem max_le {S : List Str} {kvs : List (Key × D)} (h : DictOk S (fun i => 1 ≤ i ∧ i ≤ 99) kvs) (h0 : kvs ≠ []) : ∃ i, dMax (.lst (kvs.map (·.2))) = some (fi i) ∧ i ≤ 99 := by
  have : ∀ kvs : List (Key × D), (∀ p ∈ kvs, ∃ m i, p = (.inr m, .int i) ∧ m ∈ S ∧ (1 ≤ i ∧ i ≤ 99)) → ∃ ns, intsOf (kvs.map (·.2)) = some ns ∧ ns.length = kvs.length ∧ ∀ n ∈ ns, n ≤ 99 := fun kvs => by
    induction kvs with
    | nil => intro _; exact ⟨[], rfl, rfl, by simp⟩
    | cons p kvs ih =>
      intro h
      obtain ⟨m, i, rfl, _, h1⟩ := h p List.mem_cons_self
      obtain ⟨ns, e, l, hn⟩ := ih fun q hq => h q (List.mem_cons_of_mem _ hq)
      refine ⟨i :: ns, ?_, by rw [List.length_cons, List.length_cons, l], fun n hn2 => ?_⟩
      · show (intsOf (kvs.map (·.2))).map (i :: ·) = _
        rw [e]; rfl
      · rcases List.mem_cons.mp hn2 with rfl | hn2
        · exact h1.2
        · exact hn n hn2
  obtain ⟨ns, e, l, hn⟩ := this kvs h.2
  cases ns with
  | nil => exact absurd (List.length_eq_zero_iff.mp (by rw [← l]; rfl)) h0
  | cons n ns =>
    refine ⟨PV.top n ns, ?_, top_le (hn n List.mem_cons_self) fun k hk => hn k (List.mem_cons_of_mem _ hk)⟩
    unfold dMax
    simp only [e]
theorem law_amiss_none {k : D} : f_law_amiss [.non, k] = some (.fz (.str ""), [.non, .non]) := by
  unfold f_law_amiss mFun m_law_amiss
  simp [svs, mSeq, mIfS, PV.tB, x1, ev1, Rc.pre, Rc.fin, SV.get, dIsN, fb, mRet, xC, outsOf]
theorem law_amiss_some {kvs : List (Key × D)} {ks : List Str} (hS : ∀ m ∈ ks, m ∈ ALLN) (h0 : kvs ≠ []) (hl : kvs.length ≤ 1000) (h : DictOk ks (fun i => 1 ≤ i ∧ i ≤ 99) kvs) : f_law_amiss [.dK kvs, .lst (ks.map .str)] = some (.fz (.str ""), [.non, .non]) := by
  have e1 := is_heap_ok hS (fun i h => h.1) h
  have e2 := dEqB_nil h
  obtain ⟨i, e4, hi⟩ := max_le h h0
  have e5 : ¬ (99 < i) := by omega
  have s0 : ∃ s : S, s = [.fz (.dK kvs), .fz (.lst (ks.map .str)), .un] := ⟨_, rfl⟩
  have e3 : xLc [2] (sIt (xV 0)) (.nm 2) PV.tYes (x2 dIn (.v 2) (.v 1)) [.fz (.dK kvs), .fz (.lst (ks.map .str)), .un] = some (.ow (.lst (List.replicate kvs.length (.bl true))), [.fz (.dK kvs), .fz (.lst (ks.map .str)), .un]) := by
    have z := xLc_pure (vs := [2]) (src := sIt (xV 0)) (tg := .nm 2) (t := PV.tYes) (e := x2 dIn (.v 2) (.v 1)) (s0 := [.fz (.dK kvs), .fz (.lst (ks.map .str)), .un]) (s1 := [.fz (.dK kvs), .fz (.lst (ks.map .str)), .un]) (ds := kvs.map fun p => kD p.1) (f := fun _ => some (.bl true)) (by simp [sIt, sOf, xV, AV.d, itemsOf]) rfl (by rw [List.length_map]; exact hl) fun d hd => by
      obtain ⟨p, hp, rfl⟩ := List.mem_map.mp hd
      obtain ⟨m, j, rfl, hm, _⟩ := h.2 p hp
      have e := str_in (m := m) (ks := ks)
      refine ⟨[.fz (.dK kvs), .fz (.lst (ks.map .str)), .fz (.str m)], rfl, .inl ⟨[.fz (.dK kvs), .fz (.lst (ks.map .str)), .fz (.str m)], fb true, [.fz (.dK kvs), .fz (.lst (ks.map .str)), .fz (.str m)], rfl, rfl, ?_, rfl, rfl⟩⟩
      simp [x2, ev2, Rc.pre, Rc.fin, SV.get, dIn, e, hm, fb]
    rw [z]
    have : (kvs.map fun p => kD p.1).filterMap (fun _ => some (D.bl true)) = List.replicate kvs.length (.bl true) := by
      rw [fm_const, List.length_map]
    rw [this]
    rfl
  have g : m_law_amiss [.fz (.dK kvs), .fz (.lst (ks.map .str)), .un] = some (.rt (.fz (.str "")), [.fz (.dK kvs), .fz (.lst (ks.map .str)), .un]) := by
    unfold m_law_amiss
    refine (mSeq_nx (s' := [.fz (.dK kvs), .fz (.lst (ks.map .str)), .un]) ?_).trans ((mSeq_nx (s' := [.fz (.dK kvs), .fz (.lst (ks.map .str)), .un]) ?_).trans ((mSeq_nx (s' := [.fz (.dK kvs), .fz (.lst (ks.map .str)), .un]) ?_).trans ?_))
    · simp [mIfS, PV.tB, x1, ev1, Rc.pre, Rc.fin, SV.get, dIsN, fb, mSkip]
    · simp [mIfS, PV.tOr, PV.tNot, tTru, PV.tB, xCall, evL, preL, finL, x2, ev2, dNewK, xC0, Rc.pre, Rc.fin, xV, SV.get, AV.d, e1, dTru, upds, dEq, e2, h0, fb, mSkip]
    · simp [mIfS, PV.tNot, tTru, x1, ev1, Rc.pre, Rc.fin, e3, AV.d, all_true, dTru, fb, mSkip]
    · simp [mRet, xIf, PV.tB, x2, x1, ev1, ev2, Rc.pre, Rc.fin, SV.get, AV.d, dValsL, e4, fi, xC, dGt, fb, e5]
  unfold f_law_amiss mFun
  simp [svs, g, outsOf]
end Wk
namespace Wk
open PySem PV
theorem enum_get {ds : List D} {i : Nat} {x : D} (h : (enumOf 0 ds)[i]? = some x) : ∃ d, ds[i]? = some d ∧ x = .tup [.int (i : Nat), d] := by
  rw [enumOf_get] at h
  obtain ⟨d, hd, rfl⟩ := Option.map_eq_some_iff.mp h
  exact ⟨d, hd, by rw [Nat.zero_add]⟩
theorem is_row_ok {xs : List D} : f_is_row [.lst xs] = some (.fz (.bl true), [.non]) := by
  unfold f_is_row mFun m_is_row
  simp [svs, mRet, x1, ev1, Rc.pre, Rc.fin, SV.get, dIsa, tyD, isaB, fb, outsOf]
theorem nodup_len {α : Type} [DecidableEq α] : ∀ {l k : List α}, l.Nodup → (∀ x ∈ l, x ∈ k) → l.length ≤ k.length
  | [], _, _, _ => Nat.zero_le _
  | x :: l, k, nd, h => by
    rw [List.nodup_cons] at nd
    have hx : x ∈ k := h x List.mem_cons_self
    have ih := nodup_len (l := l) (k := k.erase x) nd.2 fun y hy => by
      have ne : y ≠ x := fun z => nd.1 (by rw [← z]; exact hy)
      exact (List.mem_erase_of_ne ne).mpr (h y (List.mem_cons_of_mem _ hy))
    rw [List.length_erase_of_mem hx] at ih
    have := List.length_pos_of_mem hx
    rw [List.length_cons]
    omega
theorem eq_empty : dEqB (.str "") (.str "") = some true := by decide +kernel
theorem look_rows_ok {rs : Tab} (T : TabOk rs) : f_look_rows [.lst (rs.map rowD)] = some (.fz .non, [.non]) := by
  have R : ∃ R, R = D.lst (rs.map rowD) := ⟨_, rfl⟩
  obtain ⟨R, hR⟩ := R
  have e0 := eq_empty
  have hlen : (rs.map rowD).length = rs.length := List.length_map ..
  have h1 : 1 ≤ rs.length := List.length_pos_iff.mpr T.ne
  have hn : (names rs).length = rs.length := List.length_map ..
  have hnl := T.len
  have loop1 := forL_ix (tg := .tp [.nm 2, .nm 3]) (body := m_look_rows_1) (fun i s => ∃ a2 a3 a4, s = [.fz (.lst (rs.map rowD)), .ow (.lst (((names rs).take i).map .str)), a2, a3, a4, .un, .un] ∧ a2.pin = false ∧ a3.pin = false ∧ a4.pin = false) (enumOf 0 (rs.map rowD)) 0 [.fz (.lst (rs.map rowD)), .ow (.lst []), .un, .un, .un, .un, .un] ⟨.un, .un, .un, rfl, rfl, rfl, rfl⟩ fun i d s hd hs => by
    obtain ⟨a2, a3, a4, rfl, p2, p3, p4⟩ := hs
    obtain ⟨x, hx, rfl⟩ := enum_get hd
    rw [List.getElem?_map] at hx
    obtain ⟨r, hr, rfl⟩ := Option.map_eq_some_iff.mp hx
    have hi : i < rs.length := (List.getElem?_eq_some_iff.mp hr).1
    have hin : i < (names rs).length := by rw [hn]; exact hi
    have er : (names rs)[i] = r.1 := by
      have : (names rs)[i]? = some r.1 := by unfold names; rw [List.getElem?_map, hr]; rfl
      rw [List.getElem?_eq_getElem hin] at this
      exact Option.some.inj this
    have hm : r.1 ∈ names rs := List.mem_map.mpr ⟨r, List.mem_of_getElem? hr, rfl⟩
    have hk : r.1 ∉ (names rs).take i := by
      intro z
      rw [List.mem_take_iff_getElem] at z
      obtain ⟨j, hj, ej⟩ := z
      have hj2 : j < (names rs).length := by omega
      have : j = i := by
        have nd := T.nd
        exact (List.getElem_inj nd).mp (by rw [ej, er])
      omega
    have e1 := row_amiss_ok (m := r.1) (o := itsD r.2) (ks := (names rs).take i) (T.good _ hm) hk
    have hz : (((names rs).take i).map D.str).length < 16777216 := by rw [List.length_map, List.length_take]; omega
    rw [Nat.zero_add]
    refine ⟨[.fz (.lst (rs.map rowD)), .ow (.lst (((names rs).take i).map .str)), .fz (.int (i : Nat)), .fz (rowD r), a4, .un, .un], [.fz (.lst (rs.map rowD)), .ow (.lst (((names rs).take (i + 1)).map .str)), .fz (.int (i : Nat)), .fz (rowD r), .fz (.str ""), .un, .un], ?_, ?_, _, _, _, rfl, rfl, rfl, rfl⟩
    · simp [asgT, asgTs, put, p2, p3]
    · unfold m_look_rows_1
      rw [List.take_succ_eq_append_getElem hin, er, List.map_append]
      have hz2 : ((names rs).take i).length < 16777216 := by rw [List.length_take]; omega
      generalize (names rs).take i = ks at e1 hz2 ⊢
      refine (mSeq_nx (s' := [.fz (.lst (rs.map rowD)), .ow (.lst (ks.map .str)), .fz (.int (i : Nat)), .fz (rowD r), .fz (.str ""), .un, .un]) ?_).trans ((mSeq_nx (s' := [.fz (.lst (rs.map rowD)), .ow (.lst (ks.map .str)), .fz (.int (i : Nat)), .fz (rowD r), .fz (.str ""), .un, .un]) ?_).trans ?_)
      · have e1' : f_row_amiss [rowD r, .lst (ks.map .str)] = some (.fz (.str ""), [.non, .lst (ks.map .str)]) := e1
        simp [mAsg, xCall, evL, preL, finL, Rc.pre, Rc.fin, xV, SV.get, AV.d, AV.sv, e1', upds, put, p4]
      · simp [mIfS, PV.tB, x2, ev2, Rc.pre, Rc.fin, SV.get, xC, AV.d, dNe, e0, fb, mSkip]
      · simp [mDrop, chgR, Rc.tgt, Rc.pre, Rc.fin, SV.get, ev1, x2, ev2, xC, AV.d, rowD, dIx, ixAt, chg, cApp, SZ, hz2]
  obtain ⟨s1, l1, a2, a3, a4, rfl, p2, p3, p4⟩ := loop1
  have hel : (enumOf 0 (rs.map rowD)).length = rs.length := by rw [enumOf_len, hlen]
  rw [Nat.zero_add, hel, show (names rs).take rs.length = names rs from by rw [← hn, List.take_length]] at l1
  have loop2 := forL_ix (tg := .tp [.nm 2, .tp [.nm 5, .nm 6]]) (body := m_look_rows_2) (fun i s => ∃ a1 a2 a3 a4 a5 a6, s = [.fz (.lst (rs.map rowD)), a1, a2, a3, a4, a5, a6] ∧ LS a1 (.lst ((names rs).map .str)) ∧ a2.pin = false ∧ a4.pin = false ∧ a5.pin = false ∧ a6.pin = false) (enumOf 0 (rs.map rowD)) 0 [.fz (.lst (rs.map rowD)), .ow (.lst ((names rs).map .str)), a2, a3, a4, .un, .un] ⟨_, a2, a3, a4, .un, .un, rfl, .inl rfl, p2, p4, rfl, rfl⟩ fun i d s hd hs => by
    obtain ⟨a1, a2, a3, a4, a5, a6, rfl, hl, p2, p4, p5, p6⟩ := hs
    obtain ⟨x, hx, rfl⟩ := enum_get hd
    rw [List.getElem?_map] at hx
    obtain ⟨r, hr, rfl⟩ := Option.map_eq_some_iff.mp hx
    have hrm := List.mem_of_getElem? hr
    have e1 : f_law_amiss [itsD r.2, .lst ((names rs).map .str)] = some (.fz (.str ""), [.non, .non]) := by
      cases ho : r.2 with
      | none => exact law_amiss_none
      | some kvs =>
        obtain ⟨g1, g2⟩ := T.its r hrm kvs ho
        refine law_amiss_some T.good g1 ?_ g2
        have : kvs.length ≤ (names rs).length := by
          have := nodup_len (k := (names rs).map Sum.inr) g2.1 fun k hk => by
            obtain ⟨p, hp, rfl⟩ := List.mem_map.mp hk
            obtain ⟨m, j, rfl, hm, _⟩ := g2.2 p hp
            exact List.mem_map.mpr ⟨m, hm, rfl⟩
          rw [List.length_map, List.length_map] at this
          exact this
        omega
    refine ⟨[.fz (.lst (rs.map rowD)), a1, .fz (.int (i : Nat)), a3, a4, .fz (.str r.1), .fz (itsD r.2)], [.fz (.lst (rs.map rowD)), .fz (.lst ((names rs).map .str)), .fz (.int (i : Nat)), a3, .fz (.str ""), .fz (.str r.1), .fz (itsD r.2)], ?_, ?_, _, _, _, _, _, _, rfl, .inr rfl, rfl, rfl, rfl, rfl⟩
    · simp [asgT, asgTs, put, rowD, p2, p5, p6]
    · unfold m_look_rows_2
      refine (mSeq_nx (s' := [.fz (.lst (rs.map rowD)), .fz (.lst ((names rs).map .str)), .fz (.int (i : Nat)), a3, .fz (.str ""), .fz (.str r.1), .fz (itsD r.2)]) ?_).trans ?_
      · rcases hl with rfl | rfl <;>
        simp [mAsg, xCall, evL, preL, finL, Rc.pre, Rc.fin, xV, SV.get, AV.d, AV.sv, e1, upds, put, p4]
      · simp [mIfS, PV.tB, x2, ev2, Rc.pre, Rc.fin, SV.get, xC, AV.d, dNe, e0, fb, mSkip]
  obtain ⟨s2, l2, b1, b2, b3, b4, b5, b6, rfl, _⟩ := loop2
  have g : m_look_rows [.fz (.lst (rs.map rowD)), .un, .un, .un, .un, .un, .un] = some (.nx, [.fz (.lst (rs.map rowD)), b1, b2, b3, b4, b5, b6]) := by
    unfold m_look_rows
    refine (mSeq_nx (s' := [.fz (.lst (rs.map rowD)), .un, .un, .un, .un, .un, .un]) ?_).trans ((mSeq_nx (s' := [.fz (.lst (rs.map rowD)), .ow (.lst []), .un, .un, .un, .un, .un]) rfl).trans ((mSeq_nx (s' := [.fz (.lst (rs.map rowD)), .ow (.lst ((names rs).map .str)), a2, a3, a4, .un, .un]) ?_).trans ?_))
    · have h12 : (rs.length : Int) ≤ 12 := by omega
      have h11 : (1 : Int) ≤ rs.length := by omega
      simp [mIfS, PV.tOr, PV.tNot, tTru, PV.tB, xCall, evL, preL, finL, Rc.pre, Rc.fin, xV, xC, SV.get, AV.d, is_row_ok, dTru, upds, xChain, x1, ev1, dLen, fi, dLe, fb, h11, h12, mSkip]
    · refine (mFor_eq (s' := [.fz (.lst (rs.map rowD)), .ow (.lst []), .un, .un, .un, .un, .un]) ?_).trans l1
      simp [sEnum, sOf, xV, AV.d, lstOnly]
    · refine (mFor_eq (s' := [.fz (.lst (rs.map rowD)), .ow (.lst ((names rs).map .str)), a2, a3, a4, .un, .un]) ?_).trans l2
      simp [sEnum, sOf, xV, AV.d, lstOnly]
  unfold f_look_rows mFun
  simp [svs, g, outsOf]
end Wk
namespace Wk
open PySem PV
theorem gp_new {κ α : Type} [DecidableEq κ] {kvs : List (κ × α)} {k : κ} {v : α} (h : k ∉ kvs.map (·.1)) : gp kvs k v = kvs ++ [(k, v)] := by
  unfold gp
  rw [if_neg (fun z => h (any_key.mp z))]
def DcStep (vs : List Nat) (tg : Tg) (t : TM) (k e : XM) (s : List SV) (f : D → Option (Key × D)) (d : D) : Prop :=
  ∃ s1, asgT tg d s = some s1 ∧ ((∃ s2 p kd s3, f d = some p ∧ t s1 = some (true, s2) ∧ ev2 (.e k) (.e e) s2 = some ((kd, p.2), s3) ∧ keyOf kd = some p.1 ∧ calm s3 vs = true ∧ wipeS s3 vs = s) ∨ (∃ s2, f d = none ∧ t s1 = some (false, s2) ∧ calm s2 vs = true ∧ wipeS s2 vs = s))
theorem dcL_pure {vs : List Nat} {tg : Tg} {t : TM} {k e : XM} {s : List SV} {f : D → Option (Key × D)} : ∀ (ds : List D) (acc : List (Key × D)), acc.length + ds.length ≤ 1000 → ((acc ++ ds.filterMap f).map (·.1)).Nodup → (∀ d ∈ ds, DcStep vs tg t k e s f d) → dcL vs tg t k e ds acc s = some (acc ++ ds.filterMap f, s)
  | [], acc, _, _, _ => by unfold dcL; simp
  | d :: ds, acc, hl, nd, h => by
    rw [List.length_cons] at hl
    obtain ⟨s1, e1, z⟩ := h d List.mem_cons_self
    have hS : acc.length < SZ := by unfold SZ; omega
    unfold dcL
    rw [e1]
    rcases z with ⟨s2, p, kd, s3, ef, e2, e3, ek, e4, e5⟩ | ⟨s2, ef, e2, e3, e4⟩
    · rw [List.filterMap_cons_some ef] at nd ⊢
      have hk : p.1 ∉ acc.map (·.1) := by
        rw [List.map_append, List.nodup_append] at nd
        intro z
        exact nd.2.2 _ z p.1 (by rw [List.map_cons]; exact List.mem_cons_self) rfl
      have eg : acc ++ p :: ds.filterMap f = (acc ++ [p]) ++ ds.filterMap f := by rw [List.append_assoc]; rfl
      rw [eg] at nd ⊢
      simp only [e2, e3, ek]
      rw [if_pos ⟨hS, e4⟩, e5, gp_new hk]
      exact dcL_pure ds (acc ++ [p]) (by rw [List.length_append, List.length_singleton]; omega) nd fun d hd => h d (List.mem_cons_of_mem _ hd)
    · rw [List.filterMap_cons_none ef] at nd ⊢
      simp only [e2]
      rw [if_pos e3, e4]
      exact dcL_pure ds acc (by omega) nd fun d hd => h d (List.mem_cons_of_mem _ hd)
theorem xDc_pure {vs : List Nat} {src : PV.Src} {tg : Tg} {t : TM} {k e : XM} {s0 s1 : S} {ds : List D} {f : D → Option (Key × D)} (hs : src s0 = some (ds, s1)) (hc : calm s1 vs = true) (hl : ds.length ≤ 1000) (nd : ((ds.filterMap f).map (·.1)).Nodup) (h : ∀ d ∈ ds, DcStep vs tg t k e (wipeS s1 vs) f d) : xDc vs src tg t k e s0 = some (.ow (.dK (ds.filterMap f)), back s1 (wipeS s1 vs) vs) := by
  unfold xDc
  simp only [hs, hc, if_true]
  rw [dcL_pure ds [] (by rw [List.length_nil]; omega) (by simpa using nd) h]
  simp
theorem bSeq_some {a b : BM} {s s' : List SV} (h : a s = some s') : bSeq a b s = b s' := by
  unfold bSeq
  rw [h]
/-- a law, sorted as the book's order -/
def sortK (S : List Str) (kvs : List (Key × D)) : List (Key × D) := (S.map D.str).filterMap fun d => match d with
  | .str m => (gv kvs (.inr m)).map fun v => (.inr m, v)
  | _ => none
def lawD (S : List Str) : Option (List (Key × D)) → D
  | none => .non
  | some kvs => .dK (sortK S kvs)
def ordF : D → Option (Key × D)
  | .tup [.int i, .tup (.str m :: _)] => some (.inr m, .int i)
  | _ => none
def ordK (rs : Tab) : List (Key × D) := (enumOf 0 (rs.map rowD)).filterMap ordF
theorem ord_keys : ∀ (rs : Tab) (n : Nat), ((enumOf n (rs.map rowD)).filterMap ordF).map (·.1) = (names rs).map Sum.inr
  | [], _ => rfl
  | r :: rs, n => by
    show (((D.tup [.int (n : Int), rowD r]) :: enumOf (n + 1) (rs.map rowD)).filterMap ordF).map (·.1) = _
    rw [List.filterMap_cons_some (f := ordF) (b := (.inr r.1, .int (n : Int))) rfl, List.map_cons, ord_keys rs (n + 1)]
    rfl
theorem sort_keys_nd {S : List Str} {kvs : List (Key × D)} (nd : S.Nodup) : ((sortK S kvs).map (·.1)).Nodup := by
  have : ∀ S : List Str, (∀ k ∈ (sortK S kvs).map (·.1), ∃ m ∈ S, k = Sum.inr m) ∧ (S.Nodup → ((sortK S kvs).map (·.1)).Nodup) := fun S => by
    induction S with
    | nil => exact ⟨by simp [sortK], by simp [sortK]⟩
    | cons m S ih =>
      cases hg : gv kvs (Sum.inr m) with
      | none =>
        have e : sortK (m :: S) kvs = sortK S kvs := by
          unfold sortK
          rw [List.map_cons, List.filterMap_cons_none (by simp only [hg, Option.map_none])]
        rw [e]
        exact ⟨fun k hk => let ⟨m', h1, h2⟩ := ih.1 k hk; ⟨m', List.mem_cons_of_mem _ h1, h2⟩, fun nd => ih.2 (List.nodup_cons.mp nd).2⟩
      | some v =>
        have e : sortK (m :: S) kvs = (Sum.inr m, v) :: sortK S kvs := by
          unfold sortK
          rw [List.map_cons, List.filterMap_cons_some (b := (Sum.inr m, v)) (by simp only [hg, Option.map_some])]
        rw [e, List.map_cons]
        refine ⟨fun k hk => ?_, fun nd => ?_⟩
        · rcases List.mem_cons.mp hk with rfl | hk
          · exact ⟨m, List.mem_cons_self, rfl⟩
          · obtain ⟨m', h1, h2⟩ := ih.1 k hk
            exact ⟨m', List.mem_cons_of_mem _ h1, h2⟩
        · rw [List.nodup_cons] at nd ⊢
          refine ⟨fun hk => ?_, ih.2 nd.2⟩
          obtain ⟨m', h1, h2⟩ := ih.1 _ hk
          cases h2
          exact nd.1 h1
  exact (this S).2 nd
theorem str_key {m : Str} {kvs : List (Key × D)} : dInB (.str m) (.dK kvs) = some (gv kvs (Sum.inr m)).isSome := rfl
end Wk
namespace Wk
open PySem PV
abbrev bookFl (ord : List (Key × D)) : List (Str × Fd) := [("order", .d (.dK ord)), ("laws", .j 7)]
theorem sub_dict {ord : List (Key × D)} {S : List Str} {kvs laws : List (Key × D)} {R : D} {m : Str} {a4 a5 a6 : SV} (ho : ord.map (·.1) = S.map Sum.inr) (nd : S.Nodup) (hl : S.length ≤ 12) (c6 : a6.own = false) (p6 : a6.pin = false) :
    xDc [6] (sIt (xOwnF 0 "Book" "order")) (.nm 6) (PV.tB (x2 dIn (.v 6) (.v 3))) (xV 6) (x2 dIx (.v 3) (.v 6)) [.ob "Book" (bookFl ord), .fz R, .fz (.str m), .fz (.dK kvs), a4, a5, a6, .io (.dK laws)] = some (.ow (.dK (sortK S kvs)), [.ob "Book" (bookFl ord), .fz R, .fz (.str m), .fz (.dK kvs), a4, a5, a6, .io (.dK laws)]) := by
  have hs : sIt (xOwnF 0 "Book" "order") [.ob "Book" (bookFl ord), .fz R, .fz (.str m), .fz (.dK kvs), a4, a5, a6, .io (.dK laws)] = some (S.map D.str, [.ob "Book" (bookFl ord), .fz R, .fz (.str m), .fz (.dK kvs), a4, a5, a6, .io (.dK laws)]) := by
    have e : ord.map (fun p => kD p.1) = S.map D.str := by
      have : ord.map (fun p => kD p.1) = (ord.map (·.1)).map kD := by rw [List.map_map]; rfl
      rw [this, ho, List.map_map]
      rfl
    have ef : fdD (bookFl ord) "order" = some (.dK ord) := by
      unfold fdD gv
      rw [List.find?_cons, decide_eq_true rfl]
      rfl
    unfold sIt sOf
    have : xOwnF 0 "Book" "order" [.ob "Book" (bookFl ord), .fz R, .fz (.str m), .fz (.dK kvs), a4, a5, a6, .io (.dK laws)] = some (.fz (.dK ord), [.ob "Book" (bookFl ord), .fz R, .fz (.str m), .fz (.dK kvs), a4, a5, a6, .io (.dK laws)]) := by
      unfold xOwnF
      simp only [List.getElem?_cons_zero, if_true, ef, Option.map_some]
    rw [this]
    simp only [AV.d, itemsOf, Option.map_some, e]
  have hc : calm [.ob "Book" (bookFl ord), .fz R, .fz (.str m), .fz (.dK kvs), a4, a5, a6, .io (.dK laws)] [6] = true := by
    simp [calm, c6, p6]
  have z := xDc_pure (vs := [6]) (tg := .nm 6) (t := PV.tB (x2 dIn (.v 6) (.v 3))) (k := xV 6) (e := x2 dIx (.v 3) (.v 6)) (f := fun d => match d with
    | .str m => (gv kvs (Sum.inr m)).map fun v => (Sum.inr m, v)
    | _ => none) hs hc (by rw [List.length_map]; omega) (sort_keys_nd nd) fun d hd => by
    obtain ⟨q, hq, rfl⟩ := List.mem_map.mp hd
    refine ⟨[.ob "Book" (bookFl ord), .fz R, .fz (.str m), .fz (.dK kvs), a4, a5, .fz (.str q), .io (.dK laws)], rfl, ?_⟩
    have e := str_key (m := q) (kvs := kvs)
    cases hg : gv kvs (Sum.inr q) with
    | none =>
      rw [hg] at e
      refine .inr ⟨[.ob "Book" (bookFl ord), .fz R, .fz (.str m), .fz (.dK kvs), a4, a5, .fz (.str q), .io (.dK laws)], by simp only [hg, Option.map_none], ?_, rfl, rfl⟩
      simp [PV.tB, x2, ev2, Rc.pre, Rc.fin, SV.get, dIn, e, fb]
    | some v =>
      rw [hg] at e
      refine .inl ⟨[.ob "Book" (bookFl ord), .fz R, .fz (.str m), .fz (.dK kvs), a4, a5, .fz (.str q), .io (.dK laws)], (Sum.inr q, v), .str q, [.ob "Book" (bookFl ord), .fz R, .fz (.str m), .fz (.dK kvs), a4, a5, .fz (.str q), .io (.dK laws)], by simp only [hg, Option.map_some], ?_, ?_, rfl, rfl, rfl⟩
      · simp [PV.tB, x2, ev2, Rc.pre, Rc.fin, SV.get, dIn, e, fb]
      · simp [ev2, Rc.pre, Rc.fin, xV, x2, SV.get, dIx, keyOf, hg, AV.d]
  rw [z]
  rfl
theorem laws_keys {S : List Str} (rs : Tab) : ((rs.map fun r => ((Sum.inr r.1 : Key), lawD S r.2)).map (·.1)) = (names rs).map Sum.inr := by
  rw [List.map_map, names, List.map_map]
  rfl
def lawsK (rs : Tab) : List (Key × D) := rs.map fun r => (Sum.inr r.1, lawD (names rs) r.2)
theorem inr_nd {S : List Str} (nd : S.Nodup) : (S.map (Sum.inr : Str → Key)).Nodup := nd.map Sum.inr (fun a b h z => h (by cases z; rfl))
theorem book_turn {ord : List (Key × D)} {S : List Str} {laws : List (Key × D)} {R : D} {m : Str} {o : Option (List (Key × D))} {a4 a5 a6 : SV} (ho : ord.map (·.1) = S.map Sum.inr) (nd : S.Nodup) (hl : S.length ≤ 12) (c6 : a6.own = false) (p6 : a6.pin = false) (hz : laws.length < 1000) (hk : (Sum.inr m : Key) ∉ laws.map (·.1)) :
    m_Book_init_1 [.ob "Book" (bookFl ord), .fz R, .fz (.str m), .fz (itsD o), a4, a5, a6, .io (.dK laws)] = some (.nx, [.ob "Book" (bookFl ord), .fz R, .fz (.str m), .fz (itsD o), a4, a5, a6, .io (.dK (laws ++ [(Sum.inr m, lawD S o)]))]) := by
  have hj : fdJ (bookFl ord) "laws" = some 7 := by
    have ne : ¬ (("order" : Str) = "laws") := by decide +kernel
    unfold fdJ gv
    rw [List.find?_cons, decide_eq_false ne, List.find?_cons, decide_eq_true rfl]
    rfl
  have hhas : (SV.ob "Book" (bookFl ord)).has "Book" "laws" 7 = true := by
    unfold SV.has
    simp only [hj, decide_true, Bool.and_self]
  have hz2 : laws.length < 16777216 := by omega
  have val : xIf (PV.tB (x1 dIsN (.v 3))) (xC .non) (xDc [6] (sIt (xOwnF 0 "Book" "order")) (.nm 6) (PV.tB (x2 dIn (.v 6) (.v 3))) (xV 6) (x2 dIx (.v 3) (.v 6))) [.ob "Book" (bookFl ord), .fz R, .fz (.str m), .fz (itsD o), a4, a5, a6, .io (.dK laws)] = some (match o with
      | none => .fz .non
      | some kvs => .ow (.dK (sortK S kvs)), [.ob "Book" (bookFl ord), .fz R, .fz (.str m), .fz (itsD o), a4, a5, a6, .io (.dK laws)]) := by
    cases o with
    | none => simp [xIf, PV.tB, x1, ev1, Rc.pre, Rc.fin, SV.get, itsD, dIsN, fb, xC]
    | some kvs =>
      have := sub_dict (kvs := kvs) (laws := laws) (R := R) (m := m) (a4 := a4) (a5 := a5) ho nd hl c6 p6
      simp [xIf, PV.tB, x1, ev1, Rc.pre, Rc.fin, SV.get, itsD, dIsN, fb, this]
  unfold m_Book_init_1 mPut
  rw [val]
  have gn := gp_new (v := lawD S o) hk
  cases o with
  | none =>
    have gn : gp laws (Sum.inr m) D.non = laws ++ [(Sum.inr m, D.non)] := gn
    simp [Rc.tgt, Rc.pre, hhas, SV.get, ev1, Rc.fin, chg, cPut, keyOf, AV.d, SZ, hz2, gn, lawD]
  | some kvs =>
    have gn : gp laws (Sum.inr m) (D.dK (sortK S kvs)) = laws ++ [(Sum.inr m, D.dK (sortK S kvs))] := gn
    simp [Rc.tgt, Rc.pre, hhas, SV.get, ev1, Rc.fin, chg, cPut, keyOf, AV.d, SZ, hz2, gn, lawD]
end Wk
namespace Wk
open PySem PV
theorem b1_lem {rs : Tab} (T : TabOk rs) {fl : List (Str × Fd)} {a2 a3 a4 a5 a6 a7 : SV} : bGen "Book" (mDrop (xCall f_look_rows [(.e (xV 1))])) [.ob "Book" fl, .fz (.lst (rs.map rowD)), a2, a3, a4, a5, a6, a7] = some [.ob "Book" fl, .fz (.lst (rs.map rowD)), a2, a3, a4, a5, a6, a7] := by
  have e := look_rows_ok T
  have g : mDrop (xCall f_look_rows [(.e (xV 1))]) [.ob "Book" fl, .fz (.lst (rs.map rowD)), a2, a3, a4, a5, a6, a7] = some (.nx, [.ob "Book" fl, .fz (.lst (rs.map rowD)), a2, a3, a4, a5, a6, a7]) := by
    simp [mDrop, xCall, evL, preL, finL, Rc.pre, Rc.fin, xV, AV.d, e, upds]
  unfold bGen
  rw [g]
  simp only [List.getElem?_cons_zero, if_true]
theorem b2_lem {rs : Tab} (T : TabOk rs) : bFld "Book" "order" (xDc [4, 5] (sEnum (xV 1)) (.tp [.nm 4, .nm 5]) PV.tYes (x2 dIx (.v 5) (.e (xC (.int 0)))) (xV 4)) [.ob "Book" [], .fz (.lst (rs.map rowD)), .un, .un, .un, .un, .un, .un] = some [.ob "Book" [("order", .d (.dK (ordK rs)))], .fz (.lst (rs.map rowD)), .un, .un, .un, .un, .un, .un] := by
  have z := xDc_pure (vs := [4, 5]) (src := sEnum (xV 1)) (tg := .tp [.nm 4, .nm 5]) (t := PV.tYes) (k := x2 dIx (.v 5) (.e (xC (.int 0)))) (e := xV 4) (s0 := [.ob "Book" [], .fz (.lst (rs.map rowD)), .un, .un, .un, .un, .un, .un]) (s1 := [.ob "Book" [], .fz (.lst (rs.map rowD)), .un, .un, .un, .un, .un, .un]) (ds := enumOf 0 (rs.map rowD)) (f := ordF) (by simp [sEnum, sOf, xV, AV.d, lstOnly]) rfl (by rw [enumOf_len, List.length_map]; have := T.len; omega) (by rw [ord_keys]; exact inr_nd T.nd) fun d hd => by
    obtain ⟨i, hi⟩ := List.mem_iff_getElem?.mp hd
    obtain ⟨x, hx, rfl⟩ := enum_get hi
    rw [List.getElem?_map] at hx
    obtain ⟨r, hr, rfl⟩ := Option.map_eq_some_iff.mp hx
    refine ⟨[.ob "Book" [], .fz (.lst (rs.map rowD)), .un, .un, .fz (.int (i : Nat)), .fz (rowD r), .un, .un], rfl, .inl ⟨[.ob "Book" [], .fz (.lst (rs.map rowD)), .un, .un, .fz (.int (i : Nat)), .fz (rowD r), .un, .un], (Sum.inr r.1, .int (i : Nat)), .str r.1, [.ob "Book" [], .fz (.lst (rs.map rowD)), .un, .un, .fz (.int (i : Nat)), .fz (rowD r), .un, .un], rfl, rfl, ?_, rfl, rfl, rfl⟩⟩
    simp [ev2, Rc.pre, Rc.fin, xV, xC, x2, SV.get, dIx, ixAt, rowD, AV.d]
  unfold bFld
  rw [z]
  rfl
theorem b3_lem {ord : List (Key × D)} {R : D} : bNew "Book" "laws" 7 dNewK [.ob "Book" [("order", .d (.dK ord))], .fz R, .un, .un, .un, .un, .un, .un] = some [.ob "Book" (bookFl ord), .fz R, .un, .un, .un, .un, .un, .io (.dK [])] := by
  have ne : ¬ (("order" : Str) = "laws") := by decide +kernel
  have hg : (gv [(("order" : Str), Fd.d (.dK ord))] "laws").isNone = true := by
    unfold gv
    rw [List.find?_cons, decide_eq_false ne]
    rfl
  unfold bNew dNewK xC0
  simp only [List.getElem?_cons_zero]
  rw [show ([SV.ob "Book" [("order", Fd.d (.dK ord))], .fz R, .un, .un, .un, .un, .un, .un] : List SV)[7]? = some .un from rfl]
  simp only
  rw [if_pos ⟨trivial, rfl, hg, by simp, by decide⟩]
  rfl
theorem b4_lem {rs : Tab} (T : TabOk rs) : ∃ a2 a3, bSeq (bGen "Book" (mFor (sIt (xV 1)) (.tp [.nm 2, .nm 3]) m_Book_init_1)) (bFrz "Book" 7) [.ob "Book" (bookFl (ordK rs)), .fz (.lst (rs.map rowD)), .un, .un, .un, .un, .un, .io (.dK [])] = some [.ob "Book" [("order", .d (.dK (ordK rs))), ("laws", .d (.dK (lawsK rs)))], .fz (.lst (rs.map rowD)), a2, a3, .un, .un, .un, .un] ∧ a2.own = false ∧ a3.own = false ∧ a2.pin = false ∧ a3.pin = false := by
  have hlen := T.len
  have lk : (lawsK rs).map (·.1) = (names rs).map Sum.inr := laws_keys (S := names rs) rs
  have ll : (lawsK rs).length = rs.length := List.length_map ..
  have loop := forL_ix (tg := .tp [.nm 2, .nm 3]) (body := m_Book_init_1) (fun i s => ∃ a2 a3, s = [.ob "Book" (bookFl (ordK rs)), .fz (.lst (rs.map rowD)), a2, a3, .un, .un, .un, .io (.dK ((lawsK rs).take i))] ∧ a2.own = false ∧ a3.own = false ∧ a2.pin = false ∧ a3.pin = false) (rs.map rowD) 0 [.ob "Book" (bookFl (ordK rs)), .fz (.lst (rs.map rowD)), .un, .un, .un, .un, .un, .io (.dK [])] ⟨.un, .un, rfl, rfl, rfl, rfl, rfl⟩ fun i d s hd hs => by
    obtain ⟨a2, a3, rfl, o2, o3, p2, p3⟩ := hs
    rw [List.getElem?_map] at hd
    obtain ⟨r, hr, rfl⟩ := Option.map_eq_some_iff.mp hd
    have hi : i < rs.length := (List.getElem?_eq_some_iff.mp hr).1
    have hil : i < (lawsK rs).length := by rw [ll]; exact hi
    have el : (lawsK rs)[i] = (Sum.inr r.1, lawD (names rs) r.2) := by
      have : (lawsK rs)[i]? = some (Sum.inr r.1, lawD (names rs) r.2) := by unfold lawsK; rw [List.getElem?_map, hr]; rfl
      rw [List.getElem?_eq_getElem hil] at this
      exact Option.some.inj this
    rw [Nat.zero_add]
    have hk : (Sum.inr r.1 : Key) ∉ ((lawsK rs).take i).map (·.1) := by
      rw [List.map_take, lk]
      intro z
      rw [List.mem_take_iff_getElem] at z
      obtain ⟨j, hj, ej⟩ := z
      have nd := inr_nd T.nd
      have hlk : ((names rs).map (Sum.inr : Str → Key)).length = rs.length := by rw [List.length_map]; exact List.length_map ..
      have hji : j < ((names rs).map (Sum.inr : Str → Key)).length := by omega
      have hii : i < ((names rs).map (Sum.inr : Str → Key)).length := by omega
      have er : ((names rs).map (Sum.inr : Str → Key))[i] = Sum.inr r.1 := by
        have : ((names rs).map (Sum.inr : Str → Key))[i]? = some (Sum.inr r.1) := by rw [List.getElem?_map]; unfold names; rw [List.getElem?_map, hr]; rfl
        rw [List.getElem?_eq_getElem hii] at this
        exact Option.some.inj this
      have : j = i := (List.getElem_inj nd).mp (by rw [ej, er])
      omega
    have bt := book_turn (ord := ordK rs) (S := names rs) (laws := (lawsK rs).take i) (R := .lst (rs.map rowD)) (m := r.1) (o := r.2) (a4 := .un) (a5 := .un) (a6 := .un) (ord_keys rs 0) T.nd (by rw [show (names rs).length = rs.length from List.length_map ..]; exact hlen) rfl rfl (by rw [List.length_take]; omega) hk
    refine ⟨[.ob "Book" (bookFl (ordK rs)), .fz (.lst (rs.map rowD)), .fz (.str r.1), .fz (itsD r.2), .un, .un, .un, .io (.dK ((lawsK rs).take i))], [.ob "Book" (bookFl (ordK rs)), .fz (.lst (rs.map rowD)), .fz (.str r.1), .fz (itsD r.2), .un, .un, .un, .io (.dK ((lawsK rs).take (i + 1)))], ?_, ?_, _, _, rfl, rfl, rfl, rfl, rfl⟩
    · simp [asgT, asgTs, put, rowD, p2, p3]
    · rw [List.take_succ_eq_append_getElem hil, el]
      exact bt
  obtain ⟨s', e, a2, a3, rfl, o2, o3, p2, p3⟩ := loop
  rw [Nat.zero_add, List.length_map, ← ll, List.take_length] at e
  refine ⟨a2, a3, ?_, o2, o3, p2, p3⟩
  have g : bGen "Book" (mFor (sIt (xV 1)) (.tp [.nm 2, .nm 3]) m_Book_init_1) [.ob "Book" (bookFl (ordK rs)), .fz (.lst (rs.map rowD)), .un, .un, .un, .un, .un, .io (.dK [])] = some [.ob "Book" (bookFl (ordK rs)), .fz (.lst (rs.map rowD)), a2, a3, .un, .un, .un, .io (.dK (lawsK rs))] := by
    have gm : mFor (sIt (xV 1)) (.tp [.nm 2, .nm 3]) m_Book_init_1 [.ob "Book" (bookFl (ordK rs)), .fz (.lst (rs.map rowD)), .un, .un, .un, .un, .un, .io (.dK [])] = some (.nx, [.ob "Book" (bookFl (ordK rs)), .fz (.lst (rs.map rowD)), a2, a3, .un, .un, .un, .io (.dK (lawsK rs))]) := by
      refine (mFor_eq (s' := [.ob "Book" (bookFl (ordK rs)), .fz (.lst (rs.map rowD)), .un, .un, .un, .un, .un, .io (.dK [])]) ?_).trans e
      simp [sIt, sOf, xV, AV.d, itemsOf]
    unfold bGen
    rw [gm]
    simp only [List.getElem?_cons_zero, if_true]
  rw [bSeq_some g]
  cases a2 with
  | un => cases a3 with
    | un => rfl
    | fz _ => rfl
    | ow _ => cases o3
    | io _ => cases o3
    | ob _ _ => cases p3
    | lk _ => cases p3
  | fz _ => cases a3 with
    | un => rfl
    | fz _ => rfl
    | ow _ => cases o3
    | io _ => cases o3
    | ob _ _ => cases p3
    | lk _ => cases p3
  | ow _ => cases o2
  | io _ => cases o2
  | ob _ _ => cases p2
  | lk _ => cases p2
end Wk
namespace Wk
open PySem PV
def rowT : D → D
  | .dK kvs => .tup (kvs.map fun p => .tup [kD p.1, p.2])
  | _ => .non
theorem x1_e {f : D → Option AV} {m : XM} {s s' : S} {a b : AV} (h : m s = some (a, s')) (hf : f a.d = some b) : x1 f (.e m) s = some (b, s') := by
  unfold x1
  have : ev1 (.e m) s = some (a.d, s') := by simp only [ev1, Rc.pre, Rc.fin, h]
  rw [this]
  simp only [hf, Option.map_some]
theorem b5_lem {rs : Tab} (T : TabOk rs) {a2 a3 : SV} (o2 : a2.own = false) (o3 : a3.own = false) (p2 : a2.pin = false) (p3 : a3.pin = false) : ∃ rw_ s', bFld "Book" "rows" (x1 dTuple (.e (xLc [2, 3] (sItems (xOwnF 0 "Book" "laws")) (.tp [.nm 2, .nm 3]) PV.tYes (xL dTup [.e (xV 2), .e (xIf (PV.tB (x1 dIsN (.v 3))) (xC .non) (x1 dItemsT (.v 3)))])))) [.ob "Book" [("order", .d (.dK (ordK rs))), ("laws", .d (.dK (lawsK rs)))], .fz (.lst (rs.map rowD)), a2, a3, .un, .un, .un, .un] = some (.ob "Book" [("order", .d (.dK (ordK rs))), ("laws", .d (.dK (lawsK rs))), ("rows", .d rw_)] :: s') := by
  have n1 : ¬ (("order" : Str) = "laws") := by decide +kernel
  have n2 : ¬ (("order" : Str) = "rows") := by decide +kernel
  have n3 : ¬ (("laws" : Str) = "rows") := by decide +kernel
  have ef : fdD [("order", Fd.d (.dK (ordK rs))), ("laws", Fd.d (.dK (lawsK rs)))] "laws" = some (.dK (lawsK rs)) := by
    unfold fdD gv
    rw [List.find?_cons, decide_eq_false n1, List.find?_cons, decide_eq_true rfl]
    rfl
  have er : (gv [(("order" : Str), Fd.d (.dK (ordK rs))), ("laws", Fd.d (.dK (lawsK rs)))] "rows").isNone = true := by
    unfold gv
    rw [List.find?_cons, decide_eq_false n2, List.find?_cons, decide_eq_false n3]
    rfl
  generalize hfl : [(("order" : Str), Fd.d (.dK (ordK rs))), ("laws", Fd.d (.dK (lawsK rs)))] = fl at ef er ⊢
  have hs : sItems (xOwnF 0 "Book" "laws") [.ob "Book" fl, .fz (.lst (rs.map rowD)), a2, a3, .un, .un, .un, .un] = some ((lawsK rs).map fun p => .tup [kD p.1, p.2], [.ob "Book" fl, .fz (.lst (rs.map rowD)), a2, a3, .un, .un, .un, .un]) := by
    have : xOwnF 0 "Book" "laws" [.ob "Book" fl, .fz (.lst (rs.map rowD)), a2, a3, .un, .un, .un, .un] = some (.fz (.dK (lawsK rs)), [.ob "Book" fl, .fz (.lst (rs.map rowD)), a2, a3, .un, .un, .un, .un]) := by
      unfold xOwnF
      simp only [List.getElem?_cons_zero, if_true, ef, Option.map_some]
    unfold sItems sOf
    rw [this]
    rfl
  have hc : calm [.ob "Book" fl, .fz (.lst (rs.map rowD)), a2, a3, .un, .un, .un, .un] [2, 3] = true := by
    simp [calm, o2, o3, p2, p3]
  have z := xLc_pure (vs := [2, 3]) (tg := .tp [.nm 2, .nm 3]) (t := PV.tYes) (e := xL dTup [.e (xV 2), .e (xIf (PV.tB (x1 dIsN (.v 3))) (xC .non) (x1 dItemsT (.v 3)))]) (f := fun d => match d with
    | .tup [k, v] => some (.tup [k, rowT v])
    | _ => none) hs hc (by rw [List.length_map]; unfold lawsK; rw [List.length_map]; have := T.len; omega) fun d hd => by
    obtain ⟨p, hp, rfl⟩ := List.mem_map.mp hd
    obtain ⟨r, hr, rfl⟩ := List.mem_map.mp hp
    refine ⟨[.ob "Book" fl, .fz (.lst (rs.map rowD)), .fz (.str r.1), .fz (lawD (names rs) r.2), .un, .un, .un, .un], rfl, .inl ⟨[.ob "Book" fl, .fz (.lst (rs.map rowD)), .fz (.str r.1), .fz (lawD (names rs) r.2), .un, .un, .un, .un], .fz (.tup [.str r.1, rowT (lawD (names rs) r.2)]), [.ob "Book" fl, .fz (.lst (rs.map rowD)), .fz (.str r.1), .fz (lawD (names rs) r.2), .un, .un, .un, .un], rfl, rfl, ?_, rfl, rfl⟩⟩
    cases r.2 with
    | none => simp [xL, evL, preL, finL, Rc.pre, Rc.fin, xV, xIf, PV.tB, x1, ev1, SV.get, lawD, dIsN, fb, xC, AV.d, dTup, rowT]
    | some kvs => simp [xL, evL, preL, finL, Rc.pre, Rc.fin, xV, xIf, PV.tB, x1, ev1, SV.get, lawD, dIsN, fb, xC, AV.d, dTup, rowT, dItemsT]
  have hx : ∃ t s', x1 dTuple (.e (xLc [2, 3] (sItems (xOwnF 0 "Book" "laws")) (.tp [.nm 2, .nm 3]) PV.tYes (xL dTup [.e (xV 2), .e (xIf (PV.tB (x1 dIsN (.v 3))) (xC .non) (x1 dItemsT (.v 3)))]))) [.ob "Book" fl, .fz (.lst (rs.map rowD)), a2, a3, .un, .un, .un, .un] = some (.fz t, .ob "Book" fl :: s') ∧ noOb s' = true := by
    refine ⟨_, _, x1_e z rfl, ?_⟩
    cases a2 with
    | un => cases a3 with
      | un => rfl
      | fz _ => rfl
      | ow _ => cases o3
      | io _ => cases o3
      | ob _ _ => cases p3
      | lk _ => cases p3
    | fz _ => cases a3 with
      | un => rfl
      | fz _ => rfl
      | ow _ => cases o3
      | io _ => cases o3
      | ob _ _ => cases p3
      | lk _ => cases p3
    | ow _ => cases o2
    | io _ => cases o2
    | ob _ _ => cases p2
    | lk _ => cases p2
  obtain ⟨t, s', e, no⟩ := hx
  refine ⟨t, s', ?_⟩
  have hl : fl.length < 900 := by rw [← hfl]; simp
  unfold bFld
  rw [e]
  simp only [List.getElem?_cons_zero, List.tail_cons]
  rw [if_pos ⟨trivial, no, er, hl⟩, ← hfl]
  rfl
def bookD (rs : Tab) (rw_ : D) : D := .ins "Book" [("order", .dK (ordK rs)), ("laws", .dK (lawsK rs)), ("rows", rw_)]
theorem book_ok {rs : Tab} (T : TabOk rs) : ∃ rw_, g_Book [.lst (rs.map rowD)] = some (bookD rs rw_) := by
  obtain ⟨a2, a3, e4, o2, o3, p2, p3⟩ := b4_lem T
  obtain ⟨rw_, s', e5⟩ := b5_lem T o2 o3 p2 p3
  have g : m_Book_init [.ob "Book" [], .fz (.lst (rs.map rowD)), .un, .un, .un, .un, .un, .un] = some (.ob "Book" [("order", .d (.dK (ordK rs))), ("laws", .d (.dK (lawsK rs))), ("rows", .d rw_)] :: s') := by
    unfold m_Book_init
    rw [bSeq_some (b1_lem T), bSeq_some (b2_lem T), bSeq_some b3_lem, bSeq_some e4, bSeq_some e5]
    rfl
  refine ⟨rw_, ?_⟩
  unfold g_Book mkI
  rw [if_pos (by rfl)]
  show (match m_Book_init [.ob "Book" [], .fz (.lst (rs.map rowD)), .un, .un, .un, .un, .un, .un] with
    | some s' => match s'[0]? with
      | some (SV.ob B fl) => if B = "Book" then (fdAll fl).map (D.ins "Book") else none
      | _ => none
    | none => none) = _
  rw [g]
  simp only [List.getElem?_cons_zero, if_true]
  rfl
end Wk
namespace Wk
open PySem PV
theorem gv_some {κ α : Type} [DecidableEq κ] {k : κ} : ∀ {kvs : List (κ × α)}, k ∈ kvs.map (·.1) → (gv kvs k).isSome = true
  | [], h => by simp at h
  | p :: kvs, h => by
    unfold gv
    rw [List.find?_cons]
    by_cases z : p.1 = k
    · rw [decide_eq_true z]; rfl
    · rw [decide_eq_false z]
      rw [List.map_cons, List.mem_cons] at h
      exact gv_some (kvs := kvs) (h.resolve_left fun y => z y.symm)
theorem gv_none' {κ α : Type} [DecidableEq κ] {k : κ} : ∀ {kvs : List (κ × α)}, k ∉ kvs.map (·.1) → gv kvs k = none
  | [], _ => rfl
  | p :: kvs, h => by
    rw [List.map_cons, List.mem_cons] at h
    unfold gv
    rw [List.find?_cons, decide_eq_false fun z => h (.inl z.symm)]
    exact gv_none' (kvs := kvs) fun y => h (.inr y)
theorem bfld {rs : Tab} {rw_ : D} : dFldC "Book" "order" (bookD rs rw_) = some (.fz (.dK (ordK rs))) ∧ dFldC "Book" "laws" (bookD rs rw_) = some (.fz (.dK (lawsK rs))) := by
  have n1 : ¬ (("order" : Str) = "laws") := by decide +kernel
  constructor
  · simp [dFldC, bookD, gv]
  · simp [dFldC, bookD, gv, n1]
theorem has_ok {rs : Tab} {rw_ : D} {m : Str} (T : TabOk rs) (h : m ∈ names rs) : f_Book_has [bookD rs rw_, .str m] = some (.fz (.bl true), [.non, .non]) := by
  have e1 := name_ok (T.good m h)
  have e2 := (bfld (rs := rs) (rw_ := rw_)).1
  have e3 : dInB (.str m) (.dK (ordK rs)) = some true := by
    rw [str_key, gv_some]
    rw [show (ordK rs).map (·.1) = (names rs).map Sum.inr from ord_keys rs 0]
    exact List.mem_map.mpr ⟨m, h, rfl⟩
  generalize bookD rs rw_ = B at e2
  have g : m_Book_has [.fz B, .fz (.str m)] = some (.rt (.fz (.bl true)), [.fz B, .fz (.str m)]) := by
    unfold m_Book_has
    simp [mRet, xAnd, xCall, evL, preL, finL, Rc.pre, Rc.fin, xV, AV.d, e1, upds, x2, ev2, SV.get, x1, ev1, e2, dIn, e3, fb]
  unfold f_Book_has mFun
  simp [svs, g, outsOf]
theorem look_in_ok {rs : Tab} {rw_ : D} {P : Int → Prop} {kvs : List (Key × D)} (T : TabOk rs) (hP : ∀ i, P i → 1 ≤ i) (h : DictOk (names rs) P kvs) : f_look_in [bookD rs rw_, .dK kvs] = some (.fz .non, [.non, .non]) := by
  have hh : ∀ m ∈ names rs, f_Book_has [bookD rs rw_, .str m] = some (.fz (.bl true), [.non, .non]) := fun m hm => has_ok T hm
  have nh : (gv [(("order" : Str), D.dK (ordK rs)), ("laws", .dK (lawsK rs)), ("rows", rw_)] "has").isNone = true := by
    have n1 : ¬ (("order" : Str) = "has") := by decide +kernel
    have n2 : ¬ (("laws" : Str) = "has") := by decide +kernel
    have n3 : ¬ (("rows" : Str) = "has") := by decide +kernel
    simp [gv, n1, n2, n3]
  have hm : ∀ (s : S) (m : Str), m ∈ names rs → s[0]? = some (.fz (bookD rs rw_)) → s[2]? = some (.fz (.str m)) → xMeth "Book" "has" f_Book_has (xV 0) [.e (xV 2)] s = some (.fz (.bl true), s) := fun s m hmm e0 e2 => by
    have e := hh m hmm
    have v0 : xV 0 s = some (.fz (bookD rs rw_), s) := by unfold xV; rw [e0]
    have v2 : xV 2 s = some (.fz (.str m), s) := by unfold xV; rw [e2]
    unfold xMeth
    rw [v0]
    unfold bookD at e ⊢
    simp only [AV.d]
    rw [if_pos ⟨trivial, nh⟩]
    simp [xCall, evL, preL, finL, Rc.pre, Rc.fin, xC, v2, AV.d, e, upds]
  generalize bookD rs rw_ = B at hm
  have loop := forL_ix (tg := .tp [.nm 2, .nm 3]) (body := m_look_in_1) (fun i s => ∃ a b, s = [.fz B, .fz (.dK kvs), a, b] ∧ a.pin = false ∧ b.pin = false) (kvs.map fun p => .tup [kD p.1, p.2]) 0 [.fz B, .fz (.dK kvs), .un, .un] ⟨.un, .un, rfl, rfl, rfl⟩ fun i d s hd hs => by
    obtain ⟨a, b, rfl, p1, p2⟩ := hs
    rw [List.getElem?_map] at hd
    obtain ⟨p, hp, rfl⟩ := Option.map_eq_some_iff.mp hd
    obtain ⟨m, j, rfl, hmm, hj⟩ := h.2 p (List.mem_of_getElem? hp)
    refine ⟨[.fz B, .fz (.dK kvs), .fz (.str m), .fz (.int j)], [.fz B, .fz (.dK kvs), .fz (.str m), .fz (.int j)], ?_, ?_, _, _, rfl, rfl, rfl⟩
    · simp [asgT, asgTs, put, kD, p1, p2]
    · have e1 := hm [.fz B, .fz (.dK kvs), .fz (.str m), .fz (.int j)] m hmm rfl rfl
      have e2 := whole_ok (hP j hj)
      unfold m_look_in_1
      refine (mSeq_nx (s' := [.fz B, .fz (.dK kvs), .fz (.str m), .fz (.int j)]) ?_).trans ?_
      · simp [mIfS, PV.tNot, tTru, e1, AV.d, dTru, mSkip]
      · simp [mIfS, PV.tNot, tTru, xCall, evL, preL, finL, Rc.pre, Rc.fin, xV, xC, AV.d, e2, dTru, upds, mSkip]
  obtain ⟨s', e, a, b, rfl, p1, p2⟩ := loop
  have g : m_look_in [.fz B, .fz (.dK kvs), .un, .un] = some (.nx, [.fz B, .fz (.dK kvs), a, b]) := by
    unfold m_look_in
    refine (mSeq_nx (s' := [.fz B, .fz (.dK kvs), .un, .un]) ?_).trans ?_
    · simp [mIfS, PV.tNot, tTru, x1, ev1, Rc.pre, Rc.fin, SV.get, dIsa, tyD, isaB, fb, AV.d, dTru, mSkip]
    · refine (mFor_eq (s' := [.fz B, .fz (.dK kvs), .un, .un]) ?_).trans e
      simp [sItems, sOf, xV, AV.d]
  unfold f_look_in mFun
  simp [svs, g, outsOf]
end Wk
namespace Wk
open PySem PV
def keysS (kvs : List (Key × D)) : List Str := kvs.filterMap fun p => match p.1 with
  | .inr m => some m
  | .inl _ => none
def partsO : Option (List (Key × D)) → List Str
  | some kvs => keysS kvs
  | none => []
def parts (rs : Tab) (m : Str) : List Str := match gv rs m with
  | some o => partsO o
  | none => []
inductive Reach (rs : Tab) (S : List Str) : Str → Prop
  | base {m : Str} : m ∈ S → Reach rs S m
  | step {j m : Str} : Reach rs S j → m ∈ parts rs j → Reach rs S m
theorem closed_iff {rs : Tab} {S found : List Str} (h1 : ∀ m ∈ S, m ∈ found) (h2 : ∀ m ∈ found, Reach rs S m) (h3 : ∀ m ∈ found, ∀ q ∈ parts rs m, q ∈ found) (m : Str) : m ∈ found ↔ Reach rs S m := by
  refine ⟨h2 m, fun h => ?_⟩
  induction h with
  | base h => exact h1 _ h
  | step _ hp ih => exact h3 _ ih _ hp
theorem keysS_map {S : List Str} {P : Int → Prop} : ∀ {kvs : List (Key × D)}, DictOk S P kvs → kvs.map (fun p => kD p.1) = (keysS kvs).map D.str ∧ (keysS kvs).Nodup ∧ (∀ m ∈ keysS kvs, m ∈ S) ∧ (keysS kvs).length = kvs.length
  | [], _ => ⟨rfl, by simp [keysS], by simp [keysS], rfl⟩
  | p :: kvs, h => by
    obtain ⟨m, i, rfl, hm, _⟩ := h.2 p List.mem_cons_self
    have nd := h.1
    rw [List.map_cons, List.nodup_cons] at nd
    have ht : DictOk S P kvs := ⟨nd.2, fun q hq => h.2 q (List.mem_cons_of_mem _ hq)⟩
    obtain ⟨e1, e2, e3, e4⟩ := keysS_map ht
    have ek : keysS ((Sum.inr m, D.int i) :: kvs) = m :: keysS kvs := rfl
    rw [ek]
    refine ⟨by rw [List.map_cons, List.map_cons, e1]; rfl, ?_, ?_, by rw [List.length_cons, List.length_cons, e4]⟩
    · rw [List.nodup_cons]
      refine ⟨fun z => nd.1 ?_, e2⟩
      unfold keysS at z
      obtain ⟨q, hq, e⟩ := List.mem_filterMap.mp z
      obtain ⟨m', i', rfl, _⟩ := ht.2 q hq
      cases e
      exact List.mem_map.mpr ⟨_, hq, rfl⟩
    · intro q hq
      rcases List.mem_cons.mp hq with rfl | hq
      · exact hm
      · exact e3 q hq
theorem gv_row {rs : Tab} (nd : (names rs).Nodup) {r : Str × Option (List (Key × D))} (hr : r ∈ rs) : gv rs r.1 = some r.2 := by
  induction rs with
  | nil => cases hr
  | cons a rs ih =>
    unfold names at nd
    rw [List.map_cons, List.nodup_cons] at nd
    unfold gv
    rw [List.find?_cons]
    rcases List.mem_cons.mp hr with rfl | hr
    · rw [decide_eq_true rfl]; rfl
    · have ne : ¬ (a.1 = r.1) := fun z => nd.1 (by rw [z]; exact List.mem_map.mpr ⟨r, hr, rfl⟩)
      rw [decide_eq_false ne]
      exact ih nd.2 hr
theorem parts_sub {rs : Tab} (T : TabOk rs) {m q : Str} (h : q ∈ parts rs m) : q ∈ names rs := by
  unfold parts at h
  split at h
  · rename_i o ho
    cases o with
    | none => cases h
    | some kvs =>
      unfold gv at ho
      obtain ⟨r, hr, e⟩ := Option.map_eq_some_iff.mp ho
      have hm := List.mem_of_find?_eq_some hr
      obtain ⟨_, g2⟩ := T.its r hm kvs e
      exact (keysS_map g2).2.2.1 q h
  · cases h
end Wk
namespace Wk
open PySem PV
theorem gm_nd {κ α : Type} [DecidableEq κ] : ∀ {ps acc : List (κ × α)}, ((acc ++ ps).map (·.1)).Nodup → gm acc ps = acc ++ ps
  | [], acc, _ => by simp [gm]
  | p :: ps, acc, h => by
    have hk : p.1 ∉ acc.map (·.1) := by
      rw [List.map_append, List.nodup_append] at h
      exact fun z => h.2.2 _ z p.1 (by rw [List.map_cons]; exact List.mem_cons_self) rfl
    have eg : acc ++ p :: ps = (acc ++ [p]) ++ ps := by rw [List.append_assoc]; rfl
    show gm (gp acc p.1 p.2) ps = _
    rw [gp_new hk, eg]
    rw [eg] at h
    exact gm_nd h
end Wk
namespace Wk
open PySem PV
def kn (known : List Str) : List (Key × D) := known.map fun m => (Sum.inr m, D.bl true)
theorem kn_keys (known : List Str) : (kn known).map (·.1) = known.map Sum.inr := by unfold kn; rw [List.map_map]; rfl
theorem kn_in {known : List Str} {q : Str} : dInB (.str q) (.dK (kn known)) = some (decide (q ∈ known)) := by
  rw [str_key]
  by_cases h : q ∈ known
  · rw [gv_some (by rw [kn_keys]; exact List.mem_map.mpr ⟨q, h, rfl⟩), decide_eq_true h]
  · rw [gv_none' (by rw [kn_keys]; intro z; obtain ⟨m, hm, e⟩ := List.mem_map.mp z; cases e; exact h hm), decide_eq_false h]
    rfl
theorem kf_inner {B K : D} {a5 : SV} : ∀ (ps known todo : List Str) (a4 : SV), a4.pin = false → known.Nodup → known.length + ps.length ≤ 1000 → todo.length + ps.length ≤ 1000 → ∃ (new : List Str) (a4' : SV), forL (.nm 4) m_kinds_from_1 (ps.map D.str) [.fz B, .fz K, .ow (.dK (kn known)), .ow (.lst (todo.map .str)), a4, a5] = some (.nx, [.fz B, .fz K, .ow (.dK (kn (known ++ new))), .ow (.lst ((todo ++ new).map .str)), a4', a5]) ∧ a4'.pin = false ∧ (∀ q ∈ new, q ∈ ps) ∧ (∀ q ∈ ps, q ∈ known ++ new) ∧ (known ++ new).Nodup
  | [], known, todo, a4, p4, nd, _, _ => ⟨[], a4, by rw [List.append_nil, List.append_nil]; rfl, p4, by simp, by simp, by rw [List.append_nil]; exact nd⟩
  | q :: ps, known, todo, a4, p4, nd, hl, ht => by
    rw [List.length_cons] at hl ht
    have e := kn_in (known := known) (q := q)
    have ea : asgT (.nm 4) (.str q) [.fz B, .fz K, .ow (.dK (kn known)), .ow (.lst (todo.map .str)), a4, a5] = some [.fz B, .fz K, .ow (.dK (kn known)), .ow (.lst (todo.map .str)), .fz (.str q), a5] := by simp [asgT, put, p4]
    by_cases h : q ∈ known
    · obtain ⟨new, a4', e1, g1, g2, g3, g4⟩ := kf_inner (B := B) (K := K) (a5 := a5) ps known todo (.fz (.str q)) rfl nd (by omega) (by omega)
      have eb : m_kinds_from_1 [.fz B, .fz K, .ow (.dK (kn known)), .ow (.lst (todo.map .str)), .fz (.str q), a5] = some (.nx, [.fz B, .fz K, .ow (.dK (kn known)), .ow (.lst (todo.map .str)), .fz (.str q), a5]) := by
        unfold m_kinds_from_1
        simp [mIfS, PV.tB, x2, ev2, Rc.pre, Rc.fin, SV.get, dNotIn, e, h, fb, mSkip]
      refine ⟨new, a4', ?_, g1, fun z hz => List.mem_cons_of_mem _ (g2 z hz), fun z hz => ?_, g4⟩
      · rw [List.map_cons]
        unfold forL
        simp only [ea, eb, e1]
      · rcases List.mem_cons.mp hz with rfl | hz
        · exact List.mem_append_left _ h
        · exact g3 z hz
    · obtain ⟨new, a4', e1, g1, g2, g3, g4⟩ := kf_inner (B := B) (K := K) (a5 := a5) ps (known ++ [q]) (todo ++ [q]) (.fz (.str q)) rfl (by rw [List.nodup_append]; exact ⟨nd, by simp, fun a ha b hb z => h (by rw [List.mem_singleton] at hb; rw [← hb, ← z]; exact ha)⟩) (by rw [List.length_append, List.length_singleton]; omega) (by rw [List.length_append, List.length_singleton]; omega)
      have gk : gp (kn known) (Sum.inr q) (D.bl true) = kn (known ++ [q]) := by
        rw [gp_new (by rw [kn_keys]; intro z; obtain ⟨m, hm, e⟩ := List.mem_map.mp z; cases e; exact h hm)]
        unfold kn
        rw [List.map_append]
        rfl
      have hk : (kn known).length < 16777216 := by unfold kn; rw [List.length_map]; omega
      have ht2 : todo.length < 16777216 := by omega
      have eb : m_kinds_from_1 [.fz B, .fz K, .ow (.dK (kn known)), .ow (.lst (todo.map .str)), .fz (.str q), a5] = some (.nx, [.fz B, .fz K, .ow (.dK (kn (known ++ [q]))), .ow (.lst ((todo ++ [q]).map .str)), .fz (.str q), a5]) := by
        have t1 : mPut (.v 2) (xC (.bl true)) (.v 4) [.fz B, .fz K, .ow (.dK (kn known)), .ow (.lst (todo.map .str)), .fz (.str q), a5] = some (.nx, [.fz B, .fz K, .ow (.dK (kn (known ++ [q]))), .ow (.lst (todo.map .str)), .fz (.str q), a5]) := by
          simp [mPut, xC, Rc.tgt, Rc.pre, Rc.fin, SV.get, ev1, chg, cPut, keyOf, AV.d, SZ, hk, gk]
        have t2 : mDrop (chgR (.v 3) cApp (.e (xV 4))) [.fz B, .fz K, .ow (.dK (kn (known ++ [q]))), .ow (.lst (todo.map .str)), .fz (.str q), a5] = some (.nx, [.fz B, .fz K, .ow (.dK (kn (known ++ [q]))), .ow (.lst ((todo ++ [q]).map .str)), .fz (.str q), a5]) := by
          simp [mDrop, chgR, Rc.tgt, Rc.pre, Rc.fin, SV.get, ev1, xV, AV.d, chg, cApp, SZ, ht2]
        have t0 : PV.tB (x2 dNotIn (.v 4) (.v 2)) [.fz B, .fz K, .ow (.dK (kn known)), .ow (.lst (todo.map .str)), .fz (.str q), a5] = some (true, [.fz B, .fz K, .ow (.dK (kn known)), .ow (.lst (todo.map .str)), .fz (.str q), a5]) := by
          simp [PV.tB, x2, ev2, Rc.pre, Rc.fin, SV.get, dNotIn, e, h, fb]
        unfold m_kinds_from_1 mIfS
        rw [t0]
        exact (mSeq_nx t1).trans t2
      refine ⟨q :: new, a4', ?_, g1, fun z hz => ?_, fun z hz => ?_, ?_⟩
      · rw [List.map_cons]
        unfold forL
        simp only [ea, eb, e1, List.append_assoc, List.singleton_append]
      · rcases List.mem_cons.mp hz with rfl | hz
        · exact List.mem_cons_self
        · exact List.mem_cons_of_mem _ (g2 z hz)
      · rcases List.mem_cons.mp hz with rfl | hz
        · simp
        · have := g3 z hz
          rw [List.append_assoc] at this
          exact this
      · rw [List.append_assoc] at g4
        exact g4
end Wk
namespace Wk
open PySem PV
/-- the names that a sorted law has, in the book's order -/
def sortS (S : List Str) (kvs : List (Key × D)) : List Str := S.filter fun m => (gv kvs (Sum.inr m)).isSome
theorem sort_map {kvs : List (Key × D)} : ∀ (S : List Str), (sortK S kvs).map (fun p => kD p.1) = (sortS S kvs).map D.str
  | [] => rfl
  | m :: S => by
    have ih := sort_map (kvs := kvs) S
    unfold sortK sortS at ih ⊢
    rw [List.map_cons]
    cases hg : gv kvs (Sum.inr m) with
    | none =>
      rw [List.filterMap_cons_none (by simp only [hg, Option.map_none]), List.filter_cons_of_neg (by rw [hg]; exact Bool.false_ne_true)]
      exact ih
    | some v =>
      rw [List.filterMap_cons_some (b := (Sum.inr m, v)) (by simp only [hg, Option.map_some]), List.filter_cons_of_pos (by rw [hg]; rfl), List.map_cons, List.map_cons, ih]
      rfl
theorem sortS_mem {S : List Str} {P : Int → Prop} {kvs : List (Key × D)} (h : DictOk S P kvs) (q : Str) : q ∈ sortS S kvs ↔ q ∈ keysS kvs := by
  obtain ⟨e1, e2, e3, e4⟩ := keysS_map h
  have hk : ∀ q, q ∈ keysS kvs ↔ (Sum.inr q : Key) ∈ kvs.map (·.1) := fun q => by
    unfold keysS
    constructor
    · intro z
      obtain ⟨p, hp, e⟩ := List.mem_filterMap.mp z
      obtain ⟨m, i, rfl, _⟩ := h.2 p hp
      cases e
      exact List.mem_map.mpr ⟨_, hp, rfl⟩
    · intro z
      obtain ⟨p, hp, e⟩ := List.mem_map.mp z
      refine List.mem_filterMap.mpr ⟨p, hp, ?_⟩
      rw [e]
  unfold sortS
  rw [List.mem_filter]
  constructor
  · rintro ⟨_, z⟩
    rw [hk]
    refine Classical.byContradiction fun y => ?_
    rw [gv_none' y] at z
    cases z
  · intro z
    exact ⟨e3 q z, gv_some ((hk q).mp z)⟩
end Wk
namespace Wk
open PySem PV
def sortP (S : List Str) : Option (List (Key × D)) → List Str
  | none => []
  | some kvs => sortS S kvs
theorem walk_sorted {S : List Str} {o : Option (List (Key × D))} {m : XM} {s s' : PV.S} (hm : m s = some (.fz (lawD S o), s')) : sIt (xOrT m dNewK) s = some ((sortP S o).map D.str, s') := by
  cases o with
  | none => simp [sIt, sOf, xOrT, hm, AV.d, lawD, dTru, dNewK, xC0, itemsOf, sortP]
  | some kvs =>
    have e := sort_map (kvs := kvs) S
    cases hk : sortK S kvs with
    | nil =>
      rw [hk] at e
      simp [sIt, sOf, xOrT, hm, AV.d, lawD, dTru, dNewK, xC0, itemsOf, sortP, hk, ← e]
    | cons p ps =>
      rw [hk] at e
      have : xOrT m dNewK s = some (.fz (.dK (sortK S kvs)), s') := by
        unfold xOrT
        rw [hm]
        simp [AV.d, lawD, dTru, hk]
      unfold sIt sOf
      rw [this]
      simp only [AV.d, itemsOf, Option.map_some, sortP, hk, e]
theorem gv_lawsK' {S : List Str} {rs : Tab} {m : Str} (h : m ∈ names rs) : ∃ o, gv rs m = some o ∧ gv (rs.map fun r => ((Sum.inr r.1 : Key), lawD S r.2)) (Sum.inr m) = some (lawD S o) := by
  induction rs with
  | nil => cases h
  | cons a rs ih =>
    unfold gv
    rw [List.map_cons, List.find?_cons, List.find?_cons]
    by_cases z : a.1 = m
    · exact ⟨a.2, by rw [decide_eq_true z]; rfl, by rw [decide_eq_true (by rw [z])]; rfl⟩
    · have z2 : ¬ ((Sum.inr a.1 : Key) = Sum.inr m) := fun y => z (by cases y; rfl)
      rw [decide_eq_false z, decide_eq_false z2]
      have hm : m ∈ names rs := by
        unfold names at h ⊢
        rw [List.map_cons, List.mem_cons] at h
        exact h.resolve_left fun y => z y.symm
      exact ih hm
theorem names_rs_len {rs : Tab} (T : TabOk rs) : (names rs).length ≤ 12 := by rw [show (names rs).length = rs.length from List.length_map ..]; exact T.len
theorem sortP_parts {rs : Tab} (T : TabOk rs) {m : Str} {o : Option (List (Key × D))} (e : gv rs m = some o) (q : Str) : q ∈ sortP (names rs) o ↔ q ∈ parts rs m := by
  unfold parts
  rw [e]
  cases o with
  | none => exact Iff.rfl
  | some kvs =>
    unfold gv at e
    obtain ⟨r, hr, er⟩ := Option.map_eq_some_iff.mp e
    exact sortS_mem (T.its r (List.mem_of_find?_eq_some hr) kvs er).2 q
theorem sortP_len {rs : Tab} (T : TabOk rs) (o : Option (List (Key × D))) : (sortP (names rs) o).length ≤ 12 := by
  cases o with
  | none => exact Nat.zero_le _
  | some kvs => exact Nat.le_trans (List.length_filter_le _ _) (names_rs_len T)
theorem kf_loop {rs : Tab} {rw_ K : D} {S : List Str} {a5 : SV} (T : TabOk rs) : ∀ (n k : Nat) (known todo : List Str) (a4 : SV), a4.pin = false → (12 - known.length) + todo.length ≤ n → n ≤ 500 → n < k → known.Nodup → (∀ m ∈ known, m ∈ names rs) → (∀ m ∈ S, m ∈ known) → (∀ m ∈ known, Reach rs S m) → (∀ m ∈ todo, m ∈ known) → (∀ m ∈ known, m ∉ todo → ∀ q ∈ parts rs m, q ∈ known) →
    ∃ (known' : List Str) (a4' : SV), whileL (PV.tB (x2 dNe (.v 3) (.e (xL dLst [])))) m_kinds_from_2 k [.fz (bookD rs rw_), .fz K, .ow (.dK (kn known)), .ow (.lst (todo.map .str)), a4, a5] = some (.nx, [.fz (bookD rs rw_), .fz K, .ow (.dK (kn known')), .ow (.lst []), a4', a5]) ∧ a4'.pin = false ∧ known'.length ≤ 12 ∧ ∀ m, m ∈ known' ↔ Reach rs S m := fun n => by
  induction n with
  | zero =>
    intro k known todo a4 p4 hn h5 hk nd hs hS hr ht hc
    obtain ⟨k, rfl⟩ : ∃ k', k = k' + 1 := ⟨k - 1, by omega⟩
    have h0 : todo = [] := List.length_eq_zero_iff.mp (by omega)
    subst h0
    refine ⟨known, a4, ?_, p4, Nat.le_trans (nodup_len nd hs) (names_rs_len T), closed_iff hS hr fun m hm q hq => hc m hm (by simp) q hq⟩
    unfold whileL
    simp [PV.tB, x2, xL, evL, preL, finL, dLst, ev2, Rc.pre, Rc.fin, SV.get, dNe, dEqB, fb, AV.d, pln, plnL, eqv, eqvL]
  | succ n ih =>
    intro k known todo a4 p4 hn h5 hk nd hs hS hr ht hc
    obtain ⟨k, rfl⟩ : ∃ k', k = k' + 1 := ⟨k - 1, by omega⟩
    have hkl : known.length ≤ 12 := Nat.le_trans (nodup_len nd hs) (names_rs_len T)
    rcases List.eq_nil_or_concat todo with rfl | ⟨t, q, rfl⟩
    · refine ⟨known, a4, ?_, p4, hkl, closed_iff hS hr fun m hm q hq => hc m hm (by simp) q hq⟩
      unfold whileL
      simp [PV.tB, x2, xL, evL, preL, finL, dLst, ev2, Rc.pre, Rc.fin, SV.get, dNe, dEqB, fb, AV.d, pln, plnL, eqv, eqvL]
    · have hq : q ∈ known := ht q (by simp)
      obtain ⟨o, e1, e2⟩ := gv_lawsK' (S := names rs) (hs q hq)
      have e3 := (bfld (rs := rs) (rw_ := rw_)).2
      have hsp := sortP_parts T e1
      have hsl := sortP_len T o
      rw [List.concat_eq_append] at hn ht hc ⊢
      rw [List.length_append, List.length_singleton] at hn
      have test : PV.tB (x2 dNe (.v 3) (.e (xL dLst []))) [.fz (bookD rs rw_), .fz K, .ow (.dK (kn known)), .ow (.lst ((t ++ [q]).map .str)), a4, a5] = some (true, [.fz (bookD rs rw_), .fz K, .ow (.dK (kn known)), .ow (.lst ((t ++ [q]).map .str)), a4, a5]) := by
        simp [PV.tB, x2, xL, evL, preL, finL, dLst, ev2, Rc.pre, Rc.fin, SV.get, dNe, dEqB, fb, AV.d]
      have hpop : chg0 (.v 3) cPop [.fz (bookD rs rw_), .fz K, .ow (.dK (kn known)), .ow (.lst ((t ++ [q]).map .str)), a4, a5] = some (.fz (.str q), [.fz (bookD rs rw_), .fz K, .ow (.dK (kn known)), .ow (.lst (t.map .str)), a4, a5]) := by
        simp [chg0, chgR, Rc.tgt, Rc.pre, Rc.fin, ev1, xC, AV.d, SV.get, chg, cPop]
      have hm : x2 dIx (.e (x1 (dFldC "Book" "laws") (.v 0))) (.e (chg0 (.v 3) cPop)) [.fz (bookD rs rw_), .fz K, .ow (.dK (kn known)), .ow (.lst ((t ++ [q]).map .str)), a4, a5] = some (.fz (lawD (names rs) o), [.fz (bookD rs rw_), .fz K, .ow (.dK (kn known)), .ow (.lst (t.map .str)), a4, a5]) := by
        have e2' : gv (lawsK rs) (Sum.inr q) = some (lawD (names rs) o) := e2
        generalize bookD rs rw_ = B at e3 hpop ⊢
        generalize (t ++ [q]).map D.str = TL at hpop ⊢
        simp [x2, ev2, x1, ev1, Rc.pre, Rc.fin, SV.get, e3, hpop, AV.d, dIx, keyOf, e2']
      have hw := walk_sorted hm
      obtain ⟨new, a4', f1, f2, f3, f4, f5⟩ := kf_inner (B := bookD rs rw_) (K := K) (a5 := a5) (sortP (names rs) o) known t a4 p4 nd (by omega) (by omega)
      have body : m_kinds_from_2 [.fz (bookD rs rw_), .fz K, .ow (.dK (kn known)), .ow (.lst ((t ++ [q]).map .str)), a4, a5] = some (.nx, [.fz (bookD rs rw_), .fz K, .ow (.dK (kn (known ++ new))), .ow (.lst ((t ++ new).map .str)), a4', a5]) := by
        unfold m_kinds_from_2
        exact (mFor_eq hw).trans f1
      have hns : ∀ m ∈ known ++ new, m ∈ names rs := fun m hm => by
        rcases List.mem_append.mp hm with h | h
        · exact hs m h
        · exact parts_sub T ((hsp m).mp (f3 m h))
      have hnl : (known ++ new).length ≤ 12 := Nat.le_trans (nodup_len f5 hns) (names_rs_len T)
      rw [List.length_append] at hnl
      obtain ⟨known', a4'', g1, g2, g3⟩ := ih k (known ++ new) (t ++ new) a4' f2 (by rw [List.length_append, List.length_append]; omega) (by omega) (by omega) f5 hns (fun m hm => List.mem_append_left _ (hS m hm)) (fun m hm => by
          rcases List.mem_append.mp hm with h | h
          · exact hr m h
          · exact .step (hr q hq) ((hsp m).mp (f3 m h)))
        (fun m hm => by
          rcases List.mem_append.mp hm with h | h
          · exact List.mem_append_left _ (ht m (List.mem_append_left _ h))
          · exact List.mem_append_right _ h)
        (fun m hm hn p hp => by
          rw [List.mem_append, not_or] at hn
          have hmk : m ∈ known := (List.mem_append.mp hm).resolve_right hn.2
          by_cases hmq : m = q
          · subst hmq
            exact f4 p ((hsp p).mpr hp)
          · refine List.mem_append_left _ (hc m hmk (fun z => ?_) p hp)
            rcases List.mem_append.mp z with z | z
            · exact hn.1 z
            · exact hmq (List.mem_singleton.mp z))
      refine ⟨known', a4'', ?_, g2, g3⟩
      unfold whileL
      rw [test]
      simp only [body]
      exact g1
open Classical in
/-- what some kinds come to, in the book's order -/
noncomputable def reachL (rs : Tab) (S : List Str) : List Str := (names rs).filter fun m => decide (Reach rs S m)
theorem filter_known {known : List Str} {L : List Str} {P : Str → Prop} (h : ∀ m, m ∈ known ↔ P m) [DecidablePred P] : L.filter (fun m => decide (m ∈ known)) = L.filter fun m => decide (P m) := by
  apply List.filter_congr
  intro m _
  exact decide_eq_decide.mpr (h m)
def inF (known : List Str) : D → Option D
  | .str q => if q ∈ known then some (.str q) else none
  | _ => none
theorem in_map (known : List Str) : ∀ ps : List Str, (ps.map D.str).filterMap (inF known) = (ps.filter fun q => decide (q ∈ known)).map D.str
  | [] => rfl
  | q :: ps => by
    rw [List.map_cons]
    by_cases h : q ∈ known
    · rw [List.filterMap_cons_some (b := D.str q) (by show (if q ∈ known then some (D.str q) else none) = some (D.str q); rw [if_pos h]), List.filter_cons_of_pos (by simpa using h), in_map known ps]
      rfl
    · rw [List.filterMap_cons_none (by show (if q ∈ known then some (D.str q) else none) = none; rw [if_neg h]), List.filter_cons_of_neg (by simpa using h), in_map known ps]
def knF : D → Option (Key × D)
  | .str q => some (Sum.inr q, .bl true)
  | _ => none
theorem ord_items (rs : Tab) : (ordK rs).map (fun p => kD p.1) = (names rs).map D.str := by
  have : (ordK rs).map (fun p => kD p.1) = ((ordK rs).map (·.1)).map kD := by rw [List.map_map]; rfl
  rw [this, show (ordK rs).map (·.1) = (names rs).map Sum.inr from ord_keys rs 0, List.map_map]
  rfl
theorem kinds_ok {rs : Tab} {rw_ K : D} {S : List Str} (T : TabOk rs) (nd : S.Nodup) (hS : ∀ m ∈ S, m ∈ names rs) (hK : itemsOf K = some (S.map .str)) : f_kinds_from [bookD rs rw_, K] = some (.ow (.lst ((reachL rs S).map .str)), [.non, .non]) := by
  have hl : S.length ≤ 12 := Nat.le_trans (nodup_len nd hS) (names_rs_len T)
  obtain ⟨known, a4, e, p4, hkl, hiff⟩ := kf_loop (rw_ := rw_) (K := K) (S := S) (a5 := .un) T 24 1000000 S S .un rfl (by omega) (by omega) (by omega) nd hS (fun m h => h) (fun m h => .base h) (fun m h => h) (fun m h hn => absurd h hn)
  have s1 : mAsg 2 (xDc [5] (sIt (xV 1)) (.nm 5) PV.tYes (xV 5) (xC (.bl true))) [.fz (bookD rs rw_), .fz K, .un, .un, .un, .un] = some (.nx, [.fz (bookD rs rw_), .fz K, .ow (.dK (kn S)), .un, .un, .un]) := by
    have hf : ∀ L : List Str, (L.map D.str).filterMap knF = kn L := fun L => by
      induction L with
      | nil => rfl
      | cons q L ih => rw [List.map_cons, List.filterMap_cons_some (f := knF) (b := ((Sum.inr q : Key), D.bl true)) rfl, ih]; rfl
    have z := xDc_pure (vs := [5]) (src := sIt (xV 1)) (tg := .nm 5) (t := PV.tYes) (k := xV 5) (e := xC (.bl true)) (s0 := [.fz (bookD rs rw_), .fz K, .un, .un, .un, .un]) (s1 := [.fz (bookD rs rw_), .fz K, .un, .un, .un, .un]) (ds := S.map .str) (f := knF) (by simp [sIt, sOf, xV, AV.d, hK]) rfl (by rw [List.length_map]; omega) (by rw [hf, kn_keys]; exact inr_nd nd) fun d hd => by
      obtain ⟨q, hq, rfl⟩ := List.mem_map.mp hd
      exact ⟨[.fz (bookD rs rw_), .fz K, .un, .un, .un, .fz (.str q)], rfl, .inl ⟨[.fz (bookD rs rw_), .fz K, .un, .un, .un, .fz (.str q)], (Sum.inr q, .bl true), .str q, [.fz (bookD rs rw_), .fz K, .un, .un, .un, .fz (.str q)], rfl, rfl, rfl, rfl, rfl, rfl⟩⟩
    rw [hf] at z
    unfold mAsg
    rw [z]
    rfl
  have s2 : mAsg 3 (x1 dList (.v 2)) [.fz (bookD rs rw_), .fz K, .ow (.dK (kn S)), .un, .un, .un] = some (.nx, [.fz (bookD rs rw_), .fz K, .ow (.dK (kn S)), .ow (.lst (S.map .str)), .un, .un]) := by
    have : (kn S).map (fun p => kD p.1) = S.map D.str := by unfold kn; rw [List.map_map]; rfl
    simp [mAsg, x1, ev1, Rc.pre, Rc.fin, SV.get, dList, AV.sv, put, pin_un, this]
  have s4 : mRet (xLc [5] (sIt (x1 (dFldC "Book" "order") (.v 0))) (.nm 5) (PV.tB (x2 dIn (.v 5) (.v 2))) (xV 5)) [.fz (bookD rs rw_), .fz K, .ow (.dK (kn known)), .ow (.lst []), a4, .un] = some (.rt (.ow (.lst ((reachL rs S).map .str))), [.fz (bookD rs rw_), .fz K, .ow (.dK (kn known)), .ow (.lst []), a4, .un]) := by
    have e3 := (bfld (rs := rs) (rw_ := rw_)).1
    have ho := ord_items rs
    have hsrc : sIt (x1 (dFldC "Book" "order") (.v 0)) [.fz (bookD rs rw_), .fz K, .ow (.dK (kn known)), .ow (.lst []), a4, .un] = some ((names rs).map .str, [.fz (bookD rs rw_), .fz K, .ow (.dK (kn known)), .ow (.lst []), a4, .un]) := by
      generalize bookD rs rw_ = B at e3 ⊢
      simp [sIt, sOf, x1, ev1, Rc.pre, Rc.fin, SV.get, e3, AV.d, itemsOf]
      exact ho
    have z := xLc_pure (vs := [5]) (tg := .nm 5) (t := PV.tB (x2 dIn (.v 5) (.v 2))) (e := xV 5) (f := inF known) hsrc (by simp [calm, SV.own, SV.pin]) (by rw [List.length_map]; have := names_rs_len T; omega) fun d hd => by
      obtain ⟨q, hq, rfl⟩ := List.mem_map.mp hd
      have e := kn_in (known := known) (q := q)
      refine ⟨[.fz (bookD rs rw_), .fz K, .ow (.dK (kn known)), .ow (.lst []), a4, .fz (.str q)], rfl, ?_⟩
      by_cases h : q ∈ known
      · exact .inl ⟨[.fz (bookD rs rw_), .fz K, .ow (.dK (kn known)), .ow (.lst []), a4, .fz (.str q)], .fz (.str q), _, if_pos h, by simp [PV.tB, x2, ev2, Rc.pre, Rc.fin, SV.get, dIn, e, h, fb], rfl, rfl, rfl⟩
      · exact .inr ⟨[.fz (bookD rs rw_), .fz K, .ow (.dK (kn known)), .ow (.lst []), a4, .fz (.str q)], if_neg h, by simp [PV.tB, x2, ev2, Rc.pre, Rc.fin, SV.get, dIn, e, h, fb], rfl, rfl⟩
    rw [in_map] at z
    have hr : (names rs).filter (fun q => decide (q ∈ known)) = reachL rs S := by
      unfold reachL
      exact @filter_known _ _ _ hiff (fun _ => Classical.propDecidable _)
    rw [hr] at z
    unfold mRet
    rw [z]
    rfl
  have g : m_kinds_from [.fz (bookD rs rw_), .fz K, .un, .un, .un, .un] = some (.rt (.ow (.lst ((reachL rs S).map .str))), [.fz (bookD rs rw_), .fz K, .ow (.dK (kn known)), .ow (.lst []), a4, .un]) := by
    unfold m_kinds_from
    exact (mSeq_nx s1).trans ((mSeq_nx s2).trans ((mSeq_nx (a := mWhile _ _) e).trans s4))
  unfold f_kinds_from mFun
  simp [svs, g, outsOf]
theorem reached_ok {rs : Tab} {rw_ : D} {P : Int → Prop} {kvs : List (Key × D)} (T : TabOk rs) (hP : ∀ i, P i → 1 ≤ i) (h : DictOk (names rs) P kvs) : f_reached [bookD rs rw_, .dK kvs] = some (.ow (.lst ((reachL rs (keysS kvs)).map .str)), [.non, .non]) := by
  obtain ⟨k1, k2, k3, k4⟩ := keysS_map h
  have e1 := look_in_ok (rw_ := rw_) T hP h
  have e2 := kinds_ok (rw_ := rw_) (K := .dK kvs) T k2 k3 (by simp only [itemsOf, k1])
  generalize bookD rs rw_ = B at e1 e2 ⊢
  have g : m_reached [.fz B, .fz (.dK kvs)] = some (.rt (.ow (.lst ((reachL rs (keysS kvs)).map .str))), [.fz B, .fz (.dK kvs)]) := by
    unfold m_reached
    refine (mSeq_nx (s' := [.fz B, .fz (.dK kvs)]) ?_).trans ?_
    · simp [mDrop, xCall, evL, preL, finL, Rc.pre, Rc.fin, xV, AV.d, e1, upds]
    · simp [mRet, xCall, evL, preL, finL, Rc.pre, Rc.fin, xV, AV.d, e2, upds]
  unfold f_reached mFun
  simp [svs, g, outsOf]
end Wk
namespace Wk
open PySem PV
theorem reachL_mem {rs : Tab} {S : List Str} {m : Str} : m ∈ reachL rs S ↔ m ∈ names rs ∧ Reach rs S m := by
  unfold reachL
  rw [List.mem_filter]
  have := Classical.propDecidable (Reach rs S m)
  exact ⟨fun h => ⟨h.1, by simpa using h.2⟩, fun h => ⟨h.1, by simpa using h.2⟩⟩
theorem reach_names {rs : Tab} (T : TabOk rs) {S : List Str} (hS : ∀ m ∈ S, m ∈ names rs) {m : Str} (h : Reach rs S m) : m ∈ names rs := by
  cases h with
  | base z => exact hS _ z
  | step _ hp => exact parts_sub T hp
def kvI (ps : List (Str × Int)) : List (Key × D) := ps.map fun p => (.inr p.1, .int p.2)
theorem kvI_ok {S : List Str} {P : Int → Prop} {ps : List (Str × Int)} (nd : (ps.map (·.1)).Nodup) (h : ∀ p ∈ ps, p.1 ∈ S ∧ P p.2) : DictOk S P (kvI ps) := by
  have : (kvI ps).map (·.1) = (ps.map (·.1)).map Sum.inr := by unfold kvI; rw [List.map_map, List.map_map]; rfl
  refine ⟨by rw [this]; exact inr_nd nd, fun q hq => ?_⟩
  obtain ⟨p, hp, rfl⟩ := List.mem_map.mp hq
  exact ⟨p.1, p.2, rfl, (h p hp).1, (h p hp).2⟩
theorem kvI_keys (ps : List (Str × Int)) : keysS (kvI ps) = ps.map (·.1) := by
  induction ps with
  | nil => rfl
  | cons p ps ih =>
    show p.1 :: keysS (kvI ps) = _
    rw [ih]; rfl
end Wk
namespace Wk
open PySem PV
set_option maxHeartbeats 4000000
def F__law_cell_at (a0 a1 : D) : Option (D) := match f__law_cell_at [a0, a1] with
  | some (.fz v, [.non, .non]) => some (v)
  | _ => none
theorem sim__law_cell_at {a0 a1 : D} {r : D} (h : F__law_cell_at a0 a1 = some r) : f__law_cell_at [a0, a1] = some (.fz r, [.non, .non]) := by
  unfold F__law_cell_at at h
  split at h
  · rename_i e; cases h; exact e
  · cases h
def F__law_source_of (a0 : D) : Option (D) := match f__law_source_of [a0] with
  | some (.ow v, [.non]) => some (v)
  | _ => none
theorem sim__law_source_of {a0 : D} {r : D} (h : F__law_source_of a0 = some r) : f__law_source_of [a0] = some (.ow r, [.non]) := by
  unfold F__law_source_of at h
  split at h
  · rename_i e; cases h; exact e
  · cases h
def F__law_next (a0 a1 : D) : Option (D × D) := match f__law_next [a0, a1] with
  | some (.fz v, [o0, .non]) => some (v, o0)
  | _ => none
def F__law_mixed (a0 a1 : D) : Option (D × D) := match f__law_mixed [a0, a1] with
  | some (.ow v, [o0, .non]) => some (v, o0)
  | _ => none
theorem sim__law_mixed {a0 a1 : D} {r : D × D} (h : F__law_mixed a0 a1 = some r) : f__law_mixed [a0, a1] = some (.ow r.1, [r.2, .non]) := by
  unfold F__law_mixed at h
  split at h
  · rename_i e; cases h; exact e
  · cases h
def F__law_one (a0 a1 : D) : Option (D × D) := match f__law_one [a0, a1] with
  | some (.fz v, [o0, .non]) => some (v, o0)
  | _ => none
def F__law_twelve (a0 : D) : Option (D × D) := match f__law_twelve [a0] with
  | some (.ow v, [o0]) => some (v, o0)
  | _ => none
theorem sim__law_twelve {a0 : D} {r : D × D} (h : F__law_twelve a0 = some r) : f__law_twelve [a0] = some (.ow r.1, [r.2]) := by
  unfold F__law_twelve at h
  split at h
  · rename_i e; cases h; exact e
  · cases h
def F_is_row (a0 : D) : Option (D) := match f_is_row [a0] with
  | some (.fz v, [.non]) => some (v)
  | _ => none
def F_is_name (a0 : D) : Option (D) := match f_is_name [a0] with
  | some (.fz v, [.non]) => some (v)
  | _ => none
def F_row_amiss (a0 a1 : D) : Option (D × D) := match f_row_amiss [a0, a1] with
  | some (.fz v, [.non, o1]) => some (v, o1)
  | _ => none
def F_is_whole (a0 a1 : D) : Option (D) := match f_is_whole [a0, a1] with
  | some (.fz v, [.non, .non]) => some (v)
  | _ => none
def F_look_heap (a0 : D) : Option (D) := match f_look_heap [a0] with
  | some (.fz v, [.non]) => some (v)
  | _ => none
def F_is_heap (a0 : D) : Option (D) := match f_is_heap [a0] with
  | some (.fz v, [.non]) => some (v)
  | _ => none
def F_law_amiss (a0 a1 : D) : Option (D) := match f_law_amiss [a0, a1] with
  | some (.fz v, [.non, .non]) => some (v)
  | _ => none
def F_look_rows (a0 : D) : Option (D) := match f_look_rows [a0] with
  | some (.fz v, [.non]) => some (v)
  | _ => none
def F_Book (a1 : D) : Option D := g_Book [a1]
theorem sim_Book {a1 r : D} (h : F_Book a1 = some r) : g_Book [a1] = some r := h
def F__law_heap_2 (a0 a1 : D) : Option (D × D) := match f__law_heap_2 [a0, a1] with
  | some (.ow v, [o0, .non]) => some (v, o0)
  | _ => none
theorem sim__law_heap_2 {a0 a1 : D} {r : D × D} (h : F__law_heap_2 a0 a1 = some r) : f__law_heap_2 [a0, a1] = some (.ow r.1, [r.2, .non]) := by
  unfold F__law_heap_2 at h
  split at h
  · rename_i e; cases h; exact e
  · cases h
def F_Book_has (a0 a1 : D) : Option (D) := match f_Book_has [a0, a1] with
  | some (.fz v, [.non, .non]) => some (v)
  | _ => none
def F_look_in (a0 a1 : D) : Option (D) := match f_look_in [a0, a1] with
  | some (.fz v, [.non, .non]) => some (v)
  | _ => none
theorem sim_look_in {a0 a1 : D} {r : D} (h : F_look_in a0 a1 = some r) : f_look_in [a0, a1] = some (.fz r, [.non, .non]) := by
  unfold F_look_in at h
  split at h
  · rename_i e; cases h; exact e
  · cases h
def F_kinds_from (a0 a1 : D) : Option (D) := match f_kinds_from [a0, a1] with
  | some (.ow v, [.non, .non]) => some (v)
  | _ => none
theorem sim_kinds_from {a0 a1 : D} {r : D} (h : F_kinds_from a0 a1 = some r) : f_kinds_from [a0, a1] = some (.ow r, [.non, .non]) := by
  unfold F_kinds_from at h
  split at h
  · rename_i e; cases h; exact e
  · cases h
def F_reached (a0 a1 : D) : Option (D) := match f_reached [a0, a1] with
  | some (.ow v, [.non, .non]) => some (v)
  | _ => none
theorem sim_reached {a0 a1 : D} {r : D} (h : F_reached a0 a1 = some r) : f_reached [a0, a1] = some (.ow r, [.non, .non]) := by
  unfold F_reached at h
  split at h
  · rename_i e; cases h; exact e
  · cases h
def F_Web_lots_from (y0 y1 : D) : Option (D) :=
 (oA ((dFldC "Web" "book") y0)).bind fun v1 =>
 (F_kinds_from v1 y1).bind fun v2 =>
 (oA ((dFldC "Web" "lots") y0)).bind fun v3 =>
 (itemsOf v3).bind fun ds4 =>
 (lcP (fun d5 => (t2 d5).bind fun k6 =>
 (oA (dIx k6.1 (.int 0))).bind fun v7 =>
 (oB (dIn v7 v2)).bind fun c8 =>
 cond c8 (some (some k6.1)) (some none)) ds4).bind fun r10 =>
 some r10
theorem sim_Web_lots_from {y0 y1 : D} {r : D} (h : F_Web_lots_from y0 y1 = some r) : f_Web_lots_from [y0, y1] = some (.ow r, [.non, .non]) := by
  unfold F_Web_lots_from at h
  unfold f_Web_lots_from
  refine fnW rfl ?_
  unfold m_Web_lots_from
  show Wp _ [.fz y0, .fz y1, .un, .un, .un] _
  obtain ⟨v1, e1, h⟩ := bnd h
  obtain ⟨v2, e2, h⟩ := bnd h
  refine wSeq (mAsgL (fFr (wA (xCallL (evLL (pLc (preE (x1A rfl rfl e1)) (pLc (preE (fA rfl)) pLn)) rfl) (sim_kinds_from e2) rfl))) rfl) ?_
  obtain ⟨v3, e3, h⟩ := bnd h
  obtain ⟨ds4, e4, h⟩ := bnd h
  obtain ⟨r10, e8, h⟩ := bnd h
  have t11 : (xLc [3, 4] (sIt (x1 (dFldC "Web" "lots") (.v 0))) (.tp [(.nm 3), (.nm 4)]) (PV.tB (x2 dIn (.e (x2 dIx (.v 3) (.e (xC (.int 0))))) (.v 2))) (xV 3)) [.fz y0, .fz y1, .fz v2, .un, .un] = some (.ow r10, [.fz y0, .fz y1, .fz v2, .un, .un]) := by
    refine xLcP (sw := [.fz y0, .fz y1, .fz v2, .un, .un]) (sItL (x1A rfl rfl e3) e4) rfl rfl rfl rfl ?_ e8
    intro d5 o h9
    obtain ⟨k6, e5, h9⟩ := bnd h9
    obtain ⟨v7, e6, h9⟩ := bnd h9
    obtain ⟨c8, e7, h9⟩ := bnd h9
    refine ⟨[.fz y0, .fz y1, .fz v2, .fz k6.1, .fz k6.2], (asgE (t2_eq e5) rfl), ?_⟩
    cases c8 with
    | true =>
      have h9 := condT h9
      cases h9
      exact ⟨_, _, (tBL (x2B (preE (x2A rfl (preE (fA fC)) rfl rfl e6)) rfl rfl rfl e7)), (fA rfl), rfl, rfl⟩
    | false =>
      have h9 := condF h9
      cases h9
      exact ⟨_, (tBL (x2B (preE (x2A rfl (preE (fA fC)) rfl rfl e6)) rfl rfl rfl e7)), rfl, rfl⟩
  cases h
  exact wRt (mRetL t11) ⟨.inl rfl, rfl⟩
def F_things_of (y0 y1 y2 : D) : Option (D) :=
 (oA ((dFldC "Book" "laws") y0)).bind fun v1 =>
 (oA (dIx v1 y1)).bind fun v2 =>
 (dTru v2).bind fun c3 =>
 (cond c3 (some v2) (some (.dK []))).bind fun v4 =>
 (oItems v4).bind fun ds6 =>
 (lcP (fun d7 => (t2 d7).bind fun k8 =>
 (oB (dIn k8.1 y2)).bind fun c9 =>
 cond c9 (some (some k8.2)) (some none)) ds6).bind fun r11 =>
 (oA (dSum r11)).bind fun v13 =>
 some v13
theorem sim_things_of {y0 y1 y2 : D} {r : D} (h : F_things_of y0 y1 y2 = some r) : f_things_of [y0, y1, y2] = some (.fz r, [.non, .non, .non]) := by
  unfold F_things_of at h
  unfold f_things_of
  refine fnW rfl ?_
  unfold m_things_of
  show Wp _ [.fz y0, .fz y1, .fz y2, .un, .un, .un] _
  obtain ⟨v1, e1, h⟩ := bnd h
  obtain ⟨v2, e2, h⟩ := bnd h
  obtain ⟨c3, e3, h⟩ := bnd h
  obtain ⟨v4, e4, h⟩ := bnd h
  have t5 : XA (xOrT (x2 dIx (.e (x1 (dFldC "Book" "laws") (.v 0))) (.v 1)) dNewK) [.fz y0, .fz y1, .fz y2, .un, .un, .un] v4 [.fz y0, .fz y1, .fz y2, .un, .un, .un] := by
    cases c3 with
    | true =>
      have e4 := condT e4
      cases e4
      exact xOrTT (x2A (preE (x1A rfl rfl e1)) rfl rfl rfl e2) e3
    | false =>
      have e4 := condF e4
      cases e4
      exact xOrTF (x2A (preE (x1A rfl rfl e1)) rfl rfl rfl e2) e3 (wA rfl)
  refine wSeq (mAsgL (fFr t5) rfl) ?_
  obtain ⟨ds6, e5, h⟩ := bnd h
  obtain ⟨r11, e8, h⟩ := bnd h
  have t12 : (xLc [4, 5] (sItems (xV 3)) (.tp [(.nm 4), (.nm 5)]) (PV.tB (x2 dIn (.v 4) (.v 2))) (xV 5)) [.fz y0, .fz y1, .fz y2, .fz v4, .un, .un] = some (.ow r11, [.fz y0, .fz y1, .fz y2, .fz v4, .un, .un]) := by
    refine xLcP (sw := [.fz y0, .fz y1, .fz y2, .fz v4, .un, .un]) (sItemsL (fA rfl) e5) rfl rfl rfl rfl ?_ e8
    intro d7 o h10
    obtain ⟨k8, e6, h10⟩ := bnd h10
    obtain ⟨c9, e7, h10⟩ := bnd h10
    refine ⟨[.fz y0, .fz y1, .fz y2, .fz v4, .fz k8.1, .fz k8.2], (asgE (t2_eq e6) rfl), ?_⟩
    cases c9 with
    | true =>
      have h10 := condT h10
      cases h10
      exact ⟨_, _, (tBL (x2B rfl rfl rfl rfl e7)), (fA rfl), rfl, rfl⟩
    | false =>
      have h10 := condF h10
      cases h10
      exact ⟨_, (tBL (x2B rfl rfl rfl rfl e7)), rfl, rfl⟩
  obtain ⟨v13, e9, h⟩ := bnd h
  cases h
  exact wRt (mRetL (fFr (x1A (preE (wA t12)) rfl e9))) ⟨.inl rfl, rfl⟩
def F_Web_look_at (f_book f_reach g_lots g_lot_of g_word_of g_below y1 : D) : Option (D × D × D × D × D) :=
 (oA (dIx f_reach y1)).bind fun v1 =>
 (itemsOf v1).bind fun ds2 =>
 (lcP (fun d3 => (oA (dIx f_reach d3)).bind fun v4 =>
 (oB (dIn y1 v4)).bind fun c5 =>
 cond c5 (some (some d3)) (some none)) ds2).bind fun r7 =>
 (oA (dTuple r7)).bind fun v9 =>
 (itemsOf v9).bind fun ds10 =>
 (lcP (fun d11 => (F_things_of f_book d11 v9).bind fun v12 =>
 some (some v12)) ds10).bind fun r14 =>
 (oA (dMax r14)).bind fun v16 =>
 (oB (dEq v16 (.int 0))).bind fun c17 =>
 cond c17 ((oC2 (cPut g_lot_of .non y1)).bind fun p18 =>
 some (.non, g_lots, p18.1, g_word_of, g_below)) ((oB (dGt v16 (.int 1))).bind fun c19 =>
 (cond c19 (some (.str "grows")) (some (.str "ring"))).bind fun v20 =>
 (oL g_lots).bind fun xs22 =>
 (oC2 (cApp g_lots (.tup [v9, v20]))).bind fun p23 =>
 (oC2 (cPut g_word_of v20 v9)).bind fun p24 =>
 (itemsOf v9).bind fun ds25 =>
 (forF (fun d27 (a26 : D) => (oC2 (cPut a26 v9 d27)).bind fun p29 =>
 some p29.1) ds25 g_lot_of).bind fun p30 =>
 (oA (dIx f_reach y1)).bind fun v32 =>
 (itemsOf v32).bind fun ds33 =>
 (lcP (fun d34 => (oB (dEq v20 (.str "grows"))).bind fun c35 =>
 (cond c35 (some true) ((oB (dNotIn d34 v9)).bind fun c36 =>
 some c36)).bind fun c38 =>
 cond c38 (some (some d34)) (some none)) ds33).bind fun r40 =>
 (oC2 (cPut g_below r40 v9)).bind fun p42 =>
 some (.non, p23.1, p30, p24.1, p42.1))
theorem sim_Web_look_at {f_book f_reach g_lots g_lot_of g_word_of g_below y1 : D} {j0 j1 j2 j3 : Nat} {r : D × D × D × D × D} (h : F_Web_look_at f_book f_reach g_lots g_lot_of g_word_of g_below y1 = some r) : f_Web_look_at [("book", .d f_book), ("reach", .d f_reach), ("lots", .j j0), ("lot_of", .j j1), ("word_of", .j j2), ("below", .j j3)] [g_lots, g_lot_of, g_word_of, g_below] [y1] = some (.fz r.1, [r.2.1, r.2.2.1, r.2.2.2.1, r.2.2.2.2]) := by
  unfold F_Web_look_at at h
  unfold f_Web_look_at
  refine fnWO rfl rfl rfl ?_
  unfold m_Web_look_at
  show Wp _ [.ob "Web" [("book", .d f_book), ("reach", .d f_reach), ("lots", .j 6), ("lot_of", .j 7), ("word_of", .j 8), ("below", .j 9)], .fz y1, .un, .un, .un, .un, .io g_lots, .io g_lot_of, .io g_word_of, .io g_below] _
  obtain ⟨v1, e1, h⟩ := bnd h
  obtain ⟨ds2, e2, h⟩ := bnd h
  obtain ⟨r7, e5, h⟩ := bnd h
  have t8 : (xLc [5] (sIt (x2 dIx (.e (xOwnF 0 "Web" "reach")) (.v 1))) (.nm 5) (PV.tB (x2 dIn (.v 1) (.e (x2 dIx (.e (xOwnF 0 "Web" "reach")) (.v 5))))) (xV 5)) [.ob "Web" [("book", .d f_book), ("reach", .d f_reach), ("lots", .j 6), ("lot_of", .j 7), ("word_of", .j 8), ("below", .j 9)], .fz y1, .un, .un, .un, .un, .io g_lots, .io g_lot_of, .io g_word_of, .io g_below] = some (.ow r7, [.ob "Web" [("book", .d f_book), ("reach", .d f_reach), ("lots", .j 6), ("lot_of", .j 7), ("word_of", .j 8), ("below", .j 9)], .fz y1, .un, .un, .un, .un, .io g_lots, .io g_lot_of, .io g_word_of, .io g_below]) := by
    refine xLcP (sw := [.ob "Web" [("book", .d f_book), ("reach", .d f_reach), ("lots", .j 6), ("lot_of", .j 7), ("word_of", .j 8), ("below", .j 9)], .fz y1, .un, .un, .un, .un, .io g_lots, .io g_lot_of, .io g_word_of, .io g_below]) (sItL (x2A (preE (fA (xOwnFL rfl (gvMiss (by decide +kernel) gvHit)))) rfl rfl rfl e1) e2) rfl rfl rfl rfl ?_ e5
    intro d3 o h6
    obtain ⟨v4, e3, h6⟩ := bnd h6
    obtain ⟨c5, e4, h6⟩ := bnd h6
    refine ⟨[.ob "Web" [("book", .d f_book), ("reach", .d f_reach), ("lots", .j 6), ("lot_of", .j 7), ("word_of", .j 8), ("below", .j 9)], .fz y1, .un, .un, .un, .fz d3, .io g_lots, .io g_lot_of, .io g_word_of, .io g_below], rfl, ?_⟩
    cases c5 with
    | true =>
      have h6 := condT h6
      cases h6
      exact ⟨_, _, (tBL (x2B rfl (preE (x2A (preE (fA (xOwnFL rfl (gvMiss (by decide +kernel) gvHit)))) rfl rfl rfl e3)) rfl rfl e4)), (fA rfl), rfl, rfl⟩
    | false =>
      have h6 := condF h6
      cases h6
      exact ⟨_, (tBL (x2B rfl (preE (x2A (preE (fA (xOwnFL rfl (gvMiss (by decide +kernel) gvHit)))) rfl rfl rfl e3)) rfl rfl e4)), rfl, rfl⟩
  obtain ⟨v9, e6, h⟩ := bnd h
  refine wSeq (mAsgL (fFr (x1A (preE (wA t8)) rfl e6)) rfl) ?_
  obtain ⟨ds10, e7, h⟩ := bnd h
  obtain ⟨r14, e9, h⟩ := bnd h
  have t15 : (xLc [5] (sIt (xV 2)) (.nm 5) PV.tYes (xCall f_things_of [(.e (xOwnF 0 "Web" "book")), (.e (xV 5)), (.e (xV 2))])) [.ob "Web" [("book", .d f_book), ("reach", .d f_reach), ("lots", .j 6), ("lot_of", .j 7), ("word_of", .j 8), ("below", .j 9)], .fz y1, .fz v9, .un, .un, .un, .io g_lots, .io g_lot_of, .io g_word_of, .io g_below] = some (.ow r14, [.ob "Web" [("book", .d f_book), ("reach", .d f_reach), ("lots", .j 6), ("lot_of", .j 7), ("word_of", .j 8), ("below", .j 9)], .fz y1, .fz v9, .un, .un, .un, .io g_lots, .io g_lot_of, .io g_word_of, .io g_below]) := by
    refine xLcP (sw := [.ob "Web" [("book", .d f_book), ("reach", .d f_reach), ("lots", .j 6), ("lot_of", .j 7), ("word_of", .j 8), ("below", .j 9)], .fz y1, .fz v9, .un, .un, .un, .io g_lots, .io g_lot_of, .io g_word_of, .io g_below]) (sItL (fA rfl) e7) rfl rfl rfl rfl ?_ e9
    intro d11 o h13
    refine ⟨[.ob "Web" [("book", .d f_book), ("reach", .d f_reach), ("lots", .j 6), ("lot_of", .j 7), ("word_of", .j 8), ("below", .j 9)], .fz y1, .fz v9, .un, .un, .fz d11, .io g_lots, .io g_lot_of, .io g_word_of, .io g_below], rfl, ?_⟩
    obtain ⟨v12, e8, h13⟩ := bnd h13
    cases h13
    exact ⟨_, _, rfl, (fA (xCallL (evLL (pLc (preE (fA (xOwnFL rfl gvHit))) (pLc (preE (fA rfl)) (pLc (preE (fA rfl)) pLn))) rfl) (sim_things_of e8) rfl)), rfl, rfl⟩
  obtain ⟨v16, e10, h⟩ := bnd h
  refine wSeq (mAsgL (fFr (x1A (preE (wA t15)) rfl e10)) rfl) ?_
  obtain ⟨c17, e11, h⟩ := bnd h
  refine wSeqW ?_
  cases c17 with
  | true =>
    have h := condT h
    refine wIfT (tBL (x2B rfl (preE (fA fC)) rfl rfl e11)) ?_
    obtain ⟨p18, e12, h⟩ := bnd h
    refine wSeq (mPutL (fA fC) rfl (preF rfl (gvMiss (by decide +kernel) (gvMiss (by decide +kernel) (gvMiss (by decide +kernel) gvHit))) rfl rfl) (ev1L rfl rfl) (chgIo rfl e12)) ?_
    cases h
    exact wRt rfl ⟨.inl rfl, rfl⟩
  | false =>
    have h := condF h
    refine wIfF (tBL (x2B rfl (preE (fA fC)) rfl rfl e11)) ?_
    refine wNx mSkipL ?_
    show Wp _ _ _
    obtain ⟨c19, e13, h⟩ := bnd h
    obtain ⟨v20, e14, h⟩ := bnd h
    have t21 : XA (xIf (PV.tB (x2 dGt (.v 3) (.e (xC (.int 1))))) (xC (.str "grows")) (xC (.str "ring"))) [.ob "Web" [("book", .d f_book), ("reach", .d f_reach), ("lots", .j 6), ("lot_of", .j 7), ("word_of", .j 8), ("below", .j 9)], .fz y1, .fz v9, .fz v16, .un, .un, .io g_lots, .io g_lot_of, .io g_word_of, .io g_below] v20 [.ob "Web" [("book", .d f_book), ("reach", .d f_reach), ("lots", .j 6), ("lot_of", .j 7), ("word_of", .j 8), ("below", .j 9)], .fz y1, .fz v9, .fz v16, .un, .un, .io g_lots, .io g_lot_of, .io g_word_of, .io g_below] := by
      cases c19 with
      | true =>
        have e14 := condT e14
        cases e14
        exact xIfTA (tBL (x2B rfl (preE (fA fC)) rfl rfl e13)) (fA fC)
      | false =>
        have e14 := condF e14
        cases e14
        exact xIfFA (tBL (x2B rfl (preE (fA fC)) rfl rfl e13)) (fA fC)
    refine wSeq (mAsgL (fFr t21) rfl) ?_
    obtain ⟨xs22, e15, h⟩ := bnd h
    obtain ⟨p23, e16, h⟩ := bnd h
    refine wSeq (mDropL (chgRL rfl (preF rfl (gvMiss (by decide +kernel) (gvMiss (by decide +kernel) gvHit)) rfl rfl) rfl (oL_eq e15) (ev1L (preE (xLA (evLL (pLc (preE (fA rfl)) (pLc (preE (fA rfl)) pLn)) rfl) rfl)) rfl) (chgIo rfl e16))) ?_
    obtain ⟨p24, e17, h⟩ := bnd h
    refine wSeq (mPutL (fA rfl) rfl (preF rfl (gvMiss (by decide +kernel) (gvMiss (by decide +kernel) (gvMiss (by decide +kernel) (gvMiss (by decide +kernel) gvHit)))) rfl rfl) (ev1L rfl rfl) (chgIo rfl e17)) ?_
    obtain ⟨ds25, e18, h⟩ := bnd h
    obtain ⟨p30, e20, h⟩ := bnd h
    have t31 : (mFor (sIt (xV 2)) (.nm 5) m_Web_look_at_1) [.ob "Web" [("book", .d f_book), ("reach", .d f_reach), ("lots", .j 6), ("lot_of", .j 7), ("word_of", .j 8), ("below", .j 9)], .fz y1, .fz v9, .fz v16, .fz v20, .un, .io p23.1, .io g_lot_of, .io p24.1, .io g_below] = some (.nx, [.ob "Web" [("book", .d f_book), ("reach", .d f_reach), ("lots", .j 6), ("lot_of", .j 7), ("word_of", .j 8), ("below", .j 9)], .fz y1, .fz v9, .fz v16, .fz v20, .un, .io p23.1, .io p30, .io p24.1, .io g_below]) := by
      refine mForF (st := fun (a26 : D) => [.ob "Web" [("book", .d f_book), ("reach", .d f_reach), ("lots", .j 6), ("lot_of", .j 7), ("word_of", .j 8), ("below", .j 9)], .fz y1, .fz v9, .fz v16, .fz v20, .un, .io p23.1, .io a26, .io p24.1, .io g_below]) (sItL (fA rfl) e18) ?_ e20
      intro d27 a26 b h28
      refine ⟨[.ob "Web" [("book", .d f_book), ("reach", .d f_reach), ("lots", .j 6), ("lot_of", .j 7), ("word_of", .j 8), ("below", .j 9)], .fz y1, .fz v9, .fz v16, .fz v20, .fz d27, .io p23.1, .io a26, .io p24.1, .io g_below], rfl, ?_⟩
      unfold m_Web_look_at_1
      refine wSeqW ?_
      obtain ⟨p29, e19, h28⟩ := bnd h28
      refine wNx (mPutL (fA rfl) rfl (preF rfl (gvMiss (by decide +kernel) (gvMiss (by decide +kernel) (gvMiss (by decide +kernel) gvHit))) rfl rfl) (ev1L rfl rfl) (chgIo rfl e19)) ?_
      refine wNx (mKillL (killA_ok rfl)) ?_
      cases h28
      exact ⟨.inl rfl, rfl⟩
    refine wSeq t31 ?_
    obtain ⟨v32, e21, h⟩ := bnd h
    obtain ⟨ds33, e22, h⟩ := bnd h
    obtain ⟨r40, e26, h⟩ := bnd h
    have t41 : (xLc [5] (sIt (x2 dIx (.e (xOwnF 0 "Web" "reach")) (.v 1))) (.nm 5) (PV.tOr (PV.tB (x2 dEq (.v 4) (.e (xC (.str "grows"))))) (PV.tB (x2 dNotIn (.v 5) (.v 2)))) (xV 5)) [.ob "Web" [("book", .d f_book), ("reach", .d f_reach), ("lots", .j 6), ("lot_of", .j 7), ("word_of", .j 8), ("below", .j 9)], .fz y1, .fz v9, .fz v16, .fz v20, .un, .io p23.1, .io p30, .io p24.1, .io g_below] = some (.ow r40, [.ob "Web" [("book", .d f_book), ("reach", .d f_reach), ("lots", .j 6), ("lot_of", .j 7), ("word_of", .j 8), ("below", .j 9)], .fz y1, .fz v9, .fz v16, .fz v20, .un, .io p23.1, .io p30, .io p24.1, .io g_below]) := by
      refine xLcP (sw := [.ob "Web" [("book", .d f_book), ("reach", .d f_reach), ("lots", .j 6), ("lot_of", .j 7), ("word_of", .j 8), ("below", .j 9)], .fz y1, .fz v9, .fz v16, .fz v20, .un, .io p23.1, .io p30, .io p24.1, .io g_below]) (sItL (x2A (preE (fA (xOwnFL rfl (gvMiss (by decide +kernel) gvHit)))) rfl rfl rfl e21) e22) rfl rfl rfl rfl ?_ e26
      intro d34 o h39
      obtain ⟨c35, e23, h39⟩ := bnd h39
      obtain ⟨c38, e25, h39⟩ := bnd h39
      have t37 : (PV.tOr (PV.tB (x2 dEq (.v 4) (.e (xC (.str "grows"))))) (PV.tB (x2 dNotIn (.v 5) (.v 2)))) [.ob "Web" [("book", .d f_book), ("reach", .d f_reach), ("lots", .j 6), ("lot_of", .j 7), ("word_of", .j 8), ("below", .j 9)], .fz y1, .fz v9, .fz v16, .fz v20, .fz d34, .io p23.1, .io p30, .io p24.1, .io g_below] = some (c38, [.ob "Web" [("book", .d f_book), ("reach", .d f_reach), ("lots", .j 6), ("lot_of", .j 7), ("word_of", .j 8), ("below", .j 9)], .fz y1, .fz v9, .fz v16, .fz v20, .fz d34, .io p23.1, .io p30, .io p24.1, .io g_below]) := by
        cases c35 with
        | true =>
          have e25 := condT e25
          cases e25
          exact tOrT (tBL (x2B rfl (preE (fA fC)) rfl rfl e23))
        | false =>
          have e25 := condF e25
          obtain ⟨c36, e24, e25⟩ := bnd e25
          cases e25
          exact tOrF (tBL (x2B rfl (preE (fA fC)) rfl rfl e23)) (tBL (x2B rfl rfl rfl rfl e24))
      refine ⟨[.ob "Web" [("book", .d f_book), ("reach", .d f_reach), ("lots", .j 6), ("lot_of", .j 7), ("word_of", .j 8), ("below", .j 9)], .fz y1, .fz v9, .fz v16, .fz v20, .fz d34, .io p23.1, .io p30, .io p24.1, .io g_below], rfl, ?_⟩
      cases c38 with
      | true =>
        have h39 := condT h39
        cases h39
        exact ⟨_, _, t37, (fA rfl), rfl, rfl⟩
      | false =>
        have h39 := condF h39
        cases h39
        exact ⟨_, t37, rfl, rfl⟩
    obtain ⟨p42, e27, h⟩ := bnd h
    refine wNx (mPutL (wA t41) rfl (preF rfl (gvMiss (by decide +kernel) (gvMiss (by decide +kernel) (gvMiss (by decide +kernel) (gvMiss (by decide +kernel) (gvMiss (by decide +kernel) gvHit))))) rfl rfl) (ev1L rfl rfl) (chgIo rfl e27)) ?_
    cases h
    exact ⟨.inr ⟨rfl, rfl⟩, rfl⟩
def F_Web (y1 : D) : Option D :=
 (oA ((dFldC "Book" "order") y1)).bind fun v1 =>
 (itemsOf v1).bind fun ds2 =>
 (dcP (fun d3 => (F_kinds_from y1 (.lst [d3])).bind fun v4 =>
 (keyOf d3).bind fun q5 =>
 some (some (q5, v4))) ds2).bind fun r7 =>
 (oA ((dFldC "Book" "order") y1)).bind fun v9 =>
 (itemsOf v9).bind fun ds10 =>
 (forF (fun d12 (a11 : D × D × D × D) => (oB (dNotIn d12 a11.2.1)).bind fun c14 =>
 cond c14 ((F_Web_look_at y1 r7 a11.1 a11.2.1 a11.2.2.1 a11.2.2.2 d12).bind fun v15 =>
 some (v15.2.1, v15.2.2.1, v15.2.2.2.1, v15.2.2.2.2)) (some (a11.1, a11.2.1, a11.2.2.1, a11.2.2.2))) ds10 ((.lst []), (.dK []), (.dT []), (.dT []))).bind fun p16 =>
 some (.ins "Web" [("book", y1), ("reach", r7), ("lots", p16.1), ("lot_of", p16.2.1), ("word_of", p16.2.2.1), ("below", p16.2.2.2)])
theorem sim_Web {y1 r : D} (h : F_Web y1 = some r) : g_Web [y1] = some r := by
  unfold F_Web at h
  obtain ⟨v1, e1, h⟩ := bnd h
  obtain ⟨ds2, e2, h⟩ := bnd h
  obtain ⟨r7, e5, h⟩ := bnd h
  have t8 : (xDc [2] (sIt (x1 (dFldC "Book" "order") (.v 1))) (.nm 2) PV.tYes (xV 2) (xCall f_kinds_from [(.e (xV 1)), (.e (xL dLst [(.e (xV 2))]))])) [.ob "Web" [("book", .d y1)], .fz y1, .un, .un, .un, .un, .un] = some (.ow r7, [.ob "Web" [("book", .d y1)], .fz y1, .un, .un, .un, .un, .un]) := by
    refine xDcP (sw := [.ob "Web" [("book", .d y1)], .fz y1, .un, .un, .un, .un, .un]) (sItL (x1A rfl rfl e1) e2) rfl rfl rfl rfl ?_ e5
    intro d3 o h6
    refine ⟨[.ob "Web" [("book", .d y1)], .fz y1, .fz d3, .un, .un, .un, .un], rfl, ?_⟩
    obtain ⟨v4, e3, h6⟩ := bnd h6
    obtain ⟨q5, e4, h6⟩ := bnd h6
    cases h6
    exact ⟨_, _, _, rfl, ev2L (preE (fA rfl)) (preE (wA (xCallL (evLL (pLc (preE (fA rfl)) (pLc (preE (wA (xLW (evLL (pLc (preE (fA rfl)) pLn) rfl) rfl))) pLn)) rfl) (sim_kinds_from e3) rfl))) rfl rfl, e4, rfl, rfl⟩
  obtain ⟨v9, e6, h⟩ := bnd h
  obtain ⟨ds10, e7, h⟩ := bnd h
  obtain ⟨p16, e10, h⟩ := bnd h
  have t17 : (mFor (sIt (x1 (dFldC "Book" "order") (.v 1))) (.nm 2) m_Web_init_1) [.ob "Web" [("book", .d y1), ("reach", .d r7), ("lots", .j 3), ("lot_of", .j 4), ("word_of", .j 5), ("below", .j 6)], .fz y1, .un, .io (.lst []), .io (.dK []), .io (.dT []), .io (.dT [])] = some (.nx, [.ob "Web" [("book", .d y1), ("reach", .d r7), ("lots", .j 3), ("lot_of", .j 4), ("word_of", .j 5), ("below", .j 6)], .fz y1, .un, .io p16.1, .io p16.2.1, .io p16.2.2.1, .io p16.2.2.2]) := by
    refine mForF (st := fun (a11 : D × D × D × D) => [.ob "Web" [("book", .d y1), ("reach", .d r7), ("lots", .j 3), ("lot_of", .j 4), ("word_of", .j 5), ("below", .j 6)], .fz y1, .un, .io a11.1, .io a11.2.1, .io a11.2.2.1, .io a11.2.2.2]) (sItL (x1A rfl rfl e6) e7) ?_ e10
    intro d12 a11 b h13
    refine ⟨[.ob "Web" [("book", .d y1), ("reach", .d r7), ("lots", .j 3), ("lot_of", .j 4), ("word_of", .j 5), ("below", .j 6)], .fz y1, .fz d12, .io a11.1, .io a11.2.1, .io a11.2.2.1, .io a11.2.2.2], rfl, ?_⟩
    unfold m_Web_init_1
    refine wSeqW ?_
    obtain ⟨c14, e8, h13⟩ := bnd h13
    cases c14 with
    | true =>
      have h13 := condT h13
      refine wIfT (tBL (x2B rfl (preF rfl (gvMiss (by decide +kernel) (gvMiss (by decide +kernel) (gvMiss (by decide +kernel) gvHit))) rfl rfl) rfl rfl e8)) ?_
      obtain ⟨v15, e9, h13⟩ := bnd h13
      refine wNx (mDropL (fA (xObjL rfl (gvMiss (by decide +kernel) (gvMiss (by decide +kernel) (gvMiss (by decide +kernel) (gvMiss (by decide +kernel) (gvMiss (by decide +kernel) (gvMiss (by decide +kernel) gvNil)))))) (evLL (pLc (preE (fA rfl)) pLn) rfl) rfl (show ([3, 4, 5, 6] : List Nat).Nodup by decide) rfl (sim_Web_look_at e9) rfl rfl))) ?_
      refine wNx (mKillL (killA_ok rfl)) ?_
      cases h13
      exact ⟨.inl rfl, rfl⟩
    | false =>
      have h13 := condF h13
      refine wIfF (tBL (x2B rfl (preF rfl (gvMiss (by decide +kernel) (gvMiss (by decide +kernel) (gvMiss (by decide +kernel) gvHit))) rfl rfl) rfl rfl e8)) ?_
      refine wNx mSkipL ?_
      refine wNx (mKillL (killA_ok rfl)) ?_
      cases h13
      exact ⟨.inl rfl, rfl⟩
  cases h
  unfold g_Web
  refine mkIL (s1 := [.ob "Web" [("book", .d y1), ("reach", .d r7), ("lots", .d p16.1), ("lot_of", .d p16.2.1), ("word_of", .d p16.2.2.1), ("below", .d p16.2.2.2)], .fz y1, .un, .un, .un, .un, .un]) rfl ?_ rfl rfl
  unfold m_Web_init
  refine bSq (bFldL (fA rfl) rfl rfl gvNil (by simp)) ?_
  refine bSq (bFldL (wA t8) rfl rfl (gvMiss (by decide +kernel) gvNil) (by simp)) ?_
  refine bSq (bNewL rfl rfl rfl rfl (gvMiss (by decide +kernel) (gvMiss (by decide +kernel) gvNil)) (by simp) (by decide)) ?_
  refine bSq (bNewL rfl rfl rfl rfl (gvMiss (by decide +kernel) (gvMiss (by decide +kernel) (gvMiss (by decide +kernel) gvNil))) (by simp) (by decide)) ?_
  refine bSq (bNewL rfl rfl rfl rfl (gvMiss (by decide +kernel) (gvMiss (by decide +kernel) (gvMiss (by decide +kernel) (gvMiss (by decide +kernel) gvNil)))) (by simp) (by decide)) ?_
  refine bSq (bNewL rfl rfl rfl rfl (gvMiss (by decide +kernel) (gvMiss (by decide +kernel) (gvMiss (by decide +kernel) (gvMiss (by decide +kernel) (gvMiss (by decide +kernel) gvNil))))) (by simp) (by decide)) ?_
  refine bSq (bSq (bSq (bSq (bSq (bGenL t17 rfl) (bFrzL rfl rfl rfl (by decide))) (bFrzL rfl rfl rfl (by decide))) (bFrzL rfl rfl rfl (by decide))) (bFrzL rfl rfl rfl (by decide))) ?_
  rfl
def F_comes (y0 y1 : D) : Option (D) :=
 (F_look_in y0 y1).bind fun v1 =>
 (F_Web y0).bind fun o2 =>
 (oM "Web" "lots_from" o2).bind fun u3 =>
 (F_Web_lots_from o2 y1).bind fun v4 =>
 some v4
theorem sim_comes {y0 y1 : D} {r : D} (h : F_comes y0 y1 = some r) : f_comes [y0, y1] = some (.ow r, [.non, .non]) := by
  unfold F_comes at h
  unfold f_comes
  refine fnW rfl ?_
  unfold m_comes
  show Wp _ [.fz y0, .fz y1] _
  obtain ⟨v1, e1, h⟩ := bnd h
  refine wSeq (mDropL (fA (xCallL (evLL (pLc (preE (fA rfl)) (pLc (preE (fA rfl)) pLn)) rfl) (sim_look_in e1) rfl))) ?_
  obtain ⟨o2, e2, h⟩ := bnd h
  obtain ⟨u3, e3, h⟩ := bnd h
  obtain ⟨v4, e4, h⟩ := bnd h
  cases h
  exact wRt (mRetL (xMethL (fA (xMakeL (evLL (pLc (preE (fA rfl)) pLn) rfl) (sim_Web e2))) e3 (xCallL (evLL (pLc (preE (fA fC)) (pLc (preE (fA rfl)) pLn)) rfl) (sim_Web_lots_from e4) rfl))) ⟨.inl rfl, rfl⟩
def F_Web_upper_from (y0 y1 : D) : Option (D) :=
 (oM "Web" "lots_from" y0).bind fun u1 =>
 (F_Web_lots_from y0 y1).bind fun v2 =>
 (itemsOf v2).bind fun ds3 =>
 (lcP (fun d4 => (itemsOf v2).bind fun ds5 =>
 (lcP (fun d6 => (oB (dNe d6 d4)).bind fun c7 =>
 cond c7 ((oA (dIx d4 (.int 0))).bind fun v8 =>
 (oA ((dFldC "Web" "reach") y0)).bind fun v9 =>
 (oA (dIx d6 (.int 0))).bind fun v10 =>
 (oA (dIx v9 v10)).bind fun v11 =>
 (oB (dIn v8 v11)).bind fun c12 =>
 some (some (.bl c12))) (some none)) ds5).bind fun r14 =>
 (oB (dAny r14)).bind fun c16 =>
 (dTru (.bl c16)).bind fun c17 =>
 cond (!c17) (some (some d4)) (some none)) ds3).bind fun r19 =>
 some r19
theorem sim_Web_upper_from {y0 y1 : D} {r : D} (h : F_Web_upper_from y0 y1 = some r) : f_Web_upper_from [y0, y1] = some (.ow r, [.non, .non]) := by
  unfold F_Web_upper_from at h
  unfold f_Web_upper_from
  refine fnW rfl ?_
  unfold m_Web_upper_from
  show Wp _ [.fz y0, .fz y1, .un, .un, .un] _
  obtain ⟨u1, e1, h⟩ := bnd h
  obtain ⟨v2, e2, h⟩ := bnd h
  refine wSeq (mAsgL (fFr (wA (xMethL (fA rfl) e1 (xCallL (evLL (pLc (preE (fA fC)) (pLc (preE (fA rfl)) pLn)) rfl) (sim_Web_lots_from e2) rfl)))) rfl) ?_
  obtain ⟨ds3, e3, h⟩ := bnd h
  obtain ⟨r19, e14, h⟩ := bnd h
  have t20 : (xLc [3] (sIt (xV 2)) (.nm 3) (PV.tNot (tTru (x1 dAny (.e (xLc [4] (sIt (xV 2)) (.nm 4) (PV.tB (x2 dNe (.v 4) (.v 3))) (x2 dIn (.e (x2 dIx (.v 3) (.e (xC (.int 0))))) (.e (x2 dIx (.e (x1 (dFldC "Web" "reach") (.v 0))) (.e (x2 dIx (.v 4) (.e (xC (.int 0))))))))))))) (xV 3)) [.fz y0, .fz y1, .fz v2, .un, .un] = some (.ow r19, [.fz y0, .fz y1, .fz v2, .un, .un]) := by
    refine xLcP (sw := [.fz y0, .fz y1, .fz v2, .un, .un]) (sItL (fA rfl) e3) rfl rfl rfl rfl ?_ e14
    intro d4 o h18
    obtain ⟨ds5, e4, h18⟩ := bnd h18
    obtain ⟨r14, e11, h18⟩ := bnd h18
    have t15 : (xLc [4] (sIt (xV 2)) (.nm 4) (PV.tB (x2 dNe (.v 4) (.v 3))) (x2 dIn (.e (x2 dIx (.v 3) (.e (xC (.int 0))))) (.e (x2 dIx (.e (x1 (dFldC "Web" "reach") (.v 0))) (.e (x2 dIx (.v 4) (.e (xC (.int 0))))))))) [.fz y0, .fz y1, .fz v2, .fz d4, .un] = some (.ow r14, [.fz y0, .fz y1, .fz v2, .fz d4, .un]) := by
      refine xLcP (sw := [.fz y0, .fz y1, .fz v2, .fz d4, .un]) (sItL (fA rfl) e4) rfl rfl rfl rfl ?_ e11
      intro d6 o h13
      obtain ⟨c7, e5, h13⟩ := bnd h13
      refine ⟨[.fz y0, .fz y1, .fz v2, .fz d4, .fz d6], rfl, ?_⟩
      cases c7 with
      | true =>
        have h13 := condT h13
        obtain ⟨v8, e6, h13⟩ := bnd h13
        obtain ⟨v9, e7, h13⟩ := bnd h13
        obtain ⟨v10, e8, h13⟩ := bnd h13
        obtain ⟨v11, e9, h13⟩ := bnd h13
        obtain ⟨c12, e10, h13⟩ := bnd h13
        cases h13
        exact ⟨_, _, (tBL (x2B rfl rfl rfl rfl e5)), (fA (x2B (preE (x2A rfl (preE (fA fC)) rfl rfl e6)) (preE (x2A (preE (x1A rfl rfl e7)) (preE (x2A rfl (preE (fA fC)) rfl rfl e8)) rfl rfl e9)) rfl rfl e10)), rfl, rfl⟩
      | false =>
        have h13 := condF h13
        cases h13
        exact ⟨_, (tBL (x2B rfl rfl rfl rfl e5)), rfl, rfl⟩
    obtain ⟨c16, e12, h18⟩ := bnd h18
    obtain ⟨c17, e13, h18⟩ := bnd h18
    refine ⟨[.fz y0, .fz y1, .fz v2, .fz d4, .un], rfl, ?_⟩
    cases c17 with
    | true =>
      have h18 := condF h18
      cases h18
      exact ⟨_, (tNotL (tTruL (fA (x1B (preE (wA t15)) rfl e12)) e13)), rfl, rfl⟩
    | false =>
      have h18 := condT h18
      cases h18
      exact ⟨_, _, (tNotL (tTruL (fA (x1B (preE (wA t15)) rfl e12)) e13)), (fA rfl), rfl, rfl⟩
  cases h
  exact wRt (mRetL t20) ⟨.inl rfl, rfl⟩
def F_upper (y0 y1 : D) : Option (D) :=
 (F_look_in y0 y1).bind fun v1 =>
 (F_Web y0).bind fun o2 =>
 (oM "Web" "upper_from" o2).bind fun u3 =>
 (F_Web_upper_from o2 y1).bind fun v4 =>
 some v4
theorem sim_upper {y0 y1 : D} {r : D} (h : F_upper y0 y1 = some r) : f_upper [y0, y1] = some (.ow r, [.non, .non]) := by
  unfold F_upper at h
  unfold f_upper
  refine fnW rfl ?_
  unfold m_upper
  show Wp _ [.fz y0, .fz y1] _
  obtain ⟨v1, e1, h⟩ := bnd h
  refine wSeq (mDropL (fA (xCallL (evLL (pLc (preE (fA rfl)) (pLc (preE (fA rfl)) pLn)) rfl) (sim_look_in e1) rfl))) ?_
  obtain ⟨o2, e2, h⟩ := bnd h
  obtain ⟨u3, e3, h⟩ := bnd h
  obtain ⟨v4, e4, h⟩ := bnd h
  cases h
  exact wRt (mRetL (xMethL (fA (xMakeL (evLL (pLc (preE (fA rfl)) pLn) rfl) (sim_Web e2))) e3 (xCallL (evLL (pLc (preE (fA fC)) (pLc (preE (fA rfl)) pLn)) rfl) (sim_Web_upper_from e4) rfl))) ⟨.inl rfl, rfl⟩
def F_lots (y0 : D) : Option (D) :=
 (F_Web y0).bind fun o1 =>
 (oA ((dFldC "Web" "lots") o1)).bind fun v2 =>
 some v2
theorem sim_lots {y0 : D} {r : D} (h : F_lots y0 = some r) : f_lots [y0] = some (.fz r, [.non]) := by
  unfold F_lots at h
  unfold f_lots
  refine fnW rfl ?_
  unfold m_lots
  show Wp _ [.fz y0] _
  obtain ⟨o1, e1, h⟩ := bnd h
  obtain ⟨v2, e2, h⟩ := bnd h
  cases h
  exact wRt (mRetL (fFr (x1A (preE (fA (xMakeL (evLL (pLc (preE (fA rfl)) pLn) rfl) (sim_Web e1)))) rfl e2))) ⟨.inl rfl, rfl⟩
def F_exchange_amiss (y0 y1 : D) : Option (D) :=
 (oM "Book" "has" y0).bind fun u1 =>
 (oA (dIx y1 (.int 2))).bind fun v2 =>
 (F_Book_has y0 v2).bind fun v3 =>
 (dTru v3).bind fun c4 =>
 cond (!c4) (some (.str "kind")) ((oA ((dFldC "Book" "laws") y0)).bind fun v5 =>
 (oA (dIx y1 (.int 2))).bind fun v6 =>
 (oA (dIx v5 v6)).bind fun v7 =>
 (oB (dIsN v7)).bind fun c8 =>
 (cond c8 (some (.str "rule")) (some (.str ""))).bind fun v9 =>
 some v9)
def F_deed_amiss_r (y0 y1 y2 : D) : Option (D) :=
 (oB ((dIsa ["tuple"]) y1)).bind fun c1 =>
 (dTru (.bl c1)).bind fun c2 =>
 (cond (!c2) (some true) ((oA (dLen y1)).bind fun v3 =>
 (oB (dNe v3 (.int 3))).bind fun c4 =>
 (cond c4 (some true) ((oA (dIx y1 (.int 0))).bind fun v5 =>
 (oB ((dIsa ["str"]) v5)).bind fun c6 =>
 (dTru (.bl c6)).bind fun c7 =>
 (cond (!c7) (some true) ((oA (dIx y1 (.int 0))).bind fun v8 =>
 (oB (dNotIn v8 y2)).bind fun c9 =>
 some c9)).bind fun c11 =>
 some c11)).bind fun c13 =>
 some c13)).bind fun c15 =>
 cond c15 (some (.str "deed")) ((oA (dIx y1 (.int 1))).bind fun v16 =>
 (F_is_whole v16 (.int 1)).bind fun v17 =>
 (dTru v17).bind fun c18 =>
 cond (!c18) (some (.str "many")) ((oA (dIx y1 (.int 0))).bind fun v19 =>
 (oB (dNe v19 (.str "rounds"))).bind fun c20 =>
 cond c20 ((F_exchange_amiss y0 y1).bind fun v21 =>
 some v21) ((oA (dIx y1 (.int 2))).bind fun v22 =>
 (F_is_row v22).bind fun v23 =>
 (dTru v23).bind fun c24 =>
 (cond (!c24) (some true) ((oA (dLen v22)).bind fun v25 =>
 (oB (dLe (.int 1) v25)).bind fun c26 =>
 (cond c26 ((oB (dLe v25 (.int 40))).bind fun c27 =>
 some c27) (some false)).bind fun c28 =>
 some (!c28))).bind fun c31 =>
 cond c31 (some (.str "within")) ((itemsOf v22).bind fun ds32 =>
 (lcP (fun d33 => ((none : Option D)).bind fun v34 =>
 (oB (dNe v34 (.str ""))).bind fun c35 =>
 some (some (.bl c35))) ds32).bind fun r37 =>
 (oB (dAny r37)).bind fun c39 =>
 (dTru (.bl c39)).bind fun c40 =>
 (cond c40 (some (.str "within")) (some (.str ""))).bind fun v41 =>
 some v41))))
def F_deed_amiss (y0 y1 y2 : D) : Option (D) :=
 (oB ((dIsa ["tuple"]) y1)).bind fun c1 =>
 (dTru (.bl c1)).bind fun c2 =>
 (cond (!c2) (some true) ((oA (dLen y1)).bind fun v3 =>
 (oB (dNe v3 (.int 3))).bind fun c4 =>
 (cond c4 (some true) ((oA (dIx y1 (.int 0))).bind fun v5 =>
 (oB ((dIsa ["str"]) v5)).bind fun c6 =>
 (dTru (.bl c6)).bind fun c7 =>
 (cond (!c7) (some true) ((oA (dIx y1 (.int 0))).bind fun v8 =>
 (oB (dNotIn v8 y2)).bind fun c9 =>
 some c9)).bind fun c11 =>
 some c11)).bind fun c13 =>
 some c13)).bind fun c15 =>
 cond c15 (some (.str "deed")) ((oA (dIx y1 (.int 1))).bind fun v16 =>
 (F_is_whole v16 (.int 1)).bind fun v17 =>
 (dTru v17).bind fun c18 =>
 cond (!c18) (some (.str "many")) ((oA (dIx y1 (.int 0))).bind fun v19 =>
 (oB (dNe v19 (.str "rounds"))).bind fun c20 =>
 cond c20 ((F_exchange_amiss y0 y1).bind fun v21 =>
 some v21) ((oA (dIx y1 (.int 2))).bind fun v22 =>
 (F_is_row v22).bind fun v23 =>
 (dTru v23).bind fun c24 =>
 (cond (!c24) (some true) ((oA (dLen v22)).bind fun v25 =>
 (oB (dLe (.int 1) v25)).bind fun c26 =>
 (cond c26 ((oB (dLe v25 (.int 40))).bind fun c27 =>
 some c27) (some false)).bind fun c28 =>
 some (!c28))).bind fun c31 =>
 cond c31 (some (.str "within")) ((itemsOf v22).bind fun ds32 =>
 (lcP (fun d33 => (F_deed_amiss_r y0 d33 (.ctp ["split", "fuse"])).bind fun v34 =>
 (oB (dNe v34 (.str ""))).bind fun c35 =>
 some (some (.bl c35))) ds32).bind fun r37 =>
 (oB (dAny r37)).bind fun c39 =>
 (dTru (.bl c39)).bind fun c40 =>
 (cond c40 (some (.str "within")) (some (.str ""))).bind fun v41 =>
 some v41))))
def F_put (y0 y1 y2 : D) : Option (D × D) :=
 (oItems y1).bind fun ds1 =>
 (forF (fun d3 (a2 : D) => (t2 d3).bind fun k5 =>
 (oDict a2).bind fun u6 =>
 (oA (dGet2 a2 k5.1 (.int 0))).bind fun v7 =>
 (oA (dMul y2 k5.2)).bind fun v8 =>
 (oA (dAdd v7 v8)).bind fun v9 =>
 (oC2 (cPut a2 v9 k5.1)).bind fun p10 =>
 some p10.1) ds1 y0).bind fun p11 =>
 some (.non, p11)
def F_exchange (y0 y1 y2 : D) : Option (D × D) :=
 (t3 y2).bind fun k1 =>
 (oW (dDisp [k1.2.2, (.int 1)])).bind fun v2 =>
 (oA ((dFldC "Book" "laws") y0)).bind fun v3 =>
 (oA (dIx v3 k1.2.2)).bind fun v4 =>
 (oB (dEq k1.1 (.str "fuse"))).bind fun c5 =>
 (cond c5 (some (v4, v2)) (some (v2, v4))).bind fun p6 =>
 (oItems p6.1).bind fun ds8 =>
 (lcP (fun d9 => (t2 d9).bind fun k10 =>
 (oDict y1).bind fun u11 =>
 (oA (dGet2 y1 k10.1 (.int 0))).bind fun v12 =>
 (oA (dMul k1.2.1 k10.2)).bind fun v13 =>
 (oB (dLt v12 v13)).bind fun c14 =>
 some (some (.bl c14))) ds8).bind fun r16 =>
 (oB (dAny r16)).bind fun c18 =>
 (dTru (.bl c18)).bind fun c19 =>
 cond c19 (some ((.bl false), y1)) ((oA (dNeg k1.2.1)).bind fun v20 =>
 (F_put y1 p6.1 v20).bind fun v21 =>
 (F_put v21.2 p6.2 k1.2.1).bind fun v22 =>
 some ((.bl true), v22.2))
def F_go_rounds (y0 y1 y2 y3 : D) : Option (D × D) :=
 (oW (dDict y1)).bind fun v1 =>
 (itemsOf y3).bind fun ds2 =>
 (forX (fun d4 (a3 : D) => (F_exchange y0 a3 d4).bind fun v6 =>
 (dTru v6.1).bind fun c7 =>
 cond (!c7) (some (.rt ((.str "lacks"), y1))) (some (.nx v6.2))) ds2 v1).bind fun x8 => exB x8 (fun p9 =>
 (oItems y1).bind fun ds10 =>
 (lcP (fun d11 => (t2 d11).bind fun k12 =>
 (oA (dIx p9 k12.1)).bind fun v13 =>
 (oB (dLt v13 k12.2)).bind fun c14 =>
 some (some (.bl c14))) ds10).bind fun r16 =>
 (oB (dAny r16)).bind fun c18 =>
 (dTru (.bl c18)).bind fun c19 =>
 cond c19 (some ((.str "fewer"), y1)) ((oItems p9).bind fun ds20 =>
 (forF (fun d22 (a21 : D) => (t2 d22).bind fun k24 =>
 (oDict a21).bind fun u25 =>
 (oA (dGet2 a21 k24.1 (.int 0))).bind fun v26 =>
 (oDict a21).bind fun u27 =>
 (oA (dGet2 a21 k24.1 (.int 0))).bind fun v28 =>
 (oA (dSub k24.2 v28)).bind fun v29 =>
 (oA (dMul y2 v29)).bind fun v30 =>
 (oA (dAdd v26 v30)).bind fun v31 =>
 (oC2 (cPut a21 v31 k24.1)).bind fun p32 =>
 some p32.1) ds20 y1).bind fun p33 =>
 some ((.str ""), p33))) (fun r => some r)
def F_do_one (y0 y1 y2 : D) : Option (D × D) :=
 (F_deed_amiss y0 y2 (.ctp ["split", "fuse", "rounds"])).bind fun v1 =>
 (oB (dNe v1 (.str ""))).bind fun c2 =>
 cond c2 (some (v1, y1)) ((oA (dIx y2 (.int 0))).bind fun v3 =>
 (oB (dEq v3 (.str "rounds"))).bind fun c4 =>
 cond c4 ((oA (dIx y2 (.int 1))).bind fun v5 =>
 (oA (dIx y2 (.int 2))).bind fun v6 =>
 (F_go_rounds y0 y1 v5 v6).bind fun v7 =>
 some (v7.1, v7.2)) ((F_exchange y0 y1 y2).bind fun v8 =>
 (dTru v8.1).bind fun c9 =>
 (cond c9 (some (.str "")) (some (.str "lacks"))).bind fun v10 =>
 some (v10, v8.2)))
end Wk
namespace Wk
open PySem PV
/-! ### what the shared defs tell, as plain functions -/
theorem F_source (c : Int) : Sat (F__law_source_of (.int c)) Src := by
  obtain ⟨a, b, e⟩ := source_ok c
  exact ⟨_, by unfold F__law_source_of; rw [e], a, b, 0, rfl⟩
theorem F_mixed {d : D} {xs : List D} (h : Src d) (hl : xs.length ≤ 900) : Sat (F__law_mixed d (.lst xs)) fun r => ∃ ys, r.1 = .lst ys ∧ Src r.2 ∧ ys.Perm xs := by
  obtain ⟨ys, d', e, h1, h2⟩ := mixed_src h hl
  exact ⟨(.lst ys, d'), by unfold F__law_mixed; rw [e], ys, rfl, h1, h2⟩
theorem F_mixedS {d : D} {xs : List Str} (h : Src d) (hl : xs.length ≤ 900) : Sat (F__law_mixed d (.lst (xs.map .str))) fun r => ∃ ys : List Str, r.1 = .lst (ys.map .str) ∧ Src r.2 ∧ ys.Perm xs :=
  (F_mixed h (by rw [List.length_map]; exact hl)).mono fun r ⟨ys, e, h1, h2⟩ => by
    obtain ⟨zs, rfl, h3⟩ := unmap_str h2
    exact ⟨zs, e, h1, h3⟩
theorem F_twelve {d : D} (h : Src d) : Sat (F__law_twelve d) fun r => ∃ rs, r.1 = .lst (rs.map rowD) ∧ Src r.2 ∧ TabOk rs := by
  obtain ⟨rs, d', e, h1, T⟩ := twelve_ok h
  exact ⟨(_, d'), by unfold F__law_twelve; rw [e], rs, rfl, h1, T⟩
theorem F_heap2B {d : D} {rs : Tab} (h : Src d) (h0 : rs ≠ []) (hl : rs.length ≤ 1000) : Sat (F__law_heap_2 d (.lst (rs.map rowD))) fun r => ∃ kvs, r.1 = .dK kvs ∧ Src r.2 ∧ DictOk (names rs) R30 kvs ∧ kvs.length ≤ 3 := by
  obtain ⟨kvs, d', e, h1, h2, h3⟩ := heap_okB h h0 hl
  exact ⟨(.dK kvs, d'), by unfold F__law_heap_2; rw [e], kvs, rfl, h1, h2, h3⟩
theorem F_cell (ns : List Int) (hl : ns.length ≤ 63) : Sat (F__law_cell_at (.scr ns) (.int 0)) fun r => ∃ n : Int, r = .int n := by
  cases ns with
  | nil =>
    refine ⟨.int 0, ?_, 0, rfl⟩
    unfold F__law_cell_at f__law_cell_at mFun m__law_cell_at
    simp [svs, mSeq, mIfS, PV.tB, x1, x2, ev1, ev2, Rc.pre, Rc.fin, SV.get, dLen, dLt, fi, fb, AV.d, mSkip, mRet, xC, outsOf]
  | cons n ns =>
    refine ⟨.int n, ?_, n, rfl⟩
    have : (0 : Int) < (ns.length : Int) + 1 := by omega
    unfold F__law_cell_at f__law_cell_at mFun m__law_cell_at
    simp [svs, mSeq, mIfS, PV.tB, x1, x2, ev1, ev2, Rc.pre, Rc.fin, SV.get, dLen, dLt, fi, fb, AV.d, mSkip, mRet, xC, outsOf, this, dIx, ixAt]
theorem F_book {rs : Tab} (T : TabOk rs) : Sat (F_Book (.lst (rs.map rowD))) fun b => ∃ rw_, b = bookD rs rw_ := by
  obtain ⟨rw_, e⟩ := book_ok T
  exact ⟨_, e, rw_, rfl⟩
theorem F_look {rs : Tab} {rw_ : D} {P : Int → Prop} {kvs : List (Key × D)} (T : TabOk rs) (hP : ∀ i, P i → 1 ≤ i) (h : DictOk (names rs) P kvs) : F_look_in (bookD rs rw_) (.dK kvs) = some .non := by
  unfold F_look_in
  rw [look_in_ok T hP h]
theorem F_kinds {rs : Tab} {rw_ K : D} {S : List Str} (T : TabOk rs) (nd : S.Nodup) (hS : ∀ m ∈ S, m ∈ names rs) (hK : itemsOf K = some (S.map .str)) : F_kinds_from (bookD rs rw_) K = some (.lst ((reachL rs S).map .str)) := by
  unfold F_kinds_from
  rw [kinds_ok T nd hS hK]
theorem F_reached_ok {rs : Tab} {rw_ : D} {P : Int → Prop} {kvs : List (Key × D)} (T : TabOk rs) (hP : ∀ i, P i → 1 ≤ i) (h : DictOk (names rs) P kvs) : F_reached (bookD rs rw_) (.dK kvs) = some (.lst ((reachL rs (keysS kvs)).map .str)) := by
  unfold F_reached
  rw [reached_ok T hP h]
/-! fields of a book -/
theorem B_order {rs : Tab} {rw_ : D} : oA (dFldC "Book" "order" (bookD rs rw_)) = some (.dK (ordK rs)) := by rw [bfld.1]; rfl
theorem B_laws {rs : Tab} {rw_ : D} : oA (dFldC "Book" "laws" (bookD rs rw_)) = some (.dK (lawsK rs)) := by rw [bfld.2]; rfl
theorem B_law {rs : Tab} {m : Str} (h : m ∈ names rs) : ∃ o, gv rs m = some o ∧ oA (dIx (.dK (lawsK rs)) (.str m)) = some (lawD (names rs) o) := by
  obtain ⟨o, e1, e2⟩ := gv_lawsK' (S := names rs) h
  refine ⟨o, e1, ?_⟩
  unfold dIx keyOf
  simp only
  rw [show gv (lawsK rs) (Sum.inr m) = _ from e2]
  rfl
/-! a written book, by its fields alone -/
end Wk
namespace Wk
open PySem PV
/-! ### lots, in plain words -/
theorem reach_refl {rs : Tab} {m : Str} : Reach rs [m] m := .base List.mem_cons_self
theorem reach_trans {rs : Tab} {S : List Str} {b c : Str} (h1 : Reach rs S b) (h2 : Reach rs [b] c) : Reach rs S c := by
  induction h2 with
  | base h => rw [List.mem_singleton.mp h]; exact h1
  | step _ hp ih => exact .step ih hp
theorem reachL_nd {rs : Tab} (T : TabOk rs) {S : List Str} : (reachL rs S).Nodup := by unfold reachL; exact T.nd.filter _
theorem reachL_len {rs : Tab} (T : TabOk rs) {S : List Str} : (reachL rs S).length ≤ 12 := Nat.le_trans (by unfold reachL; exact List.length_filter_le _ _) (names_rs_len T)
open Classical in
/-- the kinds that come to m and to which m comes -/
noncomputable def lotS (rs : Tab) (m : Str) : List Str := (names rs).filter fun o => decide (Reach rs [m] o ∧ Reach rs [o] m)
theorem mem_lotS {rs : Tab} {m o : Str} : o ∈ lotS rs m ↔ o ∈ names rs ∧ Reach rs [m] o ∧ Reach rs [o] m := by
  unfold lotS
  rw [List.mem_filter]
  have := Classical.propDecidable (Reach rs [m] o ∧ Reach rs [o] m)
  exact ⟨fun h => ⟨h.1, by simpa using h.2⟩, fun h => ⟨h.1, by simpa using h.2⟩⟩
theorem lotS_self {rs : Tab} {m : Str} (h : m ∈ names rs) : m ∈ lotS rs m := mem_lotS.mpr ⟨h, reach_refl, reach_refl⟩
theorem lotS_eq {rs : Tab} {m o : Str} (h : o ∈ lotS rs m) : lotS rs o = lotS rs m := by
  obtain ⟨_, h1, h2⟩ := mem_lotS.mp h
  unfold lotS
  apply List.filter_congr
  intro q _
  refine decide_eq_decide.mpr ⟨fun ⟨a, b⟩ => ⟨reach_trans h1 a, reach_trans b h2⟩, fun ⟨a, b⟩ => ⟨reach_trans h2 a, reach_trans b h1⟩⟩
theorem lotS_nd {rs : Tab} (T : TabOk rs) {m : Str} : (lotS rs m).Nodup := by unfold lotS; exact T.nd.filter _
theorem lotS_len {rs : Tab} (T : TabOk rs) {m : Str} : (lotS rs m).length ≤ 12 := Nat.le_trans (by unfold lotS; exact List.length_filter_le _ _) (names_rs_len T)
theorem lotS_reach {rs : Tab} {m : Str} : (reachL rs [m]).filter (fun o => decide (m ∈ reachL rs [o])) = (reachL rs [m]).filter fun o => decide (m ∈ names rs ∧ o ∈ lotS rs m) := by
  apply List.filter_congr
  intro o ho
  obtain ⟨h1, h2⟩ := reachL_mem.mp ho
  refine decide_eq_decide.mpr ⟨fun h => ?_, fun h => ?_⟩
  · obtain ⟨g1, g2⟩ := reachL_mem.mp h
    exact ⟨g1, mem_lotS.mpr ⟨h1, h2, g2⟩⟩
  · exact reachL_mem.mpr ⟨h.1, (mem_lotS.mp h.2).2.2⟩
theorem lotS_of {rs : Tab} {m : Str} (hm : m ∈ names rs) : (reachL rs [m]).filter (fun o => decide (m ∈ reachL rs [o])) = lotS rs m := by
  rw [lotS_reach]
  unfold reachL
  rw [List.filter_filter]
  unfold lotS
  apply List.filter_congr
  intro o ho
  have := Classical.propDecidable
  by_cases h : Reach rs [m] o ∧ Reach rs [o] m
  · have : o ∈ lotS rs m := mem_lotS.mpr ⟨ho, h⟩
    unfold lotS at this
    simp [h, hm, ho, h.1, this]
  · have : ¬ o ∈ lotS rs m := fun z => h (mem_lotS.mp z).2
    unfold lotS at this
    simp [h, hm, ho, this]
/-- what a kind's law has, in the book's order -/
def lawP (rs : Tab) (m : Str) : List (Str × Int) := match gv rs m with
  | some (some kvs) => (names rs).filterMap fun q => match gv kvs (Sum.inr q) with
    | some (.int i) => some (q, i)
    | _ => none
  | _ => []
def things (rs : Tab) (lot : List Str) (m : Str) : Int := (((lawP rs m).filter fun p => decide (p.1 ∈ lot)).map (·.2)).sum
def mostL (rs : Tab) (lot : List Str) : Int := match lot.map (things rs lot) with
  | [] => 0
  | n :: ns => PV.top n ns
def wordL (rs : Tab) (lot : List Str) : Str := if 1 < mostL rs lot then "grows" else "ring"
theorem tab_row {rs : Tab} (T : TabOk rs) {m : Str} {o : Option (List (Key × D))} (e : gv rs m = some o) : ItsOk (names rs) (m, o) := by
  unfold gv at e
  obtain ⟨r, hr, er⟩ := Option.map_eq_some_iff.mp e
  intro kvs h
  exact T.its r (List.mem_of_find?_eq_some hr) kvs (er.trans h)
theorem sortK_pairs {S : List Str} {P : Int → Prop} {kvs : List (Key × D)} (h : DictOk S P kvs) : ∀ (L : List Str), sortK L kvs = (L.filterMap fun q => match gv kvs (Sum.inr q) with
    | some (.int i) => some (q, i)
    | _ => none).map fun p => ((Sum.inr p.1 : Key), D.int p.2)
  | [] => rfl
  | q :: L => by
    have ih := sortK_pairs h L
    unfold sortK at ih ⊢
    rw [List.map_cons]
    cases hg : gv kvs (Sum.inr q : Key) with
    | none =>
      rw [List.filterMap_cons_none (by simp only [hg, Option.map_none]), List.filterMap_cons_none (by simp only [hg])]
      exact ih
    | some v =>
      have hv : ∃ i, v = .int i := by
        unfold gv at hg
        obtain ⟨p, hp, rfl⟩ := Option.map_eq_some_iff.mp hg
        obtain ⟨m, i, rfl, _⟩ := h.2 p (List.mem_of_find?_eq_some hp)
        exact ⟨i, rfl⟩
      obtain ⟨i, rfl⟩ := hv
      rw [List.filterMap_cons_some (b := ((Sum.inr q : Key), D.int i)) (by simp only [hg, Option.map_some]), List.filterMap_cons_some (b := (q, i)) (by simp only [hg]), List.map_cons, ih]
theorem law_sorted {rs : Tab} (T : TabOk rs) {m : Str} {kvs : List (Key × D)} (e : gv rs m = some (some kvs)) : sortK (names rs) kvs = (lawP rs m).map fun p => ((Sum.inr p.1 : Key), D.int p.2) := by
  rw [sortK_pairs (tab_row T e kvs rfl).2]
  unfold lawP
  rw [e]
theorem str_inT {m : Str} {ks : List Str} : dInB (.str m) (.tup (ks.map .str)) = some (decide (m ∈ ks)) := by
  have e := str_in (m := m) (ks := ks)
  unfold dInB at e ⊢
  exact e
theorem str_out {m : Str} {ks : List Str} : oB (dNotIn (.str m) (.tup (ks.map .str))) = some (decide (m ∉ ks)) := by
  unfold dNotIn
  rw [str_inT]
  by_cases h : m ∈ ks <;> simp [oB, fb, h]
theorem inB_L {m : Str} {ks : List Str} : oB (dIn (.str m) (.lst (ks.map .str))) = some (decide (m ∈ ks)) := by
  unfold dIn
  rw [str_in]
  rfl
theorem inB_T {m : Str} {ks : List Str} : oB (dIn (.str m) (.tup (ks.map .str))) = some (decide (m ∈ ks)) := by
  unfold dIn
  rw [str_inT]
  rfl
theorem intsOf_map (ns : List Int) : intsOf (ns.map D.int) = some ns := by
  induction ns with
  | nil => rfl
  | cons n ns ih => show (intsOf (ns.map D.int)).map (n :: ·) = _; rw [ih]; rfl
theorem sum_ints (ns : List Int) : oA (dSum (.lst (ns.map D.int))) = some (.int ns.sum) := by
  unfold dSum
  simp only [intsOf_map]
  rfl
theorem lawP_len {rs : Tab} (T : TabOk rs) (m : Str) : (lawP rs m).length ≤ 12 := by
  unfold lawP
  split
  · exact Nat.le_trans (List.length_filterMap_le _ _) (names_rs_len T)
  · exact Nat.zero_le _
theorem F_things {rs : Tab} {rw_ : D} (T : TabOk rs) {m : Str} (hm : m ∈ names rs) (lot : List Str) : F_things_of (bookD rs rw_) (.str m) (.tup (lot.map .str)) = some (.int (things rs lot m)) := by
  unfold F_things_of
  obtain ⟨o, e1, e2⟩ := B_law hm
  rw [B_laws]
  simp only [Option.bind_some, e2]
  have go : ∀ L : List (Str × Int), L.length ≤ 12 → ((oItems (.dK (L.map fun p => ((Sum.inr p.1 : Key), D.int p.2)))).bind fun ds6 => (lcP (fun d7 => (t2 d7).bind fun k8 => (oB (dIn k8.1 (.tup (lot.map .str)))).bind fun c9 => cond c9 (some (some k8.2)) (some none)) ds6).bind fun r11 => (oA (dSum r11)).bind fun v13 => some v13) = some (D.int ((L.filter fun p => decide (p.1 ∈ lot)).map (·.2)).sum) := fun L hL => by
    have eI : oItems (.dK (L.map fun p => ((Sum.inr p.1 : Key), D.int p.2))) = some (L.map fun p => D.tup [.str p.1, .int p.2]) := by
      show some (List.map (fun p : Key × D => D.tup [kD p.1, p.2]) (L.map fun p => ((Sum.inr p.1 : Key), D.int p.2))) = _
      rw [List.map_map]
      rfl
    rw [eI]
    simp only [Option.bind_some]
    rw [lcP_filter (g := fun p => D.int p.2) (t := fun p : Str × Int => decide (p.1 ∈ lot)) (by omega) fun p hp => by
      simp only [t2, Option.bind_some, inB_T]
      by_cases h : p.1 ∈ lot <;> simp [h]]
    simp only [Option.bind_some]
    have := sum_ints ((L.filter fun p => decide (p.1 ∈ lot)).map (·.2))
    rw [List.map_map] at this
    rw [show ((L.filter fun p => decide (p.1 ∈ lot)).map fun p => D.int p.2) = (L.filter fun p => decide (p.1 ∈ lot)).map (D.int ∘ fun x => x.2) from rfl, this]
    rfl
  cases o with
  | none =>
    have e0 : lawP rs m = [] := by unfold lawP; rw [e1]
    have := go [] (by simp)
    unfold things
    rw [e0]
    exact this
  | some kvs =>
    have es := law_sorted T e1
    have := go (lawP rs m) (lawP_len T m)
    unfold things
    unfold lawD
    simp only
    rw [es]
    cases hL : lawP rs m with
    | nil => rw [hL] at this; exact this
    | cons p L => rw [hL] at this; exact this
end Wk
namespace Wk
open PySem PV
section
variable {κ α : Type} [DecidableEq κ] {k k' : κ} {v : α}
theorem gv_cons {p : κ × α} {kvs : List (κ × α)} : gv (p :: kvs) k = if p.1 = k then some p.2 else gv kvs k := by
  unfold gv
  rw [List.find?_cons]
  by_cases h : p.1 = k
  · simp only [decide_eq_true h, if_pos h]; rfl
  · simp only [decide_eq_false h, if_neg h]
theorem gv_upd_ne (h : ¬ k = k') : ∀ {kvs : List (κ × α)}, gv (kvs.map fun kv => if kv.1 = k then (kv.1, v) else kv) k' = gv kvs k'
  | [] => rfl
  | p :: kvs => by
    rw [List.map_cons, gv_cons, gv_cons, gv_upd_ne h]
    by_cases hp : p.1 = k
    · have : ¬ p.1 = k' := fun z => h (by rw [← hp, z])
      simp only [if_pos hp, if_neg this]
    · simp only [if_neg hp]
theorem gv_upd_eq : ∀ {kvs : List (κ × α)}, k ∈ kvs.map (·.1) → gv (kvs.map fun kv => if kv.1 = k then (kv.1, v) else kv) k = some v
  | [], h => by cases h
  | p :: kvs, h => by
    rw [List.map_cons, gv_cons]
    by_cases hp : p.1 = k
    · simp only [if_pos hp]
    · simp only [if_neg hp]
      rw [List.map_cons, List.mem_cons] at h
      exact gv_upd_eq (h.resolve_left fun z => hp z.symm)
theorem gv_app_one {kvs : List (κ × α)} (h : k ∉ kvs.map (·.1)) : gv (kvs ++ [(k, v)]) k' = if k = k' then some v else gv kvs k' := by
  induction kvs with
  | nil => rw [List.nil_append, gv_cons]
  | cons p kvs ih =>
    rw [List.map_cons, List.mem_cons, not_or] at h
    rw [List.cons_append, gv_cons, gv_cons, ih h.2]
    by_cases hp : p.1 = k'
    · have : ¬ k = k' := fun z => h.1 (by rw [z, hp])
      simp only [if_pos hp, if_neg this]
    · simp only [if_neg hp]
theorem gv_gp {kvs : List (κ × α)} : gv (gp kvs k v) k' = if k = k' then some v else gv kvs k' := by
  unfold gp
  by_cases h : k ∈ kvs.map (·.1)
  · rw [if_pos (any_key.mpr h)]
    by_cases hk : k = k'
    · subst hk; rw [if_pos rfl]; exact gv_upd_eq h
    · rw [if_neg hk]; exact gv_upd_ne hk
  · rw [if_neg fun z => h (any_key.mp z)]
    exact gv_app_one h
end
/-- what each kind comes to -/
noncomputable def reachK (rs : Tab) : List (Key × D) := (names rs).map fun m => (Sum.inr m, .lst ((reachL rs [m]).map .str))
theorem gv_mapS {f : Str → D} {m : Str} : ∀ {L : List Str}, m ∈ L → gv (L.map fun m => ((Sum.inr m : Key), f m)) (Sum.inr m) = some (f m)
  | [], h => by cases h
  | q :: L, h => by
    rw [List.map_cons, gv_cons]
    by_cases hq : q = m
    · subst hq; rw [if_pos rfl]
    · rw [if_neg fun z => hq (by cases z; rfl)]
      exact gv_mapS ((List.mem_cons.mp h).resolve_left fun z => hq z.symm)
theorem ix_reach {rs : Tab} {m : Str} (h : m ∈ names rs) : oA (dIx (.dK (reachK rs)) (.str m)) = some (.lst ((reachL rs [m]).map .str)) := by
  unfold dIx keyOf
  simp only
  rw [show gv (reachK rs) (Sum.inr m) = _ from gv_mapS h]
  rfl
theorem reachL_lot {rs : Tab} {m o : Str} (h : o ∈ lotS rs m) : reachL rs [o] = reachL rs [m] := by
  obtain ⟨_, h1, h2⟩ := mem_lotS.mp h
  unfold reachL
  apply List.filter_congr
  intro q _
  exact decide_eq_decide.mpr ⟨fun a => reach_trans h1 a, fun a => reach_trans h2 a⟩
def lotK (lot : List Str) : List Key := lot.map Sum.inr
theorem keysOf_strs : ∀ (L : List Str), keysOf (L.map D.str) = some (lotK L)
  | [] => rfl
  | m :: L => by
    show (match keyOf (.str m), keysOf (L.map D.str) with
      | some k, some ks => some (k :: ks)
      | _, _ => none) = _
    rw [keysOf_strs L]
    rfl
noncomputable def belowS (rs : Tab) (m : Str) : List Str := (reachL rs [m]).filter fun o => decide (1 < mostL rs (lotS rs m)) || decide (o ∉ lotS rs m)
noncomputable def lotD (rs : Tab) (m : Str) : D := .tup [.tup ((lotS rs m).map .str), .str (wordL rs (lotS rs m))]
theorem eqB_int (a b : Int) : oB (dEq (.int a) (.int b)) = some (decide (a = b)) := by
  have : dEqB (.int a) (.int b) = some (decide (a = b)) := by
    unfold dEqB
    simp only [pln, eqv, Bool.and_self, if_true]
    by_cases h : a = b <;> simp [h]
  unfold dEq
  rw [this]
  rfl
theorem gtB_int (a b : Int) : oB (dGt (.int a) (.int b)) = some (decide (b < a)) := rfl
theorem word_ne : (("ring" : Str) = "grows") = False := by
  have : ¬ (("ring" : Str) = "grows") := by decide +kernel
  exact eq_false this
theorem eqB_word (rs : Tab) (lot : List Str) : oB (dEq (.str (wordL rs lot)) (.str "grows")) = some (decide (1 < mostL rs lot)) := by
  have h1 : dEqB (.str "grows") (.str "grows") = some true := by
    have hs : sok "grows" = true := by decide +kernel
    unfold dEqB
    simp [pln, eqv, hs]
  have h2 : dEqB (.str "ring") (.str "grows") = some false := by
    have hs : sok "grows" = true := by decide +kernel
    have hs2 : sok "ring" = true := by decide +kernel
    unfold dEqB
    simp [pln, eqv, hs, hs2, word_ne]
  unfold wordL dEq
  by_cases h : 1 < mostL rs lot
  · rw [if_pos h, h1, decide_eq_true h]; rfl
  · rw [if_neg h, h2, decide_eq_false h]; rfl
theorem max_things {rs : Tab} {lot : List Str} (h : lot ≠ []) : oA (dMax (.lst ((lot.map (things rs lot)).map D.int))) = some (.int (mostL rs lot)) := by
  unfold dMax mostL
  simp only [intsOf_map]
  cases e : lot.map (things rs lot) with
  | nil => exact absurd (List.map_eq_nil_iff.mp e) h
  | cons n ns => rfl
theorem put_some {kvs : List (Key × D)} {m : Str} {v : D} (h : kvs.length ≤ 1000) : oC2 (cPut (.dK kvs) v (.str m)) = some (.dK (gp kvs (Sum.inr m) v), .non) := by
  unfold cPut keyOf
  simp only
  rw [if_pos (by unfold SZ; omega)]
  rfl
theorem putT_some {kvs : List (List Key × D)} {L : List Str} {v : D} (h : kvs.length ≤ 1000) : oC2 (cPut (.dT kvs) v (.tup (L.map .str))) = some (.dT (gp kvs (lotK L) v), .non) := by
  unfold cPut
  simp only [keysOf_strs]
  rw [if_pos (by unfold SZ; omega)]
  rfl
theorem app_some {xs : List D} {v : D} (h : xs.length ≤ 1000) : oC2 (cApp (.lst xs) v) = some (.lst (xs ++ [v]), .non) := by
  show oC2 (if xs.length < SZ then some (D.lst (xs ++ [v]), AV.fz D.non) else none) = _
  rw [if_pos (by unfold SZ; omega)]
  rfl
/-- a lot's kinds put into the dict of lots -/
def lotPut (kv : List (Key × D)) (v : D) (L : List Str) : List (Key × D) := L.foldl (fun a o => gp a (Sum.inr o) v) kv
theorem lotPut_len {v : D} : ∀ (L : List Str) (kv : List (Key × D)), (lotPut kv v L).length ≤ kv.length + L.length
  | [], kv => Nat.le_refl _
  | o :: L, kv => by
    have := lotPut_len (v := v) L (gp kv (Sum.inr o) v)
    have := gp_len kv (Sum.inr o) v
    show (lotPut (gp kv (Sum.inr o) v) v L).length ≤ _
    rw [List.length_cons]
    omega
theorem lotPut_gv {v : D} {m : Str} : ∀ (L : List Str) (kv : List (Key × D)), gv (lotPut kv v L) (Sum.inr m) = if m ∈ L then some v else gv kv (Sum.inr m)
  | [], kv => by rw [if_neg (by simp)]; rfl
  | o :: L, kv => by
    show gv (lotPut (gp kv (Sum.inr o) v) v L) (Sum.inr m) = _
    rw [lotPut_gv L, gv_gp]
    by_cases h1 : m ∈ L
    · rw [if_pos h1, if_pos (List.mem_cons_of_mem _ h1)]
    · rw [if_neg h1]
      by_cases h2 : o = m
      · subst h2; rw [if_pos rfl, if_pos List.mem_cons_self]
      · rw [if_neg fun z => h2 (by cases z; rfl), if_neg fun z => (List.mem_cons.mp z).elim (fun y => h2 y.symm) h1]
theorem forF_put {t : D} : ∀ (L : List Str) (kv : List (Key × D)), kv.length + L.length ≤ 1000 → forF (fun d (a : D) => (oC2 (cPut a t d)).bind fun p => some p.1) (L.map .str) (.dK kv) = some (.dK (lotPut kv t L))
  | [], kv, _ => rfl
  | o :: L, kv, h => by
    rw [List.length_cons] at h
    rw [List.map_cons]
    unfold forF
    rw [put_some (by omega)]
    simp only [Option.bind_some]
    have := gp_len kv (Sum.inr o) t
    exact forF_put L _ (by omega)
/-- what look_at does for one kind -/
theorem look_at_ok {rs : Tab} {rw_ : D} (T : TabOk rs) {m : Str} (hm : m ∈ names rs) {ls : List D} {kv : List (Key × D)} {wv bv : List (List Key × D)} (l1 : ls.length ≤ 900) (l2 : kv.length ≤ 900) (l3 : wv.length ≤ 900) (l4 : bv.length ≤ 900) :
    F_Web_look_at (bookD rs rw_) (.dK (reachK rs)) (.lst ls) (.dK kv) (.dT wv) (.dT bv) (.str m) = if mostL rs (lotS rs m) = 0 then some (.non, .lst ls, .dK (gp kv (Sum.inr m) .non), .dT wv, .dT bv)
      else some (.non, .lst (ls ++ [lotD rs m]), .dK (lotPut kv (.tup ((lotS rs m).map .str)) (lotS rs m)), .dT (gp wv (lotK (lotS rs m)) (.str (wordL rs (lotS rs m)))), .dT (gp bv (lotK (lotS rs m)) (.lst ((belowS rs m).map .str)))) := by
  have hrl := reachL_len T (S := [m])
  have hll := lotS_len T (m := m)
  have hne : lotS rs m ≠ [] := fun z => by have := lotS_self hm; rw [z] at this; cases this
  unfold F_Web_look_at
  rw [ix_reach hm]
  simp only [Option.bind_some, itemsOf]
  rw [lcP_filter (g := D.str) (t := fun o => decide (m ∈ reachL rs [o])) (by omega) fun o ho => by
    have hon : o ∈ names rs := (reachL_mem.mp ho).1
    simp only [ix_reach hon, Option.bind_some, inB_L]
    by_cases h : m ∈ reachL rs [o] <;> simp [h]]
  rw [lotS_of hm]
  simp only [Option.bind_some, show oA (dTuple (.lst ((lotS rs m).map .str))) = some (.tup ((lotS rs m).map .str)) from rfl]
  rw [lcP_map (g := fun o => D.int (things rs (lotS rs m) o)) (by omega) fun o ho => by
    have hon : o ∈ names rs := (mem_lotS.mp ho).1
    rw [F_things T hon]
    rfl]
  have hmx := max_things (rs := rs) hne
  rw [List.map_map] at hmx
  simp only [Option.bind_some, show ((lotS rs m).map fun o => D.int (things rs (lotS rs m) o)) = (lotS rs m).map (D.int ∘ things rs (lotS rs m)) from rfl, hmx, eqB_int]
  by_cases h0 : mostL rs (lotS rs m) = 0
  · rw [if_pos h0]
    simp only [h0, decide_true, cond_true, put_some (kvs := kv) (by omega), Option.bind_some]
  · rw [if_neg h0]
    have hw : (cond (decide (1 < mostL rs (lotS rs m))) (some (D.str "grows")) (some (D.str "ring"))) = some (.str (wordL rs (lotS rs m))) := by
      unfold wordL
      by_cases h : 1 < mostL rs (lotS rs m) <;> simp [h]
    simp only [h0, decide_false, cond_false, gtB_int, Option.bind_some, hw, show oL (.lst ls) = some ls from rfl, app_some (xs := ls) (by omega), putT_some (kvs := wv) (by omega)]
    rw [forF_put _ _ (by omega)]
    simp only [Option.bind_some]
    rw [lcP_filter (g := D.str) (t := fun o => decide (1 < mostL rs (lotS rs m)) || decide (o ∉ lotS rs m)) (by omega) fun o ho => by
      simp only [eqB_word, Option.bind_some, str_out]
      by_cases h1 : 1 < mostL rs (lotS rs m)
      · simp [h1]
      · by_cases h2 : o ∈ lotS rs m <;> simp [h1, h2]]
    simp only [Option.bind_some]
    rw [show (reachL rs [m]).filter (fun o => decide (1 < mostL rs (lotS rs m)) || decide (o ∉ lotS rs m)) = belowS rs m from rfl, putT_some (by omega)]
    rfl
end Wk
namespace Wk
open PySem PV
/-- does some kind of these stand in the lot of m -/
def Cov (rs : Tab) (ps : List Str) (m : Str) : Prop := ∃ q ∈ ps, q ∈ lotS rs m
/-- the first kinds of lots, among these -/
noncomputable def firstsL (rs : Tab) (ps : List Str) : List Str := ps.filter fun m => decide (mostL rs (lotS rs m) ≠ 0) && decide ((lotS rs m).head? = some m)
noncomputable def lotOfD (rs : Tab) (m : Str) : D := if mostL rs (lotS rs m) = 0 then .non else .tup ((lotS rs m).map .str)
theorem lot_sym {rs : Tab} {m o : Str} (hm : m ∈ names rs) (h : o ∈ lotS rs m) : m ∈ lotS rs o := by
  obtain ⟨_, h1, h2⟩ := mem_lotS.mp h
  exact mem_lotS.mpr ⟨hm, h2, h1⟩
theorem head_iff {rs : Tab} (T : TabOk rs) {A B : List Str} {m : Str} (e : names rs = A ++ m :: B) : (lotS rs m).head? = some m ↔ ¬ Cov rs A m := by
  have hm : m ∈ names rs := by rw [e]; simp
  have key : lotS rs m = A.filter (fun o => decide (o ∈ lotS rs m)) ++ m :: B.filter fun o => decide (o ∈ lotS rs m) := by
    have : lotS rs m = (names rs).filter fun o => decide (o ∈ lotS rs m) := by
      have hh : ∀ L : List Str, L = names rs → lotS rs m = L.filter fun o => decide (o ∈ lotS rs m) := fun L hL => by
        conv => lhs; unfold lotS
        rw [← hL]
        apply List.filter_congr
        intro o ho
        have := Classical.propDecidable
        refine decide_eq_decide.mpr ⟨fun h => mem_lotS.mpr ⟨by rw [← hL]; exact ho, h⟩, fun h => (mem_lotS.mp h).2⟩
      exact hh _ rfl
    rw [this]
    conv => lhs; rw [e]
    rw [List.filter_append, List.filter_cons_of_pos (by simpa using lotS_self hm), ← this]
  constructor
  · rintro h ⟨q, hq, hql⟩
    have nd := T.nd
    rw [e, List.nodup_append] at nd
    have hqf : q ∈ A.filter fun o => decide (o ∈ lotS rs m) := List.mem_filter.mpr ⟨hq, by simpa using hql⟩
    rw [key] at h
    cases hf : A.filter (fun o => decide (o ∈ lotS rs m)) with
    | nil => rw [hf] at hqf; cases hqf
    | cons a L =>
      rw [hf] at h
      have : a = m := Option.some.inj h
      have ha : a ∈ A := by
        have : a ∈ A.filter fun o => decide (o ∈ lotS rs m) := by rw [hf]; exact List.mem_cons_self
        exact (List.mem_filter.mp this).1
      exact nd.2.2 a ha m List.mem_cons_self this
  · intro h
    have : A.filter (fun o => decide (o ∈ lotS rs m)) = [] := by
      rw [List.filter_eq_nil_iff]
      intro q hq hd
      exact h ⟨q, hq, by simpa using hd⟩
    rw [key, this]
    rfl
/-- what stands in the dicts when some kinds have been looked at -/
structure WebJ (rs : Tab) (ps : List Str) (lots : D) (kv : List (Key × D)) (wv bv : List (List Key × D)) : Prop where
  lots : lots = .lst ((firstsL rs ps).map (lotD rs))
  kvl : kv.length ≤ 24 * ps.length
  wvl : wv.length ≤ ps.length
  bvl : bv.length ≤ ps.length
  kvg : ∀ m ∈ names rs, (Cov rs ps m → gv kv (Sum.inr m) = some (lotOfD rs m)) ∧ (¬ Cov rs ps m → gv kv (Sum.inr m) = none)
  wvg : ∀ m ∈ names rs, Cov rs ps m → mostL rs (lotS rs m) ≠ 0 → gv wv (lotK (lotS rs m)) = some (.str (wordL rs (lotS rs m)))
  bvg : ∀ m ∈ names rs, Cov rs ps m → mostL rs (lotS rs m) ≠ 0 → gv bv (lotK (lotS rs m)) = some (.lst ((belowS rs m).map .str))
theorem lotK_inj : ∀ {A B : List Str}, lotK A = lotK B → A = B
  | [], [], _ => rfl
  | [], _ :: _, h => by cases h
  | _ :: _, [], h => by cases h
  | a :: A, b :: B, h => by
    unfold lotK at h
    rw [List.map_cons, List.map_cons, List.cons.injEq] at h
    have h1 : a = b := by cases h.1; rfl
    rw [h1, lotK_inj (A := A) (B := B) h.2]
theorem cov_snoc {rs : Tab} {ps : List Str} {m q : Str} : Cov rs (ps ++ [m]) q ↔ Cov rs ps q ∨ m ∈ lotS rs q := by
  unfold Cov
  constructor
  · rintro ⟨o, ho, h⟩
    rcases List.mem_append.mp ho with ho | ho
    · exact .inl ⟨o, ho, h⟩
    · rw [List.mem_singleton.mp ho] at h; exact .inr h
  · rintro (⟨o, ho, h⟩ | h)
    · exact ⟨o, List.mem_append_left _ ho, h⟩
    · exact ⟨m, List.mem_append_right _ (List.mem_singleton.mpr rfl), h⟩
theorem below_eq {rs : Tab} {m o : Str} (h : o ∈ lotS rs m) : belowS rs o = belowS rs m := by
  unfold belowS
  rw [reachL_lot h, lotS_eq h]
theorem lotOf_eq {rs : Tab} {m o : Str} (h : o ∈ lotS rs m) : lotOfD rs o = lotOfD rs m := by
  unfold lotOfD
  rw [lotS_eq h]
theorem le_top : ∀ (ns : List Int) (n : Int), n ≤ PV.top n ns ∧ ∀ k ∈ ns, k ≤ PV.top n ns
  | [], n => ⟨Int.le_refl _, by simp⟩
  | k :: ns, n => by
    show n ≤ PV.top (if k > n then k else n) ns ∧ ∀ j ∈ k :: ns, j ≤ PV.top (if k > n then k else n) ns
    obtain ⟨h1, h2⟩ := le_top ns (if k > n then k else n)
    have h3 : n ≤ (if k > n then k else n) ∧ k ≤ (if k > n then k else n) := by split <;> omega
    refine ⟨Int.le_trans h3.1 h1, fun j hj => ?_⟩
    rcases List.mem_cons.mp hj with rfl | hj
    · exact Int.le_trans h3.2 h1
    · exact h2 j hj
theorem things_le {rs : Tab} {lot : List Str} {o : Str} (h : o ∈ lot) : things rs lot o ≤ mostL rs lot := by
  unfold mostL
  have hm : things rs lot o ∈ lot.map (things rs lot) := List.mem_map.mpr ⟨o, h, rfl⟩
  cases e : lot.map (things rs lot) with
  | nil => rw [e] at hm; cases hm
  | cons n ns =>
    rw [e] at hm
    rcases List.mem_cons.mp hm with h | h
    · rw [h]; exact (le_top ns n).1
    · exact (le_top ns n).2 _ h
theorem lawP_mem {rs : Tab} (T : TabOk rs) {j q : Str} {i : Int} (h : (q, i) ∈ lawP rs j) : 1 ≤ i ∧ i ≤ 99 ∧ q ∈ parts rs j := by
  unfold lawP at h
  unfold parts
  split at h
  · rename_i kvs e
    obtain ⟨q', hq, e2⟩ := List.mem_filterMap.mp h
    have hd := (tab_row T e kvs rfl).2
    split at e2
    · rename_i i' e3
      cases e2
      rw [e]
      have hk : (Sum.inr q : Key) ∈ kvs.map (·.1) := by
        refine Classical.byContradiction fun z => ?_
        rw [gv_none' z] at e3
        cases e3
      unfold gv at e3
      obtain ⟨p, hp, e4⟩ := Option.map_eq_some_iff.mp e3
      obtain ⟨m, i2, rfl, _, h1, h2⟩ := hd.2 p (List.mem_of_find?_eq_some hp)
      cases e4
      refine ⟨h1, h2, ?_⟩
      show q ∈ keysS kvs
      unfold keysS
      obtain ⟨p2, hp2, e5⟩ := List.mem_map.mp hk
      exact List.mem_filterMap.mpr ⟨p2, hp2, by rw [e5]⟩
    · cases e2
  · cases h
theorem parts_lawP {rs : Tab} (T : TabOk rs) {j q : Str} (h : q ∈ parts rs j) : ∃ i, (q, i) ∈ lawP rs j := by
  have hq := parts_sub T h
  unfold parts at h
  unfold lawP
  split at h
  · rename_i o e
    rw [e]
    cases o with
    | none => cases h
    | some kvs =>
      have hd := (tab_row T e kvs rfl).2
      have h : q ∈ keysS kvs := h
      unfold keysS at h
      obtain ⟨p, hp, e2⟩ := List.mem_filterMap.mp h
      obtain ⟨m, i, rfl, _⟩ := hd.2 p hp
      cases e2
      have hs : (gv kvs (Sum.inr q : Key)).isSome = true := gv_some (List.mem_map.mpr ⟨_, hp, rfl⟩)
      cases hg : gv kvs (Sum.inr q : Key) with
      | none => rw [hg] at hs; cases hs
      | some v =>
        have hv : ∃ i, v = .int i := by
          unfold gv at hg
          obtain ⟨p2, hp2, rfl⟩ := Option.map_eq_some_iff.mp hg
          obtain ⟨m2, i2, rfl, _⟩ := hd.2 p2 (List.mem_of_find?_eq_some hp2)
          exact ⟨i2, rfl⟩
        obtain ⟨i2, rfl⟩ := hv
        exact ⟨i2, List.mem_filterMap.mpr ⟨q, hq, by rw [hg]⟩⟩
  · cases h
theorem sum_pos {l : List Int} (h : ∀ x ∈ l, 1 ≤ x) : 0 ≤ l.sum ∧ (l ≠ [] → 1 ≤ l.sum) := by
  induction l with
  | nil => exact ⟨Int.le_refl _, fun z => absurd rfl z⟩
  | cons x l ih =>
    obtain ⟨h1, _⟩ := ih fun y hy => h y (List.mem_cons_of_mem _ hy)
    have := h x List.mem_cons_self
    rw [List.sum_cons]
    exact ⟨by omega, fun _ => by omega⟩
theorem things_pos {rs : Tab} (T : TabOk rs) {lot : List Str} {j q : Str} (h : q ∈ parts rs j) (hq : q ∈ lot) : 1 ≤ things rs lot j := by
  obtain ⟨i, hi⟩ := parts_lawP T h
  unfold things
  refine (sum_pos fun x hx => ?_).2 fun z => ?_
  · obtain ⟨p, hp, rfl⟩ := List.mem_map.mp hx
    exact (lawP_mem T (q := p.1) (i := p.2) (List.mem_filter.mp hp).1).1
  · have : i ∈ ((lawP rs j).filter fun p => decide (p.1 ∈ lot)).map (·.2) := List.mem_map.mpr ⟨(q, i), List.mem_filter.mpr ⟨hi, by simpa using hq⟩, rfl⟩
    rw [z] at this
    cases this
theorem gv_mem {rs : Tab} {m : Str} {o : Option (List (Key × D))} (e : gv rs m = some o) : m ∈ names rs := by
  refine Classical.byContradiction fun z => ?_
  rw [gv_none' z] at e
  cases e
theorem reach_names_of_parts {rs : Tab} (T : TabOk rs) {j q : Str} (h : q ∈ parts rs j) : j ∈ names rs := by
  unfold parts at h
  split at h
  · rename_i o e; exact gv_mem e
  · cases h
/-- a kind on no round is its lot alone -/
theorem lot_alone {rs : Tab} (T : TabOk rs) {m : Str} (h0 : mostL rs (lotS rs m) = 0) {o : Str} (h : o ∈ lotS rs m) : o = m := by
  obtain ⟨_, h1, h2⟩ := mem_lotS.mp h
  cases h1 with
  | base h => exact List.mem_singleton.mp h
  | step hj hp =>
    rename_i j
    exfalso
    have hjn : j ∈ names rs := reach_names_of_parts T hp
    have hjl : j ∈ lotS rs m := mem_lotS.mpr ⟨hjn, hj, reach_trans (.step reach_refl hp) h2⟩
    have := things_pos T hp h
    have := things_le (rs := rs) hjl
    omega
theorem web_turn {rs : Tab} {rw_ : D} (T : TabOk rs) {A B : List Str} {m : Str} (e : names rs = A ++ m :: B) {lots : D} {kv : List (Key × D)} {wv bv : List (List Key × D)} (J : WebJ rs A lots kv wv bv) :
    ∃ (lots' : D) (kv' : List (Key × D)) (wv' bv' : List (List Key × D)), ((oB (dNotIn (.str m) (.dK kv))).bind fun c14 => cond c14 ((F_Web_look_at (bookD rs rw_) (.dK (reachK rs)) lots (.dK kv) (.dT wv) (.dT bv) (.str m)).bind fun v15 => some (v15.2.1, v15.2.2.1, v15.2.2.2.1, v15.2.2.2.2)) (some (lots, .dK kv, .dT wv, .dT bv))) = some (lots', .dK kv', .dT wv', .dT bv') ∧ WebJ rs (A ++ [m]) lots' kv' wv' bv' := by
  have hm : m ∈ names rs := by rw [e]; simp
  have hAl : A.length ≤ 12 := by
    have := names_rs_len T
    rw [e, List.length_append] at this
    omega
  have hll := lotS_len T (m := m)
  have hh := head_iff T e
  have eIn : oB (dNotIn (.str m) (.dK kv)) = some (!(gv kv (Sum.inr m)).isSome) := by
    unfold dNotIn
    rw [str_key]
    rfl
  have efl : firstsL rs (A ++ [m]) = firstsL rs A ++ (if mostL rs (lotS rs m) ≠ 0 ∧ (lotS rs m).head? = some m then [m] else []) := by
    unfold firstsL
    rw [List.filter_append]
    congr 1
    by_cases h1 : mostL rs (lotS rs m) ≠ 0 <;> by_cases h2 : (lotS rs m).head? = some m <;> simp [h1, h2]
  by_cases hc : Cov rs A m
  · have hg := (J.kvg m hm).1 hc
    refine ⟨lots, kv, wv, bv, by rw [eIn, hg]; rfl, ?_, Nat.le_trans J.kvl (by rw [List.length_append]; omega), Nat.le_trans J.wvl (by rw [List.length_append]; omega), Nat.le_trans J.bvl (by rw [List.length_append]; omega), fun q hq => ?_, fun q hq hcq => ?_, fun q hq hcq => ?_⟩
    · rw [efl, if_neg fun z => (hh.mp z.2) hc, List.append_nil]
      exact J.lots
    · have : Cov rs (A ++ [m]) q ↔ Cov rs A q := by
        rw [cov_snoc]
        refine ⟨fun h => h.elim id fun h => ?_, .inl⟩
        obtain ⟨o, ho, hol⟩ := hc
        exact ⟨o, ho, by rw [← lotS_eq h]; exact hol⟩
      rw [this]
      exact J.kvg q hq
    all_goals
      have : Cov rs A q := by
        rcases cov_snoc.mp hcq with h | h
        · exact h
        · obtain ⟨o, ho, hol⟩ := hc
          exact ⟨o, ho, by rw [← lotS_eq h]; exact hol⟩
    · exact J.wvg q hq this
    · exact J.bvg q hq this
  · have hg := (J.kvg m hm).2 hc
    have hlots := J.lots
    subst hlots
    have hfl : (firstsL rs A).length ≤ A.length := by unfold firstsL; exact List.length_filter_le _ _
    have look := look_at_ok (rw_ := rw_) T hm (ls := (firstsL rs A).map (lotD rs)) (kv := kv) (wv := wv) (bv := bv) (by rw [List.length_map]; omega) (by have := J.kvl; omega) (by have := J.wvl; omega) (by have := J.bvl; omega)
    have csym : ∀ {q : Str}, q ∈ names rs → (m ∈ lotS rs q ↔ q ∈ lotS rs m) := fun {q} hq => ⟨fun h => lot_sym hq h, fun h => lot_sym hm h⟩
    by_cases h0 : mostL rs (lotS rs m) = 0
    · rw [if_pos h0] at look
      have al : ∀ {q : Str}, q ∈ names rs → (m ∈ lotS rs q ↔ q = m) := fun {q} hq => by
        rw [csym hq]
        exact ⟨lot_alone T h0, fun h => by rw [h]; exact lotS_self hm⟩
      refine ⟨_, _, _, _, by rw [eIn, hg]; simp only [Option.isSome_none, Bool.not_false, Option.bind_some, cond_true, look]; rfl, ?_, ?_, Nat.le_trans J.wvl (by rw [List.length_append]; omega), Nat.le_trans J.bvl (by rw [List.length_append]; omega), fun q hq => ?_, fun q hq hcq hq0 => ?_, fun q hq hcq hq0 => ?_⟩
      · rw [efl, if_neg fun z => z.1 h0, List.append_nil]
      · have := gp_len kv (Sum.inr m) D.non
        have := J.kvl
        rw [List.length_append, List.length_singleton]
        omega
      · rw [gv_gp, cov_snoc, al hq]
        by_cases hqm : q = m
        · subst hqm
          rw [if_pos rfl]
          exact ⟨fun _ => by unfold lotOfD; rw [if_pos h0], fun z => absurd (.inr rfl) z⟩
        · rw [if_neg fun z => hqm (by cases z; rfl)]
          exact ⟨fun z => (J.kvg q hq).1 (z.resolve_right hqm), fun z => (J.kvg q hq).2 fun y => z (.inl y)⟩
      · rcases cov_snoc.mp hcq with h | h
        · exact J.wvg q hq h hq0
        · rw [(al hq).mp h] at hq0; exact absurd h0 hq0
      · rcases cov_snoc.mp hcq with h | h
        · exact J.bvg q hq h hq0
        · rw [(al hq).mp h] at hq0; exact absurd h0 hq0
    · rw [if_neg h0] at look
      refine ⟨_, _, _, _, by rw [eIn, hg]; simp only [Option.isSome_none, Bool.not_false, Option.bind_some, cond_true, look]; rfl, ?_, ?_, ?_, ?_, fun q hq => ?_, fun q hq hcq hq0 => ?_, fun q hq hcq hq0 => ?_⟩
      · rw [efl, if_pos ⟨h0, hh.mpr hc⟩, List.map_append]
        rfl
      · have := lotPut_len (v := D.tup ((lotS rs m).map .str)) (lotS rs m) kv
        have := J.kvl
        rw [List.length_append, List.length_singleton]
        omega
      · have := gp_len wv (lotK (lotS rs m)) (D.str (wordL rs (lotS rs m)))
        have := J.wvl
        rw [List.length_append, List.length_singleton]
        omega
      · have := gp_len bv (lotK (lotS rs m)) (D.lst ((belowS rs m).map .str))
        have := J.bvl
        rw [List.length_append, List.length_singleton]
        omega
      · rw [lotPut_gv, cov_snoc, csym hq]
        by_cases hql : q ∈ lotS rs m
        · rw [if_pos hql]
          refine ⟨fun _ => ?_, fun z => absurd (.inr hql) z⟩
          rw [lotOf_eq hql]
          unfold lotOfD
          rw [if_neg h0]
        · rw [if_neg hql]
          exact ⟨fun z => (J.kvg q hq).1 (z.resolve_right hql), fun z => (J.kvg q hq).2 fun y => z (.inl y)⟩
      · rw [gv_gp]
        by_cases hql : q ∈ lotS rs m
        · rw [lotS_eq hql, if_pos rfl]
        · have : ¬ lotK (lotS rs m) = lotK (lotS rs q) := fun z => hql (by rw [lotK_inj z]; exact lotS_self hq)
          rw [if_neg this]
          refine J.wvg q hq ?_ hq0
          rcases cov_snoc.mp hcq with h | h
          · exact h
          · exact absurd ((csym hq).mp h) hql
      · rw [gv_gp]
        by_cases hql : q ∈ lotS rs m
        · rw [lotS_eq hql, if_pos rfl, below_eq hql]
        · have : ¬ lotK (lotS rs m) = lotK (lotS rs q) := fun z => hql (by rw [lotK_inj z]; exact lotS_self hq)
          rw [if_neg this]
          refine J.bvg q hq ?_ hq0
          rcases cov_snoc.mp hcq with h | h
          · exact h
          · exact absurd ((csym hq).mp h) hql
/-- what a web is -/
def WebOk (rs : Tab) (b w : D) : Prop := ∃ lots kv wv bv, w = .ins "Web" [("book", b), ("reach", .dK (reachK rs)), ("lots", lots), ("lot_of", .dK kv), ("word_of", .dT wv), ("below", .dT bv)] ∧ WebJ rs (names rs) lots kv wv bv
theorem web_loop {rs : Tab} {rw_ : D} (T : TabOk rs) : ∀ (B A : List Str) (lots : D) (kv : List (Key × D)) (wv bv : List (List Key × D)), names rs = A ++ B → WebJ rs A lots kv wv bv →
    Sat (forF (fun d12 (a11 : D × D × D × D) => (oB (dNotIn d12 a11.2.1)).bind fun c14 => cond c14 ((F_Web_look_at (bookD rs rw_) (.dK (reachK rs)) a11.1 a11.2.1 a11.2.2.1 a11.2.2.2 d12).bind fun v15 => some (v15.2.1, v15.2.2.1, v15.2.2.2.1, v15.2.2.2.2)) (some (a11.1, a11.2.1, a11.2.2.1, a11.2.2.2))) (B.map .str) (lots, .dK kv, .dT wv, .dT bv))
      fun p => ∃ lots kv wv bv, p = (lots, .dK kv, .dT wv, .dT bv) ∧ WebJ rs (names rs) lots kv wv bv
  | [], A, lots, kv, wv, bv, e, J => ⟨_, rfl, lots, kv, wv, bv, rfl, by rw [e, List.append_nil]; exact J⟩
  | m :: B, A, lots, kv, wv, bv, e, J => by
    obtain ⟨l', k', w', b', e1, J'⟩ := web_turn (rw_ := rw_) T e J
    rw [List.map_cons]
    unfold forF
    simp only at e1 ⊢
    rw [e1]
    simp only [Option.bind_some]
    exact web_loop T B (A ++ [m]) l' k' w' b' (by rw [e, List.append_assoc]; rfl) J'
theorem F_web {rs : Tab} {rw_ : D} (T : TabOk rs) : Sat (F_Web (bookD rs rw_)) (WebOk rs (bookD rs rw_)) := by
  have hnl := names_rs_len T
  unfold F_Web
  rw [B_order]
  simp only [Option.bind_some, itemsOf, ord_items]
  have hd : dcP (fun d3 => (F_kinds_from (bookD rs rw_) (.lst [d3])).bind fun v4 => (keyOf d3).bind fun q5 => some (some (q5, v4))) ((names rs).map .str) = some (.dK (reachK rs)) := by
    have go : ∀ (L A : List Str), (A ++ L).Nodup → (∀ m ∈ L, m ∈ names rs) → dcL_ (fun d3 => (F_kinds_from (bookD rs rw_) (.lst [d3])).bind fun v4 => (keyOf d3).bind fun q5 => some (some (q5, v4))) (L.map .str) (A.map fun m => ((Sum.inr m : Key), D.lst ((reachL rs [m]).map .str))) = some ((A ++ L).map fun m => ((Sum.inr m : Key), D.lst ((reachL rs [m]).map .str))) := fun L => by
      induction L with
      | nil => intro A _ _; rw [List.append_nil]; rfl
      | cons m L ih =>
        intro A nd hs
        rw [List.map_cons]
        unfold dcL_
        have hm : m ∈ names rs := hs m List.mem_cons_self
        have ek := F_kinds (rw_ := rw_) (K := .lst [.str m]) (S := [m]) T (by simp) (by simpa using hm) rfl
        simp only [ek, Option.bind_some, keyOf]
        have hnm : m ∉ A := by
          rw [List.nodup_append] at nd
          exact fun z => nd.2.2 m z m List.mem_cons_self rfl
        have hk : (Sum.inr m : Key) ∉ (A.map fun m => ((Sum.inr m : Key), D.lst ((reachL rs [m]).map .str))).map (·.1) := by
          rw [List.map_map]
          intro z
          obtain ⟨q, hq, e⟩ := List.mem_map.mp z
          cases e
          exact hnm hq
        rw [gp_new hk]
        have := ih (A ++ [m]) (by rw [List.append_assoc]; exact nd) fun q hq => hs q (List.mem_cons_of_mem _ hq)
        rw [List.map_append, List.append_assoc] at this
        exact this
    unfold dcP
    have g0 := go (names rs) [] T.nd fun m h => h
    rw [List.map_nil] at g0
    rw [if_pos (by unfold SZ; rw [List.length_map]; omega), g0]
    rfl
  rw [hd]
  simp only [Option.bind_some]
  refine (web_loop (rw_ := rw_) T (names rs) [] (.lst []) [] [] [] rfl ⟨rfl, Nat.zero_le _, Nat.zero_le _, Nat.zero_le _, fun m _ => ⟨fun ⟨_, h, _⟩ => (nomatch h), fun _ => rfl⟩, fun m _ ⟨_, h, _⟩ => (nomatch h), fun m _ ⟨_, h, _⟩ => (nomatch h)⟩).bnd fun p hp => ?_
  obtain ⟨lots, kv, wv, bv, rfl, J⟩ := hp
  exact Sat.of ⟨lots, kv, wv, bv, rfl, J⟩
end Wk
namespace Wk
open PySem PV
theorem W_get {b r lots lo wo be : D} : oA (dFldC "Web" "book" (.ins "Web" [("book", b), ("reach", r), ("lots", lots), ("lot_of", lo), ("word_of", wo), ("below", be)])) = some b ∧ oA (dFldC "Web" "reach" (.ins "Web" [("book", b), ("reach", r), ("lots", lots), ("lot_of", lo), ("word_of", wo), ("below", be)])) = some r ∧
    oA (dFldC "Web" "lots" (.ins "Web" [("book", b), ("reach", r), ("lots", lots), ("lot_of", lo), ("word_of", wo), ("below", be)])) = some lots := by
  have n1 : decide (("book" : Str) = "reach") = false := by decide +kernel
  have n2 : decide (("book" : Str) = "lots") = false := by decide +kernel
  have n3 : decide (("reach" : Str) = "lots") = false := by decide +kernel
  exact ⟨fldL gvHit, fldL (gvMiss n1 gvHit), fldL (gvMiss n2 (gvMiss n3 gvHit))⟩
theorem W_meth {b r lots lo wo be : D} {m : Str} (h : (["book", "reach", "lots", "lot_of", "word_of", "below"] : List Str).all (fun k => decide (k = m) == false) = true) : oM "Web" m (.ins "Web" [("book", b), ("reach", r), ("lots", lots), ("lot_of", lo), ("word_of", wo), ("below", be)]) = some () := by
  simp only [List.all_cons, List.all_nil, Bool.and_true, Bool.and_eq_true, beq_iff_eq] at h
  obtain ⟨h1, h2, h3, h4, h5, h6⟩ := h
  exact methL (gvMiss h1 (gvMiss h2 (gvMiss h3 (gvMiss h4 (gvMiss h5 (gvMiss h6 gvNil))))))
noncomputable def lotT (rs : Tab) (m : Str) : D := .tup ((lotS rs m).map .str)
/-- the first kinds of the lots that some kinds come to -/
noncomputable def lotsF (rs : Tab) (S : List Str) : List Str := (firstsL rs (names rs)).filter fun m => decide (m ∈ reachL rs S)
theorem firsts_mem {rs : Tab} {ps : List Str} {m : Str} (h : m ∈ firstsL rs ps) : m ∈ ps ∧ mostL rs (lotS rs m) ≠ 0 ∧ (lotS rs m).head? = some m := by
  unfold firstsL at h
  obtain ⟨h1, h2⟩ := List.mem_filter.mp h
  rw [Bool.and_eq_true, decide_eq_true_eq, decide_eq_true_eq] at h2
  exact ⟨h1, h2⟩
theorem lot_first {rs : Tab} {m : Str} (h : (lotS rs m).head? = some m) : oA (dIx (lotT rs m) (.int 0)) = some (.str m) := by
  unfold lotT
  cases e : lotS rs m with
  | nil => rw [e] at h; cases h
  | cons a L =>
    rw [e] at h
    cases h
    rfl
theorem firsts_len {rs : Tab} (T : TabOk rs) : (firstsL rs (names rs)).length ≤ 12 := Nat.le_trans (by unfold firstsL; exact List.length_filter_le _ _) (names_rs_len T)
theorem F_lots_from {rs : Tab} {rw_ w K : D} {S : List Str} (T : TabOk rs) (W : WebOk rs (bookD rs rw_) w) (nd : S.Nodup) (hS : ∀ m ∈ S, m ∈ names rs) (hK : itemsOf K = some (S.map .str)) : F_Web_lots_from w K = some (.lst ((lotsF rs S).map (lotT rs))) := by
  obtain ⟨lots, kv, wv, bv, rfl, J⟩ := W
  have := J.lots
  subst this
  unfold F_Web_lots_from
  rw [W_get.1]
  simp only [Option.bind_some, F_kinds T nd hS hK, W_get.2.2, itemsOf]
  rw [lcP_filter (e := lotD rs) (g := lotT rs) (t := fun m => decide (m ∈ reachL rs S)) (by have := firsts_len T; omega) fun m hm => by
    obtain ⟨_, _, hh⟩ := firsts_mem hm
    have e1 : t2 (lotD rs m) = some (lotT rs m, .str (wordL rs (lotS rs m))) := rfl
    simp only [e1, Option.bind_some, lot_first hh, inB_L]
    by_cases h : m ∈ reachL rs S <;> simp [h]]
  rfl
theorem pln_strsA : ∀ {L : List Str} (n : Nat), (∀ m ∈ L, m ∈ ALLN) → plnL n (L.map D.str) = true
  | [], n, _ => by unfold plnL; rfl
  | m :: L, n, h => by
    rw [List.map_cons]
    unfold plnL pln
    rw [name_sok (h m List.mem_cons_self), pln_strsA n fun q hq => h q (List.mem_cons_of_mem _ hq)]
    rfl
theorem eqv_strs_iff : ∀ (A B : List Str), eqvL (A.map D.str) (B.map D.str) = decide (A = B)
  | [], [] => by unfold eqvL; rfl
  | [], _ :: _ => by simp [eqvL]
  | _ :: _, [] => by simp [eqvL]
  | a :: A, b :: B => by
    rw [List.map_cons, List.map_cons]
    unfold eqvL eqv
    rw [eqv_strs_iff A B]
    by_cases h1 : a = b <;> by_cases h2 : A = B <;> simp [h1, h2]
theorem ne_tups {A B : List Str} (hA : ∀ m ∈ A, m ∈ ALLN) (hB : ∀ m ∈ B, m ∈ ALLN) : oB (dNe (.tup (A.map .str)) (.tup (B.map .str))) = some (decide (A ≠ B)) := by
  have p : ∀ {L : List Str}, (∀ m ∈ L, m ∈ ALLN) → pln 60 (.tup (L.map .str)) = true := fun h => by unfold pln; exact pln_strsA 59 h
  have e : dEqB (.tup (A.map .str)) (.tup (B.map .str)) = some (decide (A = B)) := by
    unfold dEqB
    simp only [p hA, p hB, Bool.and_self, if_true]
    unfold eqv
    rw [eqv_strs_iff]
  unfold dNe
  rw [e]
  by_cases h : A = B <;> simp [oB, fb, h]
theorem lotS_names {rs : Tab} (T : TabOk rs) {m : Str} : ∀ q ∈ lotS rs m, q ∈ ALLN := fun q hq => T.good q (mem_lotS.mp hq).1
theorem lot_inj {rs : Tab} {m o : Str} (h1 : (lotS rs m).head? = some m) (h2 : (lotS rs o).head? = some o) : lotS rs m = lotS rs o ↔ m = o := by
  constructor
  · intro h; rw [h, h2] at h1; exact (Option.some.inj h1).symm
  · intro h; rw [h]
/-- those of them to which no other one comes -/
noncomputable def upperF (rs : Tab) (S : List Str) : List Str := (lotsF rs S).filter fun m => !(lotsF rs S).any fun o => decide (o ≠ m) && decide (m ∈ reachL rs [o])
theorem anyB (bs : List Bool) : oB (dAny (.lst (bs.map D.bl))) = some (bs.any id) := by
  have : boolsOf (bs.map D.bl) = some bs := by
    induction bs with
    | nil => rfl
    | cons b bs ih => show (boolsOf (bs.map D.bl)).map (b :: ·) = _; rw [ih]; rfl
  unfold dAny
  simp only [this]
  rfl
theorem lotsF_mem {rs : Tab} {S : List Str} {m : Str} (h : m ∈ lotsF rs S) : m ∈ names rs ∧ mostL rs (lotS rs m) ≠ 0 ∧ (lotS rs m).head? = some m ∧ m ∈ reachL rs S := by
  unfold lotsF at h
  obtain ⟨h1, h2⟩ := List.mem_filter.mp h
  obtain ⟨g1, g2, g3⟩ := firsts_mem h1
  exact ⟨g1, g2, g3, by simpa using h2⟩
theorem lotsF_len {rs : Tab} (T : TabOk rs) {S : List Str} : (lotsF rs S).length ≤ 12 := Nat.le_trans (by unfold lotsF; exact List.length_filter_le _ _) (firsts_len T)
theorem F_upper_from {rs : Tab} {rw_ w K : D} {S : List Str} (T : TabOk rs) (W : WebOk rs (bookD rs rw_) w) (nd : S.Nodup) (hS : ∀ m ∈ S, m ∈ names rs) (hK : itemsOf K = some (S.map .str)) : F_Web_upper_from w K = some (.lst ((upperF rs S).map (lotT rs))) := by
  have e0 := F_lots_from T W nd hS hK
  obtain ⟨lots, kv, wv, bv, rfl, J⟩ := W
  have hl := lotsF_len T (S := S)
  unfold F_Web_upper_from
  rw [W_meth (by decide +kernel)]
  simp only [Option.bind_some, e0, itemsOf, W_get.2.1]
  rw [lcP_filter (e := lotT rs) (g := lotT rs) (t := fun m => !(lotsF rs S).any fun o => decide (o ≠ m) && decide (m ∈ reachL rs [o])) (by omega) fun m hm => by
    obtain ⟨m1, m2, m3, m4⟩ := lotsF_mem hm
    have inner : lcP (fun d6 => (oB (dNe d6 (lotT rs m))).bind fun c7 => cond c7 ((oA (dIx (lotT rs m) (.int 0))).bind fun v8 => (oA (dIx d6 (.int 0))).bind fun v10 => (oA (dIx (.dK (reachK rs)) v10)).bind fun v11 => (oB (dIn v8 v11)).bind fun c12 => some (some (.bl c12))) (some none)) ((lotsF rs S).map (lotT rs)) = some (.lst (((lotsF rs S).filter fun o => decide (o ≠ m)).map fun o => D.bl (decide (m ∈ reachL rs [o])))) :=
      lcP_filter (g := fun o => D.bl (decide (m ∈ reachL rs [o]))) (t := fun o => decide (o ≠ m)) (by omega) fun o ho => by
        obtain ⟨o1, o2, o3, o4⟩ := lotsF_mem ho
        have en := ne_tups (lotS_names T (m := o)) (lotS_names T (m := m))
        simp only [show lotT rs o = D.tup ((lotS rs o).map .str) from rfl] at en ⊢
        simp only [show lotT rs m = D.tup ((lotS rs m).map .str) from rfl, en, Option.bind_some]
        have h1 := lot_first m3
        have h2 := lot_first o3
        unfold lotT at h1 h2
        simp only [h1, h2, Option.bind_some, ix_reach o1, inB_L]
        have hi := lot_inj o3 m3
        by_cases h : o = m
        · have := hi.mpr h; simp [h]
        · have : ¬ lotS rs o = lotS rs m := fun z => h (hi.mp z); simp [h, this]
    rw [inner]
    simp only [Option.bind_some]
    have ea := anyB (((lotsF rs S).filter fun o => decide (o ≠ m)).map fun o => decide (m ∈ reachL rs [o]))
    rw [List.map_map] at ea
    rw [show ((lotsF rs S).filter fun o => decide (o ≠ m)).map (fun o => D.bl (decide (m ∈ reachL rs [o]))) = ((lotsF rs S).filter fun o => decide (o ≠ m)).map (D.bl ∘ fun o => decide (m ∈ reachL rs [o])) from rfl, ea]
    simp only [Option.bind_some, dTru]
    have eb : (((lotsF rs S).filter fun o => decide (o ≠ m)).map fun o => decide (m ∈ reachL rs [o])).any id = (lotsF rs S).any fun o => decide (o ≠ m) && decide (m ∈ reachL rs [o]) := by
      rw [List.any_map, List.any_filter]
      rfl
    rw [eb]
    cases (lotsF rs S).any fun o => decide (o ≠ m) && decide (m ∈ reachL rs [o]) <;> rfl]
  rfl
theorem F_comes_ok {rs : Tab} {rw_ : D} {P : Int → Prop} {kvs : List (Key × D)} (T : TabOk rs) (hP : ∀ i, P i → 1 ≤ i) (h : DictOk (names rs) P kvs) : F_comes (bookD rs rw_) (.dK kvs) = some (.lst ((lotsF rs (keysS kvs)).map (lotT rs))) := by
  obtain ⟨k1, k2, k3, k4⟩ := keysS_map h
  obtain ⟨w, e, W⟩ := F_web (rw_ := rw_) T
  have e2 := F_lots_from (K := .dK kvs) T W k2 k3 (by simp only [itemsOf, k1])
  unfold F_comes
  rw [F_look T hP h]
  simp only [Option.bind_some, e]
  obtain ⟨lots, kv, wv, bv, rfl, J⟩ := W
  rw [W_meth (by decide +kernel)]
  simp only [Option.bind_some, e2]
theorem F_upper_ok {rs : Tab} {rw_ : D} {P : Int → Prop} {kvs : List (Key × D)} (T : TabOk rs) (hP : ∀ i, P i → 1 ≤ i) (h : DictOk (names rs) P kvs) : F_upper (bookD rs rw_) (.dK kvs) = some (.lst ((upperF rs (keysS kvs)).map (lotT rs))) := by
  obtain ⟨k1, k2, k3, k4⟩ := keysS_map h
  obtain ⟨w, e, W⟩ := F_web (rw_ := rw_) T
  have e2 := F_upper_from (K := .dK kvs) T W k2 k3 (by simp only [itemsOf, k1])
  unfold F_upper
  rw [F_look T hP h]
  simp only [Option.bind_some, e]
  obtain ⟨lots, kv, wv, bv, rfl, J⟩ := W
  rw [W_meth (by decide +kernel)]
  simp only [Option.bind_some, e2]
theorem F_lots_ok {rs : Tab} {rw_ : D} (T : TabOk rs) : F_lots (bookD rs rw_) = some (.lst ((firstsL rs (names rs)).map (lotD rs))) := by
  obtain ⟨w, e, W⟩ := F_web (rw_ := rw_) T
  obtain ⟨lots, kv, wv, bv, rfl, J⟩ := W
  have := J.lots
  subst this
  unfold F_lots
  rw [e]
  simp only [Option.bind_some, W_get.2.2]
end Wk
namespace Wk
open PySem PV
/-! ### heaps as lists of names and numbers -/
abbrev HP := List (Str × Int)
def hv (ps : HP) (q : Str) : Int := (gv ps q).getD 0
def ksP (ps : HP) : List Str := ps.map (·.1)
theorem gv_kvI {q : Str} : ∀ {ps : HP}, gv (kvI ps) (Sum.inr q) = (gv ps q).map D.int
  | [] => rfl
  | p :: ps => by
    show gv (((Sum.inr p.1 : Key), D.int p.2) :: kvI ps) (Sum.inr q) = _
    rw [gv_cons, gv_cons, gv_kvI (ps := ps)]
    by_cases h : p.1 = q
    · rw [if_pos h, if_pos (by rw [h])]; rfl
    · rw [if_neg h, if_neg fun z => h (by cases z; rfl)]
theorem any_kvI {q : Str} : ∀ {ps : HP}, ((kvI ps).any fun kv => decide (kv.1 = (Sum.inr q : Key))) = ps.any fun kv => decide (kv.1 = q)
  | [] => rfl
  | p :: ps => by
    show (decide ((Sum.inr p.1 : Key) = Sum.inr q) || (kvI ps).any _) = _
    rw [any_kvI (ps := ps), List.any_cons]
    congr 1
    exact decide_eq_decide.mpr ⟨fun h => by cases h; rfl, fun h => by rw [h]⟩
theorem gp_kvI {q : Str} {i : Int} {ps : HP} : gp (kvI ps) (Sum.inr q) (.int i) = kvI (gp ps q i) := by
  unfold gp
  rw [any_kvI]
  split
  · unfold kvI
    rw [List.map_map, List.map_map]
    apply List.map_congr_left
    intro p _
    show (if (Sum.inr p.1 : Key) = Sum.inr q then _ else _) = _
    by_cases h : p.1 = q
    · rw [if_pos (by rw [h])]; simp only [Function.comp, if_pos h]
    · rw [if_neg fun z => h (by cases z; rfl)]; simp only [Function.comp, if_neg h]
  · unfold kvI
    rw [List.map_append]
    rfl
theorem kvI_len {ps : HP} : (kvI ps).length = ps.length := by unfold kvI; rw [List.length_map]
theorem ksP_kvI {ps : HP} : keysS (kvI ps) = ksP ps := kvI_keys ps
theorem items_kvI {ps : HP} : itemsOf (.dK (kvI ps)) = some ((ksP ps).map D.str) := by
  show some ((kvI ps).map fun p => kD p.1) = _
  unfold kvI ksP
  rw [List.map_map, List.map_map]
  rfl
theorem get2_kvI {ps : HP} {q : Str} : oA (dGet2 (.dK (kvI ps)) (.str q) (.int 0)) = some (.int (hv ps q)) := by
  unfold dGet2 keyOf
  simp only [Option.map_some, gv_kvI]
  unfold hv
  cases gv ps q <;> rfl
theorem ix_kvI {ps : HP} {q : Str} (h : q ∈ ksP ps) : oA (dIx (.dK (kvI ps)) (.str q)) = some (.int (hv ps q)) := by
  have hs : (gv ps q).isSome = true := gv_some h
  unfold dIx keyOf
  simp only [gv_kvI]
  unfold hv
  cases e : gv ps q with
  | none => rw [e] at hs; cases hs
  | some v => rfl
theorem hv_gp {ps : HP} {q r : Str} {i : Int} : hv (gp ps q i) r = if q = r then i else hv ps r := by
  unfold hv
  rw [gv_gp]
  by_cases h : q = r
  · rw [if_pos h, if_pos h]; rfl
  · rw [if_neg h, if_neg h]
theorem hv_not {ps : HP} {q : Str} (h : q ∉ ksP ps) : hv ps q = 0 := by
  unfold hv
  rw [gv_none' h]
  rfl
theorem hv_mem {ps : HP} (nd : (ksP ps).Nodup) {p : Str × Int} (h : p ∈ ps) : hv ps p.1 = p.2 := by
  induction ps with
  | nil => cases h
  | cons a ps ih =>
    unfold ksP at nd
    rw [List.map_cons, List.nodup_cons] at nd
    unfold hv
    rw [gv_cons]
    rcases List.mem_cons.mp h with rfl | h
    · rw [if_pos rfl]; rfl
    · have : ¬ a.1 = p.1 := fun z => nd.1 (by rw [z]; exact List.mem_map.mpr ⟨p, h, rfl⟩)
      rw [if_neg this]
      exact ih nd.2 h
theorem DictOk.kvI {S : List Str} {P : Int → Prop} : ∀ {kvs : List (Key × D)}, DictOk S P kvs → ∃ ps : HP, kvs = Wk.kvI ps ∧ (ksP ps).Nodup ∧ ∀ p ∈ ps, p.1 ∈ S ∧ P p.2
  | [], _ => ⟨[], rfl, List.nodup_nil, by simp⟩
  | p :: kvs, h => by
    obtain ⟨m, i, rfl, hm, hi⟩ := h.2 p List.mem_cons_self
    have nd := h.1
    rw [List.map_cons, List.nodup_cons] at nd
    obtain ⟨ps, rfl, h1, h2⟩ := DictOk.kvI (kvs := kvs) ⟨nd.2, fun q hq => h.2 q (List.mem_cons_of_mem _ hq)⟩
    refine ⟨(m, i) :: ps, rfl, ?_, fun q hq => ?_⟩
    · unfold ksP at h1 ⊢
      rw [List.map_cons, List.nodup_cons]
      refine ⟨fun z => nd.1 ?_, h1⟩
      obtain ⟨q, hq, e⟩ := List.mem_map.mp z
      exact List.mem_map.mpr ⟨(Sum.inr q.1, .int q.2), List.mem_map.mpr ⟨q, hq, rfl⟩, by show (Sum.inr q.1 : Key) = Sum.inr m; rw [e]⟩
    · rcases List.mem_cons.mp hq with rfl | hq
      · exact ⟨hm, hi⟩
      · exact h2 q hq
/-- a law put to a heap so many times, name by name -/
def putP (ps : HP) (k : Int) : HP → HP
  | [] => ps
  | l :: ls => putP (gp ps l.1 (hv ps l.1 + k * l.2)) k ls
theorem putP_ks {k : Int} : ∀ {ls ps : HP}, (ksP ps).Nodup → (ksP (putP ps k ls)).Nodup ∧ (putP ps k ls).length ≤ ps.length + ls.length ∧ ∀ q, q ∈ ksP (putP ps k ls) → q ∈ ksP ps ∨ q ∈ ksP ls
  | [], ps, h => ⟨h, Nat.le_refl _, fun q hq => .inl hq⟩
  | l :: ls, ps, h => by
    obtain ⟨h1, h2, h3⟩ := putP_ks (k := k) (ls := ls) (ps := gp ps l.1 (hv ps l.1 + k * l.2)) (gp_nodup h)
    have := gp_len ps l.1 (hv ps l.1 + k * l.2)
    refine ⟨h1, by show (putP (gp ps l.1 _) k ls).length ≤ _; rw [List.length_cons]; omega, fun q hq => ?_⟩
    rcases h3 q hq with h | h
    · have hk : ksP (gp ps l.1 (hv ps l.1 + k * l.2)) = _ := gp_keys ps l.1 _
      rw [hk] at h
      split at h
      · exact .inl h
      · rcases List.mem_append.mp h with h | h
        · exact .inl h
        · rw [List.mem_singleton.mp h]; exact .inr List.mem_cons_self
    · exact .inr (List.mem_cons_of_mem _ h)
theorem putP_hv {k : Int} : ∀ {ls ps : HP}, (ksP ls).Nodup → ∀ q, hv (putP ps k ls) q = hv ps q + k * hv ls q
  | [], ps, _, q => by show hv ps q = _; rw [show hv ([] : HP) q = 0 from rfl, Int.mul_zero, Int.add_zero]
  | l :: ls, ps, nd, q => by
    have nd' := nd
    unfold ksP at nd'
    rw [List.map_cons, List.nodup_cons] at nd'
    show hv (putP (gp ps l.1 (hv ps l.1 + k * l.2)) k ls) q = _
    rw [putP_hv nd'.2, hv_gp]
    have hc : hv (l :: ls) q = if l.1 = q then l.2 else hv ls q := by
      unfold hv
      rw [gv_cons]
      by_cases h : l.1 = q
      · rw [if_pos h, if_pos h]; rfl
      · rw [if_neg h, if_neg h]
    rw [hc]
    by_cases h : l.1 = q
    · rw [if_pos h, if_pos h, hv_not (ps := ls) (by rw [← h]; exact nd'.1), Int.mul_zero, Int.add_zero, h]
    · rw [if_neg h, if_neg h]
theorem mul_some {a b : Int} (h : -(2 ^ 64) < a ∧ a < 2 ^ 64) : oA (dMul (.int a) (.int b)) = some (.int (a * b)) := by
  show oA (if lg a + lg b < 1000000 ∨ (-(2 ^ 64) < a ∧ a < 2 ^ 64) ∨ (-(2 ^ 64) < b ∧ b < 2 ^ 64) then some (fi (a * b)) else none) = _
  rw [if_pos (.inr (.inl h))]
  rfl
end Wk
namespace Wk
open PySem PV
/-! ### what splits and fuses leave as it is -/
structure SameSort (rs : Tab) (S S' : List Str) : Prop where
  lots : ∀ m, mostL rs (lotS rs m) ≠ 0 → (Reach rs S m ↔ Reach rs S' m)
  bare : ∀ m, gv rs m = some none → (Reach rs S m ↔ Reach rs S' m)
  emp : S = [] ↔ S' = []
theorem SameSort.refl {rs : Tab} {S : List Str} : SameSort rs S S := ⟨fun _ _ => Iff.rfl, fun _ _ => Iff.rfl, Iff.rfl⟩
theorem SameSort.trans {rs : Tab} {A B C : List Str} (h : SameSort rs A B) (k : SameSort rs B C) : SameSort rs A C :=
  ⟨fun m hm => (h.lots m hm).trans (k.lots m hm), fun m hm => (h.bare m hm).trans (k.bare m hm), h.emp.trans k.emp⟩
theorem SameSort.symm {rs : Tab} {A B : List Str} (h : SameSort rs A B) : SameSort rs B A := ⟨fun m hm => (h.lots m hm).symm, fun m hm => (h.bare m hm).symm, h.emp.symm⟩
/-- a heap of a book -/
structure HeapOk (rs : Tab) (ps : HP) : Prop where
  nd : (ksP ps).Nodup
  sub : ∀ q ∈ ksP ps, q ∈ names rs
  pos : ∀ q ∈ ksP ps, 1 ≤ hv ps q
theorem HeapOk.len {rs : Tab} (T : TabOk rs) {ps : HP} (h : HeapOk rs ps) : ps.length ≤ 12 := by
  have := Nat.le_trans (nodup_len h.nd h.sub) (names_rs_len T)
  unfold ksP at this
  rw [List.length_map] at this
  exact this
theorem HeapOk.dict {rs : Tab} {ps : HP} (h : HeapOk rs ps) : DictOk (names rs) (1 ≤ ·) (kvI ps) := kvI_ok h.nd fun p hp => ⟨h.sub _ (List.mem_map.mpr ⟨p, hp, rfl⟩), by
  have := h.pos p.1 (List.mem_map.mpr ⟨p, hp, rfl⟩)
  rw [hv_mem h.nd hp] at this
  exact this⟩
/-- a kind's law as a list -/
theorem law_of {rs : Tab} (T : TabOk rs) {m : Str} {kvs : List (Key × D)} (e : gv rs m = some (some kvs)) : ∃ ls : HP, kvs = kvI ls ∧ (ksP ls).Nodup ∧ (∀ q, q ∈ ksP ls ↔ q ∈ parts rs m) ∧ (∀ q ∈ ksP ls, q ∈ names rs) ∧ (∀ q ∈ ksP ls, 1 ≤ hv ls q ∧ hv ls q ≤ 99) ∧ ls.length ≤ 12 := by
  obtain ⟨ls, rfl, h1, h2⟩ := DictOk.kvI (tab_row T e kvs rfl).2
  have hs : ∀ q ∈ ksP ls, q ∈ names rs := fun q hq => by
    obtain ⟨p, hp, rfl⟩ := List.mem_map.mp hq
    exact (h2 p hp).1
  refine ⟨ls, rfl, h1, fun q => ?_, hs, fun q hq => ?_, ?_⟩
  · unfold parts
    rw [e]
    show _ ↔ q ∈ keysS (kvI ls)
    rw [ksP_kvI]
  · obtain ⟨p, hp, rfl⟩ := List.mem_map.mp hq
    rw [hv_mem h1 hp]
    exact (h2 p hp).2
  · have := Nat.le_trans (nodup_len h1 hs) (names_rs_len T)
    unfold ksP at this
    rw [List.length_map] at this
    exact this
theorem disp_one (m : Str) (k : Int) : oW (dDisp [.str m, .int k]) = some (.dK (kvI [(m, k)])) := rfl
end Wk
namespace Wk
open PySem PV
theorem row0 (r : Str × Option (List (Key × D))) : oA (dIx (rowD r) (.int 0)) = some (.str r.1) := rfl
/-! ### == of the same data -/
mutual
theorem eqv_refl : ∀ (n : Nat) (d : D), pln n d = true → eqv d d = true
  | _, .non, _ => by unfold eqv; rfl
  | _, .bl b, _ => by unfold eqv; simp
  | _, .int i, _ => by unfold eqv; simp
  | _, .str x, _ => by unfold eqv; simp
  | 0, .lst xs, h => by unfold pln at h; cases h
  | 0, .tup xs, h => by unfold pln at h; cases h
  | n + 1, .lst xs, h => by unfold pln at h; unfold eqv; exact eqvL_refl n xs h
  | n + 1, .tup xs, h => by unfold pln at h; unfold eqv; exact eqvL_refl n xs h
  | n, .dK _, h => by cases n <;> (unfold pln at h; cases h)
  | n, .dT _, h => by cases n <;> (unfold pln at h; cases h)
  | n, .ins _ _, h => by cases n <;> (unfold pln at h; cases h)
  | n, .scr _, h => by cases n <;> (unfold pln at h; cases h)
theorem eqvL_refl : ∀ (n : Nat) (ds : List D), plnL n ds = true → eqvL ds ds = true
  | _, [], _ => by unfold eqvL; rfl
  | n, d :: ds, h => by
    unfold plnL at h
    rw [Bool.and_eq_true] at h
    unfold eqvL
    rw [eqv_refl n d h.1, eqvL_refl n ds h.2]
    rfl
end
theorem ne_same {d : D} (h : pln 60 d = true) : oB (dNe d d) = some false := by
  have e : dEqB d d = some true := by
    have r := eqv_refl 60 d h
    cases d with
    | dK kvs => unfold pln at h; cases h
    | lst xs =>
      unfold dEqB
      simp only [if_true, h, Bool.and_self, r]
    | _ => unfold dEqB; simp only [h, Bool.and_self, if_true, r]
  unfold dNe
  rw [e]
  rfl
end Wk
namespace Wk
open PySem PV
/-! ### a book's doors, laws in the book's order -/
theorem B_meth {rs : Tab} {rw_ : D} {m : Str} (h : (["order", "laws", "rows"] : List Str).all (fun k => decide (k = m) == false) = true) : oM "Book" m (bookD rs rw_) = some () := by
  simp only [List.all_cons, List.all_nil, Bool.and_true, Bool.and_eq_true, beq_iff_eq] at h
  obtain ⟨h1, h2, h3⟩ := h
  exact methL (gvMiss h1 (gvMiss h2 (gvMiss h3 gvNil)))
theorem F_has_ok {rs : Tab} {rw_ : D} {m : Str} (T : TabOk rs) (h : m ∈ names rs) : F_Book_has (bookD rs rw_) (.str m) = some (.bl true) := by
  unfold F_Book_has
  rw [has_ok T h]
theorem lawP_ks {rs : Tab} (T : TabOk rs) {m q : Str} : q ∈ ksP (lawP rs m) ↔ q ∈ parts rs m := by
  constructor
  · intro h
    obtain ⟨p, hp, rfl⟩ := List.mem_map.mp h
    exact (lawP_mem T (q := p.1) (i := p.2) hp).2.2
  · intro h
    obtain ⟨i, hi⟩ := parts_lawP T h
    exact List.mem_map.mpr ⟨_, hi, rfl⟩
theorem fm_nd {g : Str → Option (Str × Int)} (hg : ∀ q p, g q = some p → p.1 = q) : ∀ {L : List Str}, L.Nodup → (ksP (L.filterMap g)).Nodup ∧ ∀ x ∈ ksP (L.filterMap g), x ∈ L
  | [], _ => ⟨List.nodup_nil, fun x hx => hx⟩
  | q :: L, nd => by
    rw [List.nodup_cons] at nd
    obtain ⟨h1, h2⟩ := fm_nd hg nd.2
    cases e : g q with
    | none =>
      rw [List.filterMap_cons_none e]
      exact ⟨h1, fun x hx => List.mem_cons_of_mem _ (h2 x hx)⟩
    | some p =>
      rw [List.filterMap_cons_some e]
      have hp := hg q p e
      refine ⟨?_, fun x hx => ?_⟩
      · unfold ksP at h1 h2 ⊢
        rw [List.map_cons, List.nodup_cons, hp]
        exact ⟨fun z => nd.1 (h2 q z), h1⟩
      · unfold ksP at hx
        rw [List.map_cons, hp] at hx
        rcases List.mem_cons.mp hx with rfl | hx
        · exact List.mem_cons_self
        · exact List.mem_cons_of_mem _ (h2 x hx)
theorem lawP_nd {rs : Tab} (T : TabOk rs) (m : Str) : (ksP (lawP rs m)).Nodup := by
  unfold lawP
  split
  · refine (fm_nd (fun q p h => ?_) T.nd).1
    split at h
    · cases h; rfl
    · cases h
  · exact List.nodup_nil
/-! ### counts -/
theorem mul_some2 {a b : Int} (h : -(2 ^ 64) < b ∧ b < 2 ^ 64) : oA (dMul (.int a) (.int b)) = some (.int (a * b)) := by
  show oA (if lg a + lg b < 1000000 ∨ (-(2 ^ 64) < a ∧ a < 2 ^ 64) ∨ (-(2 ^ 64) < b ∧ b < 2 ^ 64) then some (fi (a * b)) else none) = _
  rw [if_pos (.inr (.inr h))]
  rfl
structure CtOk (rs : Tab) (ps : HP) : Prop where
  nd : (ksP ps).Nodup
  sub : ∀ q ∈ ksP ps, q ∈ names rs
theorem CtOk.len {rs : Tab} (T : TabOk rs) {ps : HP} (h : CtOk rs ps) : ps.length ≤ 12 := by
  have := Nat.le_trans (nodup_len h.nd h.sub) (names_rs_len T)
  unfold ksP at this
  rw [List.length_map] at this
  exact this
theorem HeapOk.ct {rs : Tab} {ps : HP} (h : HeapOk rs ps) : CtOk rs ps := ⟨h.nd, h.sub⟩
theorem oItems_kvI {ls : HP} : oItems (.dK (kvI ls)) = some (ls.map fun p => D.tup [.str p.1, .int p.2]) := by
  show some ((kvI ls).map _) = _
  unfold kvI
  rw [List.map_map]
  rfl
theorem put_loop {k : Int} : ∀ (L acc : HP), (∀ l ∈ L, -(2 ^ 64) < l.2 ∧ l.2 < 2 ^ 64) → acc.length + L.length ≤ 900 → forF (fun d3 (a2 : D) => (t2 d3).bind fun k5 =>
 (oDict a2).bind fun u6 =>
 (oA (dGet2 a2 k5.1 (.int 0))).bind fun v7 =>
 (oA (dMul (.int k) k5.2)).bind fun v8 =>
 (oA (dAdd v7 v8)).bind fun v9 =>
 (oC2 (cPut a2 v9 k5.1)).bind fun p10 =>
 some p10.1) (L.map fun p => D.tup [.str p.1, .int p.2]) (.dK (kvI acc)) = some (.dK (kvI (putP acc k L)))
  | [], acc, _, _ => rfl
  | l :: L, acc, hs, hl => by
    rw [List.length_cons] at hl
    rw [List.map_cons]
    unfold forF
    have e1 : t2 (D.tup [.str l.1, .int l.2]) = some (.str l.1, .int l.2) := rfl
    simp only [e1, show oDict (.dK (kvI acc)) = some () from rfl, Option.bind_some, get2_kvI, mul_some2 (hs l List.mem_cons_self)]
    rw [show oA (dAdd (.int (hv acc l.1)) (.int (k * l.2))) = some (.int (hv acc l.1 + k * l.2)) from rfl]
    simp only [Option.bind_some]
    rw [put_some (by rw [kvI_len]; omega)]
    simp only [Option.bind_some, gp_kvI]
    have := gp_len acc l.1 (hv acc l.1 + k * l.2)
    exact put_loop L _ (fun x hx => hs x (List.mem_cons_of_mem _ hx)) (by omega)
theorem F_put_ok {ps ls : HP} {k : Int} (hs : ∀ l ∈ ls, -(2 ^ 64) < l.2 ∧ l.2 < 2 ^ 64) (hl : ps.length + ls.length ≤ 900) : F_put (.dK (kvI ps)) (.dK (kvI ls)) (.int k) = some (.non, .dK (kvI (putP ps k ls))) := by
  unfold F_put
  rw [oItems_kvI]
  simp only [Option.bind_some]
  rw [put_loop ls ps hs hl]
  rfl
theorem gp_sup {q m : Str} {i : Int} {ps : HP} (h : q ∈ ksP ps ∨ q = m) : q ∈ ksP (gp ps m i) := by
  have hk : ksP (gp ps m i) = _ := gp_keys ps m i
  rw [hk]
  split
  · rename_i hm
    rcases h with h | rfl
    · exact h
    · exact hm
  · rcases h with h | rfl
    · exact List.mem_append_left _ h
    · exact List.mem_append_right _ (List.mem_singleton.mpr rfl)
theorem putP_sup {k : Int} {q : Str} : ∀ {ls ps : HP}, q ∈ ksP ps ∨ q ∈ ksP ls → q ∈ ksP (putP ps k ls)
  | [], ps, h => h.elim id fun z => nomatch z
  | l :: ls, ps, h => by
    refine putP_sup (ls := ls) (ps := gp ps l.1 (hv ps l.1 + k * l.2)) ?_
    rcases h with h | h
    · exact .inl (gp_sup (.inl h))
    · rcases List.mem_cons.mp (show q ∈ l.1 :: ksP ls from h) with h | h
      · exact .inl (gp_sup (.inr h))
      · exact .inr h
/-! ### splits and fuses -/
structure Dd where
  fuse : Bool
  k : Int
  m : Str
def wordB (b : Bool) : Str := if b then "fuse" else "split"
def Dd.d (x : Dd) : D := .tup [.str (wordB x.fuse), .int x.k, .str x.m]
def away (rs : Tab) (x : Dd) : HP := if x.fuse then lawP rs x.m else [(x.m, 1)]
def come (rs : Tab) (x : Dd) : HP := if x.fuse then [(x.m, 1)] else lawP rs x.m
def canB (rs : Tab) (ps : HP) (x : Dd) : Bool := !((away rs x).any fun p => decide (hv ps p.1 < x.k * p.2))
def doP (rs : Tab) (ps : HP) (x : Dd) : HP := putP (putP ps (-x.k) (away rs x)) x.k (come rs x)
structure DdOk (rs : Tab) (x : Dd) : Prop where
  k1 : 1 ≤ x.k
  nm : x.m ∈ names rs
  law : ∃ kvs, gv rs x.m = some (some kvs)
theorem lawP_sm {rs : Tab} (T : TabOk rs) (m : Str) : ∀ l ∈ lawP rs m, -(2 ^ 64) < l.2 ∧ l.2 < 2 ^ 64 := fun l hl => by
  obtain ⟨h1, h2, _⟩ := lawP_mem T (q := l.1) (i := l.2) hl
  omega
theorem one_sm (m : Str) : ∀ l ∈ ([(m, 1)] : HP), -(2 ^ 64) < l.2 ∧ l.2 < 2 ^ 64 := fun l hl => by
  rw [List.mem_singleton.mp hl]
  show -(2 ^ 64) < (1 : Int) ∧ (1 : Int) < 2 ^ 64
  decide
theorem away_sm {rs : Tab} (T : TabOk rs) (x : Dd) : (∀ l ∈ away rs x, -(2 ^ 64) < l.2 ∧ l.2 < 2 ^ 64) ∧ (away rs x).length ≤ 12 := by
  unfold away
  split
  · exact ⟨lawP_sm T x.m, lawP_len T x.m⟩
  · exact ⟨one_sm x.m, by simp⟩
theorem come_sm {rs : Tab} (T : TabOk rs) (x : Dd) : (∀ l ∈ come rs x, -(2 ^ 64) < l.2 ∧ l.2 < 2 ^ 64) ∧ (come rs x).length ≤ 12 := by
  unfold come
  split
  · exact ⟨one_sm x.m, by simp⟩
  · exact ⟨lawP_sm T x.m, lawP_len T x.m⟩
theorem any_bools {α : Type} (f : α → Bool) (L : List α) : oB (dAny (.lst (L.map fun p => D.bl (f p)))) = some (L.any f) := by
  have e : boolsOf (L.map fun p => D.bl (f p)) = some (L.map f) := by
    induction L with
    | nil => rfl
    | cons a L ih =>
      show (boolsOf (L.map fun p => D.bl (f p))).map (f a :: ·) = _
      rw [ih]
      rfl
  show oB ((boolsOf _).map _) = _
  rw [e]
  show some ((L.map f).any id) = _
  rw [List.any_map]
  rfl
theorem B_lawP {rs : Tab} (T : TabOk rs) {m : Str} {kvs : List (Key × D)} (e : gv rs m = some (some kvs)) : oA (dIx (.dK (lawsK rs)) (.str m)) = some (.dK (kvI (lawP rs m))) := by
  obtain ⟨o, e1, e2⟩ := B_law (rs := rs) (gv_mem e)
  rw [e] at e1
  cases e1
  rw [e2]
  show some (D.dK (sortK (names rs) kvs)) = _
  rw [law_sorted T e]
  rfl
theorem word_fuse (b : Bool) : oB (dEq (.str (wordB b)) (.str "fuse")) = some b := by cases b <;> decide +kernel
theorem F_exchange_ok {rs : Tab} {rw_ : D} (T : TabOk rs) {ps : HP} (C : CtOk rs ps) {x : Dd} (X : DdOk rs x) :
    F_exchange (bookD rs rw_) (.dK (kvI ps)) x.d = some (if canB rs ps x = true then (.bl true, .dK (kvI (doP rs ps x))) else (.bl false, .dK (kvI ps))) := by
  obtain ⟨kvs, eg⟩ := X.law
  have lp := C.len T
  obtain ⟨a1, a2⟩ := away_sm T x
  obtain ⟨c1, c2⟩ := come_sm T x
  unfold F_exchange
  have e1 : t3 x.d = some (.str (wordB x.fuse), .int x.k, .str x.m) := rfl
  simp only [e1, Option.bind_some, disp_one, B_laws, B_lawP T eg, word_fuse]
  have e2 : (cond x.fuse (some (D.dK (kvI (lawP rs x.m)), D.dK (kvI [(x.m, 1)]))) (some (D.dK (kvI [(x.m, 1)]), D.dK (kvI (lawP rs x.m))))) = some (D.dK (kvI (away rs x)), D.dK (kvI (come rs x))) := by
    unfold away come
    cases x.fuse <;> rfl
  rw [e2]
  simp only [Option.bind_some, oItems_kvI]
  rw [lcP_map (g := fun p : Str × Int => D.bl (decide (hv ps p.1 < x.k * p.2))) (by omega) fun p hp => by
    have e3 : t2 (D.tup [.str p.1, .int p.2]) = some (.str p.1, .int p.2) := rfl
    simp only [e3, show oDict (.dK (kvI ps)) = some () from rfl, Option.bind_some, get2_kvI, mul_some2 (a1 p hp)]
    rfl]
  simp only [Option.bind_some, any_bools, show ∀ b, dTru (.bl b) = some b from fun _ => rfl]
  unfold canB
  cases (away rs x).any fun p => decide (hv ps p.1 < x.k * p.2) with
  | true => rfl
  | false =>
    simp only [cond_false, show oA (dNeg (.int x.k)) = some (.int (-x.k)) from rfl, Option.bind_some]
    obtain ⟨g1, g2, g3⟩ := putP_ks (k := -x.k) (ls := away rs x) (ps := ps) C.nd
    rw [F_put_ok a1 (by omega)]
    simp only [Option.bind_some]
    rw [F_put_ok c1 (by omega)]
    rfl
theorem away_nd {rs : Tab} (T : TabOk rs) (x : Dd) : (ksP (away rs x)).Nodup ∧ (ksP (come rs x)).Nodup := by
  unfold away come
  cases x.fuse
  · exact ⟨by simp [ksP], lawP_nd T x.m⟩
  · exact ⟨lawP_nd T x.m, by simp [ksP]⟩
theorem lawP_sub {rs : Tab} (T : TabOk rs) (m : Str) : ∀ q ∈ ksP (lawP rs m), q ∈ names rs := fun q hq => parts_sub T ((lawP_ks T).mp hq)
theorem away_sub {rs : Tab} (T : TabOk rs) {x : Dd} (h : x.m ∈ names rs) : (∀ q ∈ ksP (away rs x), q ∈ names rs) ∧ ∀ q ∈ ksP (come rs x), q ∈ names rs := by
  have h1 : ∀ q ∈ ksP ([(x.m, 1)] : HP), q ∈ names rs := fun q hq => by rw [List.mem_singleton.mp hq]; exact h
  unfold away come
  cases x.fuse
  · exact ⟨h1, lawP_sub T x.m⟩
  · exact ⟨lawP_sub T x.m, h1⟩
/-- what a deed changes, things of each kind -/
def eff (rs : Tab) (x : Dd) (q : Str) : Int := x.k * hv (come rs x) q - x.k * hv (away rs x) q
theorem doP_ok {rs : Tab} (T : TabOk rs) {ps : HP} (C : CtOk rs ps) {x : Dd} (h : x.m ∈ names rs) : CtOk rs (doP rs ps x) ∧ (∀ q, hv (doP rs ps x) q = hv ps q + eff rs x q) ∧ ∀ q ∈ ksP ps, q ∈ ksP (doP rs ps x) := by
  obtain ⟨n1, n2⟩ := away_nd T x
  obtain ⟨s1, s2⟩ := away_sub T h
  obtain ⟨g1, g2, g3⟩ := putP_ks (k := -x.k) (ls := away rs x) (ps := ps) C.nd
  obtain ⟨k1, k2, k3⟩ := putP_ks (k := x.k) (ls := come rs x) (ps := putP ps (-x.k) (away rs x)) g1
  refine ⟨⟨k1, fun q hq => ?_⟩, fun q => ?_, fun q hq => putP_sup (.inl (putP_sup (.inl hq)))⟩
  · rcases k3 q hq with h | h
    · rcases g3 q h with h | h
      · exact C.sub q h
      · exact s1 q h
    · exact s2 q h
  · unfold doP eff
    rw [putP_hv n2, putP_hv n1, Int.neg_mul]
    omega
/-! ### what is no deed -/
theorem in_ctp {w : Str} {W : List Str} : oB (dNotIn (.str w) (.ctp W)) = some (decide (w ∉ W)) := by
  have e : dInB (.str w) (.ctp W) = some (decide (w ∈ W)) := by
    show (if flat (.str w) then some ((W.map D.str).any fun y => eqv y (.str w)) else none) = _
    rw [if_pos (show flat (D.str w) = true from rfl), List.any_map]
    congr 1
    induction W with
    | nil => rfl
    | cons v W ih =>
      rw [List.any_cons, ih]
      show (eqv (.str v) (.str w) || _) = _
      have : eqv (.str v) (.str w) = (v == w) := by unfold eqv; rfl
      rw [this]
      by_cases h : v = w
      · subst h; simp
      · have : (v == w) = false := by simpa using h
        rw [this]
        simp only [Bool.false_or, List.mem_cons]
        refine decide_eq_decide.mpr ⟨.inr, fun z => z.resolve_left fun y => h y.symm⟩
  unfold dNotIn
  rw [e]
  show some (!decide (w ∈ W)) = _
  by_cases h : w ∈ W <;> simp [h]
theorem whole1 {i : Int} (h : 1 ≤ i) : F_is_whole (.int i) (.int 1) = some (.bl true) := by
  unfold F_is_whole
  rw [whole_ok h]
def whyO : Option (List (Key × D)) → D
  | some _ => .str ""
  | none => .str "rule"
theorem F_xamiss {rs : Tab} {rw_ : D} (T : TabOk rs) {w k : D} {m : Str} {o : Option (List (Key × D))} (e : gv rs m = some o) : F_exchange_amiss (bookD rs rw_) (.tup [w, k, .str m]) = some (whyO o) := by
  have hm := gv_mem e
  obtain ⟨o', e1, e2⟩ := B_law (rs := rs) hm
  rw [e] at e1
  cases e1
  unfold F_exchange_amiss
  rw [B_meth (by decide +kernel)]
  simp only [Option.bind_some, show oA (dIx (.tup [w, k, .str m]) (.int 2)) = some (.str m) from rfl, F_has_ok T hm, show dTru (.bl true) = some true from rfl, Bool.not_true, cond_false, B_laws, e2]
  cases o with
  | none => rfl
  | some kvs => rfl
theorem word_ne_rounds (b : Bool) : oB (dNe (.str (wordB b)) (.str "rounds")) = some true := by cases b <;> decide +kernel
theorem F_amiss {rs : Tab} {rw_ : D} (T : TabOk rs) {x : Dd} {W : List Str} (hw : wordB x.fuse ∈ W) (hk : 1 ≤ x.k) {o : Option (List (Key × D))} (e : gv rs x.m = some o) : F_deed_amiss (bookD rs rw_) x.d (.ctp W) = some (whyO o) := by
  unfold F_deed_amiss
  unfold Dd.d
  have i0 : oA (dIx (.tup [.str (wordB x.fuse), .int x.k, .str x.m]) (.int 0)) = some (.str (wordB x.fuse)) := rfl
  have i1 : oA (dIx (.tup [.str (wordB x.fuse), .int x.k, .str x.m]) (.int 1)) = some (.int x.k) := rfl
  have t1 : oB (dIsa ["tuple"] (.tup [.str (wordB x.fuse), .int x.k, .str x.m])) = some true := rfl
  have t2 : oA (dLen (.tup [.str (wordB x.fuse), .int x.k, .str x.m])) = some (.int 3) := rfl
  have t3 : oB (dNe (.int 3) (.int 3)) = some false := by decide +kernel
  have t4 : oB (dIsa ["str"] (.str (wordB x.fuse))) = some true := rfl
  simp only [t1, t2, t3, t4, i0, i1, Option.bind_some, show ∀ b, dTru (.bl b) = some b from fun _ => rfl, Bool.not_true, cond_false, in_ctp, decide_eq_false (not_not_intro hw), whole1 hk, word_ne_rounds, cond_true, F_xamiss T e]
theorem F_amiss_r {rs : Tab} {rw_ : D} (T : TabOk rs) {x : Dd} {W : List Str} (hw : wordB x.fuse ∈ W) (hk : 1 ≤ x.k) {o : Option (List (Key × D))} (e : gv rs x.m = some o) : F_deed_amiss_r (bookD rs rw_) x.d (.ctp W) = some (whyO o) := by
  unfold F_deed_amiss_r
  unfold Dd.d
  have i0 : oA (dIx (.tup [.str (wordB x.fuse), .int x.k, .str x.m]) (.int 0)) = some (.str (wordB x.fuse)) := rfl
  have i1 : oA (dIx (.tup [.str (wordB x.fuse), .int x.k, .str x.m]) (.int 1)) = some (.int x.k) := rfl
  have t1 : oB (dIsa ["tuple"] (.tup [.str (wordB x.fuse), .int x.k, .str x.m])) = some true := rfl
  have t2 : oA (dLen (.tup [.str (wordB x.fuse), .int x.k, .str x.m])) = some (.int 3) := rfl
  have t3 : oB (dNe (.int 3) (.int 3)) = some false := by decide +kernel
  have t4 : oB (dIsa ["str"] (.str (wordB x.fuse))) = some true := rfl
  simp only [t1, t2, t3, t4, i0, i1, Option.bind_some, show ∀ b, dTru (.bl b) = some b from fun _ => rfl, Bool.not_true, cond_false, in_ctp, decide_eq_false (not_not_intro hw), whole1 hk, word_ne_rounds, cond_true, F_xamiss T e]
theorem word_in (b : Bool) : wordB b ∈ (["split", "fuse"] : List Str) ∧ wordB b ∈ (["split", "fuse", "rounds"] : List Str) := by cases b <;> decide +kernel
/-! ### one deed -/
/-- what can be told of a row: splits, fuses and rounds of such -/
inductive Gd where
  | x (d : Dd) | r (n : Int) (row : List Dd)
def Gd.d : Gd → D
  | .x d => d.d
  | .r n row => .tup [.str "rounds", .int n, .lst (row.map Dd.d)]
def doO (rs : Tab) (ps : HP) (x : Dd) : Option HP := match gv rs x.m with
  | some (some _) => if canB rs ps x = true then some (doP rs ps x) else none
  | _ => none
def runP (rs : Tab) : HP → List Dd → Option HP
  | ps, [] => some ps
  | ps, x :: xs => if canB rs ps x = true then runP rs (doP rs ps x) xs else none
/-- counts with so many times what was won -/
def raiseP (n : Int) : HP → HP → HP
  | ps, [] => ps
  | ps, l :: ls => raiseP n (gp ps l.1 (hv ps l.1 + n * (l.2 - hv ps l.1))) ls
def lessB (ps b : HP) : Bool := ps.any fun p => decide (hv b p.1 < p.2)
def stepG (rs : Tab) (ps : HP) : Gd → Option HP
  | .x d => doO rs ps d
  | .r n row => match runP rs ps row with
    | some b => if lessB ps b = true then none else some (raiseP n ps b)
    | none => none
/-- a word that tells why not -/
def Why (d : D) : Prop := ∃ s : Str, d = .str s ∧ oB (dNe (.str s) (.str "")) = some true
theorem word_nrounds (b : Bool) : oB (dEq (.str (wordB b)) (.str "rounds")) = some false := by cases b <;> decide +kernel
theorem ne_nil0 : oB (dNe (.str "") (.str "")) = some false := by decide +kernel
theorem F_do_one_x {rs : Tab} {rw_ : D} (T : TabOk rs) {ps : HP} (C : CtOk rs ps) {x : Dd} (hk : 1 ≤ x.k) (hm : x.m ∈ names rs) :
    ∃ w p, F_do_one (bookD rs rw_) (.dK (kvI ps)) x.d = some (w, p) ∧ match doO rs ps x with
      | some ps' => w = .str "" ∧ p = .dK (kvI ps')
      | none => Why w := by
  obtain ⟨o, e, _⟩ := B_law (rs := rs) hm
  unfold F_do_one
  rw [F_amiss T (word_in x.fuse).2 hk e]
  unfold doO
  rw [e]
  cases o with
  | none =>
    refine ⟨.str "rule", .dK (kvI ps), ?_, "rule", rfl, by decide +kernel⟩
    simp only [Option.bind_some, whyO, show oB (dNe (.str "rule") (.str "")) = some true by decide +kernel, cond_true]
  | some kvs =>
    have i0 : oA (dIx x.d (.int 0)) = some (.str (wordB x.fuse)) := rfl
    simp only [Option.bind_some, whyO, ne_nil0, cond_false, i0, word_nrounds, F_exchange_ok T C ⟨hk, hm, kvs, e⟩]
    cases canB rs ps x with
    | true => exact ⟨.str "", .dK (kvI (doP rs ps x)), rfl, rfl, rfl⟩
    | false => exact ⟨.str "lacks", .dK (kvI ps), rfl, "lacks", rfl, by decide +kernel⟩
/-! rounds -/
theorem runP_ok {rs : Tab} (T : TabOk rs) : ∀ {row : List Dd} {ps b : HP}, (∀ x ∈ row, x.m ∈ names rs) → CtOk rs ps → runP rs ps row = some b → CtOk rs b ∧ (∀ q ∈ ksP ps, q ∈ ksP b) ∧ ∀ q, hv b q = hv ps q + (row.map fun x => eff rs x q).sum
  | [], ps, b, _, C, h => by
    cases h
    exact ⟨C, fun q hq => hq, fun q => by simp⟩
  | x :: row, ps, b, hr, C, h => by
    unfold runP at h
    split at h
    · obtain ⟨g1, g2, g3⟩ := doP_ok T C (hr x List.mem_cons_self)
      obtain ⟨k1, k2, k3⟩ := runP_ok T (fun y hy => hr y (List.mem_cons_of_mem _ hy)) g1 h
      refine ⟨k1, fun q hq => k2 q (g3 q hq), fun q => ?_⟩
      rw [k3, g2, List.map_cons, List.sum_cons]
      omega
    · cases h
theorem rounds_loop {rs : Tab} {rw_ y : D} (T : TabOk rs) : ∀ {row : List Dd} {ps : HP}, (∀ x ∈ row, DdOk rs x) → CtOk rs ps →
    forX (fun d4 (a3 : D) => (F_exchange (bookD rs rw_) a3 d4).bind fun v6 => (dTru v6.1).bind fun c7 => cond (!c7) (some (.rt ((.str "lacks" : D), y))) (some (.nx v6.2))) (row.map Dd.d) (.dK (kvI ps)) = some (match runP rs ps row with
      | some b => .nx (.dK (kvI b))
      | none => .rt (.str "lacks", y))
  | [], ps, _, _ => rfl
  | x :: row, ps, hr, C => by
    rw [List.map_cons]
    unfold forX runP
    rw [F_exchange_ok T C (hr x List.mem_cons_self)]
    cases canB rs ps x with
    | false => rfl
    | true =>
      simp only [if_true, Option.bind_some, show dTru (.bl true) = some true from rfl, Bool.not_true, cond_false]
      exact rounds_loop T (fun z hz => hr z (List.mem_cons_of_mem _ hz)) (doP_ok T C (hr x List.mem_cons_self).nm).1
theorem raise_loop {n : Int} : ∀ (L acc : HP), (ksP L).Nodup → (∀ l ∈ L, oA (dMul (.int n) (.int (l.2 - hv acc l.1))) = some (.int (n * (l.2 - hv acc l.1)))) → acc.length + L.length ≤ 900 → forF (fun d22 (a21 : D) => (t2 d22).bind fun k24 =>
 (oDict a21).bind fun u25 =>
 (oA (dGet2 a21 k24.1 (.int 0))).bind fun v26 =>
 (oDict a21).bind fun u27 =>
 (oA (dGet2 a21 k24.1 (.int 0))).bind fun v28 =>
 (oA (dSub k24.2 v28)).bind fun v29 =>
 (oA (dMul (.int n) v29)).bind fun v30 =>
 (oA (dAdd v26 v30)).bind fun v31 =>
 (oC2 (cPut a21 v31 k24.1)).bind fun p32 =>
 some p32.1) (L.map fun p => D.tup [.str p.1, .int p.2]) (.dK (kvI acc)) = some (.dK (kvI (raiseP n acc L)))
  | [], acc, _, _, _ => rfl
  | l :: L, acc, nd, hs, hl => by
    rw [List.length_cons] at hl
    unfold ksP at nd
    rw [List.map_cons, List.nodup_cons] at nd
    rw [List.map_cons]
    unfold forF
    have e1 : t2 (D.tup [.str l.1, .int l.2]) = some (.str l.1, .int l.2) := rfl
    simp only [e1, show oDict (.dK (kvI acc)) = some () from rfl, Option.bind_some, get2_kvI, show oA (dSub (.int l.2) (.int (hv acc l.1))) = some (.int (l.2 - hv acc l.1)) from rfl, hs l List.mem_cons_self]
    rw [show oA (dAdd (.int (hv acc l.1)) (.int (n * (l.2 - hv acc l.1)))) = some (.int (hv acc l.1 + n * (l.2 - hv acc l.1))) from rfl]
    simp only [Option.bind_some]
    rw [put_some (by rw [kvI_len]; omega)]
    simp only [Option.bind_some, gp_kvI]
    have := gp_len acc l.1 (hv acc l.1 + n * (l.2 - hv acc l.1))
    refine raise_loop L _ nd.2 (fun z hz => ?_) (by omega)
    have hne : l.1 ≠ z.1 := fun e => nd.1 (by rw [e]; exact List.mem_map.mpr ⟨z, hz, rfl⟩)
    rw [hv_gp, if_neg hne]
    exact hs z (List.mem_cons_of_mem _ hz)
theorem raiseP_ok {n : Int} : ∀ {L acc : HP}, (ksP L).Nodup → (ksP acc).Nodup → (ksP (raiseP n acc L)).Nodup ∧ (∀ q ∈ ksP (raiseP n acc L), q ∈ ksP acc ∨ q ∈ ksP L) ∧ ∀ q, hv (raiseP n acc L) q = if q ∈ ksP L then hv acc q + n * (hv L q - hv acc q) else hv acc q
  | [], acc, _, h => ⟨h, fun q hq => .inl hq, fun q => by rw [if_neg (by simp [ksP])]; rfl⟩
  | l :: L, acc, nd, h => by
    have nd' := nd
    unfold ksP at nd'
    rw [List.map_cons, List.nodup_cons] at nd'
    obtain ⟨h1, h2, h3⟩ := raiseP_ok (n := n) (L := L) (acc := gp acc l.1 (hv acc l.1 + n * (l.2 - hv acc l.1))) nd'.2 (gp_nodup h)
    refine ⟨h1, fun q hq => ?_, fun q => ?_⟩
    · rcases h2 q hq with h | h
      · have hk : ksP (gp acc l.1 (hv acc l.1 + n * (l.2 - hv acc l.1))) = _ := gp_keys acc l.1 _
        rw [hk] at h
        split at h
        · exact .inl h
        · rcases List.mem_append.mp h with h | h
          · exact .inl h
          · rw [List.mem_singleton.mp h]; exact .inr List.mem_cons_self
      · exact .inr (List.mem_cons_of_mem _ h)
    · show hv (raiseP n (gp acc l.1 _) L) q = _
      rw [h3, hv_gp]
      have hc : hv (l :: L) q = if l.1 = q then l.2 else hv L q := by
        unfold hv
        rw [gv_cons]
        by_cases h : l.1 = q
        · rw [if_pos h, if_pos h]; rfl
        · rw [if_neg h, if_neg h]
      rw [hc]
      by_cases hq : l.1 = q
      · subst hq
        rw [if_neg (show l.1 ∉ ksP L from nd'.1), if_pos rfl, if_pos (show l.1 ∈ ksP (l :: L) from List.mem_cons_self), if_pos rfl]
      · rw [if_neg hq, if_neg hq]
        by_cases hL : q ∈ ksP L
        · rw [if_pos hL, if_pos (show q ∈ ksP (l :: L) from List.mem_cons_of_mem _ hL)]
        · rw [if_neg hL, if_neg (show q ∉ ksP (l :: L) from fun z => (List.mem_cons.mp z).elim (fun y => hq y.symm) hL)]
theorem less_any {ps b : HP} (hs : ∀ q ∈ ksP ps, q ∈ ksP b) : (lcP (fun d11 => (t2 d11).bind fun k12 =>
 (oA (dIx (.dK (kvI b)) k12.1)).bind fun v13 =>
 (oB (dLt v13 k12.2)).bind fun c14 =>
 some (some (.bl c14))) (ps.map fun p => D.tup [.str p.1, .int p.2])) = (if ps.length < SZ then some (.lst (ps.map fun p => D.bl (decide (hv b p.1 < p.2)))) else none) := by
  by_cases h : ps.length < SZ
  · rw [if_pos h]
    unfold lcP
    rw [if_pos (by rw [List.length_map]; exact h)]
    have : ∀ L : HP, (∀ p ∈ L, p ∈ ps) → lcL_ (fun d11 => (t2 d11).bind fun k12 =>
 (oA (dIx (.dK (kvI b)) k12.1)).bind fun v13 =>
 (oB (dLt v13 k12.2)).bind fun c14 =>
 some (some (.bl c14))) (L.map fun p => D.tup [.str p.1, .int p.2]) = some (L.map fun p => D.bl (decide (hv b p.1 < p.2))) := fun L => by
      induction L with
      | nil => intro _; rfl
      | cons p L ih =>
        intro hL
        rw [List.map_cons]
        unfold lcL_
        have e1 : t2 (D.tup [.str p.1, .int p.2]) = some (.str p.1, .int p.2) := rfl
        have hk : p.1 ∈ ksP b := hs p.1 (List.mem_map.mpr ⟨p, hL p List.mem_cons_self, rfl⟩)
        rw [ih fun x hx => hL x (List.mem_cons_of_mem _ hx)]
        simp only [e1, Option.bind_some, ix_kvI hk]
        rfl
    rw [this ps fun p hp => hp]
    rfl
  · rw [if_neg h]
    unfold lcP
    rw [if_neg (by rw [List.length_map]; exact h)]
theorem F_rounds {rs : Tab} {rw_ : D} (T : TabOk rs) {ps : HP} (C : CtOk rs ps) {n : Int} {row : List Dd} (hr : ∀ x ∈ row, DdOk rs x) (hm : ∀ b, runP rs ps row = some b → ∀ q, oA (dMul (.int n) (.int (hv b q - hv ps q))) = some (.int (n * (hv b q - hv ps q)))) :
    ∃ w p, F_go_rounds (bookD rs rw_) (.dK (kvI ps)) (.int n) (.lst (row.map Dd.d)) = some (w, p) ∧ match stepG rs ps (.r n row) with
      | some ps' => w = .str "" ∧ p = .dK (kvI ps')
      | none => Why w := by
  have lp := C.len T
  unfold F_go_rounds
  rw [show oW (dDict (.dK (kvI ps))) = some (.dK (kvI ps)) from rfl, show itemsOf (.lst (row.map Dd.d)) = some (row.map Dd.d) from rfl]
  simp only [Option.bind_some]
  rw [rounds_loop T hr C, show stepG rs ps (.r n row) = (match runP rs ps row with | some b => if lessB ps b = true then none else some (raiseP n ps b) | none => none) from rfl]
  cases er : runP rs ps row with
  | none => exact ⟨.str "lacks", .dK (kvI ps), rfl, "lacks", rfl, by decide +kernel⟩
  | some b =>
    obtain ⟨B, sup, val⟩ := runP_ok T (fun x hx => (hr x hx).nm) C er
    have lb := B.len T
    simp only [Option.bind_some, exB, oItems_kvI, less_any sup, if_pos (show ps.length < SZ by unfold SZ; omega), any_bools, show ∀ b, dTru (.bl b) = some b from fun _ => rfl]
    unfold lessB
    cases hl : ps.any fun p => decide (hv b p.1 < p.2) with
    | true =>
      simp only [if_true]
      exact ⟨.str "fewer", .dK (kvI ps), rfl, "fewer", rfl, by decide +kernel⟩
    | false =>
      simp only [cond_false, Bool.false_eq_true, if_false]
      rw [raise_loop b ps B.nd (fun l h => by
        have := hm b er l.1
        rw [hv_mem B.nd h] at this
        exact this) (by omega)]
      exact ⟨.str "", .dK (kvI (raiseP n ps b)), rfl, rfl, rfl⟩
structure GdOk (rs : Tab) (n : Int) (row : List Dd) : Prop where
  n1 : 1 ≤ n
  lo : 1 ≤ row.length
  hi : row.length ≤ 40
  ok : ∀ x ∈ row, DdOk rs x
theorem rounds_in : (Str.ofString "rounds") ∈ (["split", "fuse", "rounds"] : List Str) := by decide +kernel
theorem F_amiss_rounds {rs : Tab} {rw_ : D} (T : TabOk rs) {n : Int} {row : List Dd} (G : GdOk rs n row) : F_deed_amiss (bookD rs rw_) (Gd.r n row).d (.ctp ["split", "fuse", "rounds"]) = some (.str "") := by
  unfold F_deed_amiss
  unfold Gd.d
  have i0 : oA (dIx (.tup [.str "rounds", .int n, .lst (row.map Dd.d)]) (.int 0)) = some (.str "rounds") := rfl
  have i1 : oA (dIx (.tup [.str "rounds", .int n, .lst (row.map Dd.d)]) (.int 1)) = some (.int n) := rfl
  have i2 : oA (dIx (.tup [.str "rounds", .int n, .lst (row.map Dd.d)]) (.int 2)) = some (.lst (row.map Dd.d)) := rfl
  have t1 : oB (dIsa ["tuple"] (.tup [.str "rounds", .int n, .lst (row.map Dd.d)])) = some true := rfl
  have t2 : oA (dLen (.tup [.str "rounds", .int n, .lst (row.map Dd.d)])) = some (.int 3) := rfl
  have t3 : oB (dNe (.int 3) (.int 3)) = some false := by decide +kernel
  have t4 : oB (dIsa ["str"] (.str "rounds")) = some true := rfl
  have t5 : oB (dNe (.str "rounds") (.str "rounds")) = some false := by decide +kernel
  have t6 : F_is_row (.lst (row.map Dd.d)) = some (.bl true) := by unfold F_is_row; rw [is_row_ok]
  have t7 : oA (dLen (.lst (row.map Dd.d))) = some (.int (row.length : Int)) := by
    show some (D.int ((row.map Dd.d).length : Int)) = _
    rw [List.length_map]
  have t8 : oB (dLe (.int 1) (.int (row.length : Int))) = some true := by
    show some (decide ((1 : Int) ≤ row.length)) = _
    rw [decide_eq_true (by have := G.lo; omega)]
  have t9 : oB (dLe (.int (row.length : Int)) (.int 40)) = some true := by
    show some (decide ((row.length : Int) ≤ 40)) = _
    rw [decide_eq_true (by have := G.hi; omega)]
  have hin : decide ((Str.ofString "rounds") ∉ (["split", "fuse", "rounds"] : List Str)) = false := decide_eq_false (not_not_intro rounds_in)
  simp only [t1, t2, t3, t4, i0, i1, i2, t5, t6, t7, t8, t9, Option.bind_some, show ∀ b, dTru (.bl b) = some b from fun _ => rfl, Bool.not_true, cond_false, in_ctp, hin, whole1 G.n1, cond_true, show itemsOf (.lst (row.map Dd.d)) = some (row.map Dd.d) from rfl]
  rw [lcP_map (g := fun _ : Dd => D.bl false) (by have := G.hi; omega) fun x hx => by
    obtain ⟨kvs, e⟩ := (G.ok x hx).law
    rw [F_amiss_r T (word_in x.fuse).1 (G.ok x hx).k1 e]
    simp only [whyO, Option.bind_some, ne_nil0]]
  simp only [Option.bind_some, any_bools]
  rw [show (row.any fun _ => false) = false from by rw [List.any_eq_false]; intro x _ h; cases h]
  rfl
theorem F_do_one_r {rs : Tab} {rw_ : D} (T : TabOk rs) {ps : HP} (C : CtOk rs ps) {n : Int} {row : List Dd} (G : GdOk rs n row) (hm : ∀ b, runP rs ps row = some b → ∀ q, oA (dMul (.int n) (.int (hv b q - hv ps q))) = some (.int (n * (hv b q - hv ps q)))) :
    ∃ w p, F_do_one (bookD rs rw_) (.dK (kvI ps)) (Gd.r n row).d = some (w, p) ∧ match stepG rs ps (.r n row) with
      | some ps' => w = .str "" ∧ p = .dK (kvI ps')
      | none => Why w := by
  obtain ⟨w, p, e, h⟩ := F_rounds (rw_ := rw_) T C G.ok hm
  refine ⟨w, p, ?_, h⟩
  unfold F_do_one
  rw [F_amiss_rounds T G]
  have i0 : oA (dIx (Gd.r n row).d (.int 0)) = some (.str "rounds") := rfl
  have i1 : oA (dIx (Gd.r n row).d (.int 1)) = some (.int n) := rfl
  have i2 : oA (dIx (Gd.r n row).d (.int 2)) = some (.lst (row.map Dd.d)) := rfl
  simp only [Option.bind_some, ne_nil0, cond_false, i0, i1, i2, show oB (dEq (.str "rounds") (.str "rounds")) = some true by decide +kernel, cond_true, e]
/-! ### a heap that is looked at; told in the book's order -/
end Wk
namespace Wk
open PySem PV
/-! ### rows of deeds -/
/-- a deed that do_one answers as it should -/
def OneOk (rs : Tab) (rw_ : D) (g : Gd) : Prop := ∀ ps, CtOk rs ps → ∃ w p, F_do_one (bookD rs rw_) (.dK (kvI ps)) g.d = some (w, p) ∧ match stepG rs ps g with
  | some ps' => w = .str "" ∧ p = .dK (kvI ps') ∧ CtOk rs ps'
  | none => Why w
theorem oneOk_x {rs : Tab} {rw_ : D} (T : TabOk rs) {x : Dd} (hk : 1 ≤ x.k) (hm : x.m ∈ names rs) : OneOk rs rw_ (.x x) := fun ps C => by
  obtain ⟨w, p, e, h⟩ := F_do_one_x (rw_ := rw_) T C hk hm
  refine ⟨w, p, e, ?_⟩
  show match doO rs ps x with
    | some ps' => _
    | none => _
  cases ed : doO rs ps x with
  | none => rw [ed] at h; exact h
  | some ps' =>
    rw [ed] at h
    refine ⟨h.1, h.2, ?_⟩
    unfold doO at ed
    split at ed
    · split at ed
      · cases ed; exact (doP_ok T C hm).1
      · cases ed
    · cases ed
theorem oneOk_r {rs : Tab} {rw_ : D} (T : TabOk rs) {n : Int} {row : List Dd} (G : GdOk rs n row) (hn : n < 2 ^ 64) : OneOk rs rw_ (.r n row) := fun ps C => by
  obtain ⟨w, p, e, h⟩ := F_do_one_r (rw_ := rw_) T C G fun b _ q => mul_some ⟨by have := G.n1; omega, hn⟩
  refine ⟨w, p, e, ?_⟩
  cases ed : stepG rs ps (.r n row) with
  | none => rw [ed] at h; exact h
  | some ps' =>
    rw [ed] at h
    refine ⟨h.1, h.2, ?_⟩
    rw [show stepG rs ps (.r n row) = (match runP rs ps row with | some b => if lessB ps b = true then none else some (raiseP n ps b) | none => none) from rfl] at ed
    split at ed
    · rename_i b er
      split at ed
      · cases ed
      · cases ed
        obtain ⟨B, sup, val⟩ := runP_ok T (fun x hx => (G.ok x hx).nm) C er
        obtain ⟨h1, h2, h3⟩ := raiseP_ok (n := n) (L := b) (acc := ps) B.nd C.nd
        exact ⟨h1, fun q hq => (h2 q hq).elim (C.sub q) (B.sub q)⟩
    · cases ed
/-! ### heaps that are one -/
/-! ### there and back -/
abbrev Cn := Str → Int
def canC (rs : Tab) (c : Cn) (x : Dd) : Prop := ∀ q ∈ ksP (away rs x), x.k * hv (away rs x) q ≤ c q
def endC (rs : Tab) (c : Cn) (row : List Dd) : Cn := fun q => c q + (row.map fun x => eff rs x q).sum
def RunC (rs : Tab) : Cn → List Dd → Prop
  | _, [] => True
  | c, x :: xs => canC rs c x ∧ RunC rs (fun q => c q + eff rs x q) xs
theorem endC_nil {rs : Tab} {c : Cn} : endC rs c [] = c := funext fun q => by show c q + 0 = c q; omega
theorem endC_cons {rs : Tab} {c : Cn} {x : Dd} {xs : List Dd} : endC rs c (x :: xs) = endC rs (fun q => c q + eff rs x q) xs := funext fun q => by
  show c q + ((x :: xs).map fun x => eff rs x q).sum = c q + eff rs x q + _
  rw [List.map_cons, List.sum_cons]
  omega
theorem endC_app {rs : Tab} : ∀ {a b : List Dd} {c : Cn}, endC rs c (a ++ b) = endC rs (endC rs c a) b
  | [], b, c => by rw [endC_nil]; rfl
  | x :: a, b, c => by rw [List.cons_append, endC_cons, endC_cons, endC_app]
theorem RunC_app {rs : Tab} : ∀ {a b : List Dd} {c : Cn}, RunC rs c (a ++ b) ↔ RunC rs c a ∧ RunC rs (endC rs c a) b
  | [], b, c => by rw [endC_nil]; exact ⟨fun h => ⟨trivial, h⟩, fun h => h.2⟩
  | x :: a, b, c => by
    rw [endC_cons]
    show (canC rs c x ∧ RunC rs _ (a ++ b)) ↔ (canC rs c x ∧ RunC rs _ a) ∧ _
    rw [RunC_app]
    exact ⟨fun h => ⟨⟨h.1, h.2.1⟩, h.2.2⟩, fun h => ⟨h.1.1, h.1.2, h.2⟩⟩
/-! from counts to dicts -/
end Wk
namespace Wk
open PySem PV
/-! ### small steps -/
theorem ixL {xs : List D} {i : Nat} {d : D} (h : xs[i]? = some d) : oA (dIx (.lst xs) (.int (i : Int))) = some d := by
  show oA ((ixAt xs (i : Int)).map AV.fz) = _
  unfold ixAt
  rw [if_pos (by omega), Int.toNat_natCast, h]
  rfl
theorem ixS {ns : List Str} {i : Nat} (h : i < ns.length) : oA (dIx (.lst (ns.map .str)) (.int (i : Int))) = some (.str ns[i]) :=
  ixL (by rw [List.getElem?_map, List.getElem?_eq_getElem h]; rfl)
theorem cut_take {α : Type} {xs : List α} {i : Nat} : cut xs none (some (i : Int)) = xs.take i := by
  unfold cut
  rw [cutIx_nn, show cutIx xs.length 0 none = 0 from rfl, List.drop_zero, Nat.sub_zero]
  rcases Nat.le_total i xs.length with h | h
  · rw [Nat.min_eq_left h]
  · rw [Nat.min_eq_right h, List.take_of_length_le (Nat.le_refl _), List.take_of_length_le h]
theorem app_L {a : List D} {d : D} (h : a.length ≤ 1000000) : oC2 (cApp (.lst a) d) = some (.lst (a ++ [d]), .non) := by
  show oC2 (if a.length < SZ then some (D.lst (a ++ [d]), AV.fz .non) else none) = _
  rw [if_pos (by unfold SZ; omega)]
  rfl
/-! ### a ring of kinds -/
/-- rows, the first of some names -/
structure RowsOk (ns : List Str) (rs : Tab) : Prop where
  nm : names rs = ns.take rs.length
  le : rs.length ≤ ns.length
  its : ∀ r ∈ rs, ItsOk ns r
theorem RowsOk.app {ns : List Str} {rs : Tab} (h : RowsOk ns rs) {o : Option (List (Key × D))} (hl : rs.length < ns.length) (ho : ItsOk ns (ns[rs.length], o)) : RowsOk ns (rs ++ [(ns[rs.length], o)]) := by
  refine ⟨?_, by rw [List.length_append, List.length_singleton]; omega, fun r hr => ?_⟩
  · unfold names
    rw [List.map_append, List.length_append, List.length_singleton, List.take_succ, List.getElem?_eq_getElem hl]
    have := h.nm
    unfold names at this
    rw [this]
    rfl
  · rcases List.mem_append.mp hr with hr | hr
    · exact h.its r hr
    · rw [List.mem_singleton.mp hr]; exact ho
/-! ### the rows of a book -/
/-! ### a heap -/
end Wk
namespace Wk
open PySem PV
/-! ### a deed that is drawn -/
def rowHP : Option (List (Key × D)) → HP
  | some kvs => kvs.filterMap fun p => match p with
    | (Sum.inr q, .int i) => some (q, i)
    | _ => none
  | none => []
theorem rowHP_kvI (ls : HP) : rowHP (some (kvI ls)) = ls := by
  show (kvI ls).filterMap _ = ls
  unfold kvI
  rw [List.filterMap_map]
  have : ∀ L : HP, L.filterMap ((fun p : Key × D => match p with | (Sum.inr q, .int i) => some (q, i) | _ => none) ∘ fun p : Str × Int => ((Sum.inr p.1 : Key), D.int p.2)) = L := fun L => by
    induction L with
    | nil => rfl
    | cons p L ih =>
      rw [List.filterMap_cons]
      show (p.1, p.2) :: List.filterMap _ L = _
      rw [ih]
  exact this ls
/-! ### a heap whose numbers are small -/
/-! ### ways back -/
/-- kinds, each in the law of the one ahead, and the last one's law has t -/
def Way (rs : Tab) (t : Str) : List Str → Prop
  | [] => False
  | [q] => t ∈ parts rs q
  | q :: r :: xs => r ∈ parts rs q ∧ Way rs t (r :: xs)
theorem Way.snoc {rs : Tab} {t d : Str} (h : t ∈ parts rs d) : ∀ {l : List Str}, Way rs d l → Way rs t (l ++ [d])
  | [], k => k.elim
  | [q], k => ⟨k, h⟩
  | q :: r :: xs, k => ⟨k.1, Way.snoc h (l := r :: xs) k.2⟩
/-- a line from m on -/
structure LineOk (rs : Tab) (m : Str) (l : List Str) : Prop where
  hd : l.head? = some m
  way : ∀ q, l.getLast? = some q → q ∈ names rs ∧ ∀ t, t ∈ parts rs q → Way rs t l
theorem LineOk.app {rs : Tab} {m q d : Str} {l : List Str} (h : LineOk rs m l) (hq : l.getLast? = some q) (hd : d ∈ parts rs q) (hn : d ∈ names rs) : LineOk rs m (l ++ [d]) := by
  have hne : l ≠ [] := by intro z; rw [z] at h; have := h.hd; cases this
  refine ⟨by
    cases l with
    | nil => exact absurd rfl hne
    | cons a l => exact h.hd, fun q' e => ?_⟩
  rw [List.getLast?_append] at e
  have e : some d = some q' := by simpa using e
  cases e
  exact ⟨hn, fun t ht => ((h.way q hq).2 d hd).snoc ht⟩
structure LinesOk (rs : Tab) (m : Str) (ls : List (List Str)) (seen : List Str) : Prop where
  ok : ∀ l ∈ ls, LineOk rs m l ∧ l.length ≤ seen.length + 1
  cnt : ls.length ≤ seen.length + 1
  nd : seen.Nodup
  sub : ∀ q ∈ seen, q ∈ names rs
theorem LinesOk.len {rs : Tab} {m : Str} {ls : List (List Str)} {seen : List Str} (T : TabOk rs) (h : LinesOk rs m ls seen) : seen.length ≤ 12 := Nat.le_trans (nodup_len h.nd h.sub) (names_rs_len T)
end Wk
namespace Wk
open PySem PV
/-! ### rows of deeds, done -/
/-! ### a way of a kind back to itself -/
theorem law_pos {rs : Tab} (T : TabOk rs) {q t : Str} (h : t ∈ parts rs q) : 1 ≤ hv (lawP rs q) t := by
  obtain ⟨i, hi⟩ := parts_lawP T h
  have e := hv_mem (lawP_nd T q) hi
  rw [show hv (lawP rs q) t = i from e]
  exact (lawP_mem T hi).1
/-! ### put, of many -/
/-- a row's law and the book's -/
theorem law_hv {rs : Tab} (T : TabOk rs) {m : Str} {ls : HP} (e : gv rs m = some (some (kvI ls))) (ndl : (ksP ls).Nodup) (hp : ∀ q, q ∈ ksP ls ↔ q ∈ parts rs m) (q : Str) : hv (lawP rs m) q = hv ls q := by
  by_cases h : q ∈ ksP ls
  · refine hv_mem (p := (q, hv ls q)) (lawP_nd T m) ?_
    unfold lawP
    rw [e]
    refine List.mem_filterMap.mpr ⟨q, parts_sub T ((hp q).mp h), ?_⟩
    rw [gv_kvI]
    have hs := gv_some (kvs := ls) h
    unfold hv
    cases eg : gv ls q with
    | none => rw [eg] at hs; cases hs
    | some v => rfl
  · rw [hv_not h, hv_not fun z => h ((hp q).mpr ((lawP_ks T).mp z))]
end Wk
namespace Wk
open PySem PV
/-! ### rows with rounds, by counts -/
/-! from counts to dicts and back -/
/-- a deed that may have no law -/
def Cand (rs : Tab) : Gd → Prop
  | .x d => 1 ≤ d.k ∧ d.m ∈ names rs
  | .r n row => GdOk rs n row ∧ n < 2 ^ 64
theorem Cand.one {rs : Tab} {rw_ : D} (T : TabOk rs) : ∀ {g : Gd}, Cand rs g → OneOk rs rw_ g
  | .x _, h => oneOk_x T h.1 h.2
  | .r _ _, h => oneOk_r T h.1 h.2
/-! ### heaps put together, taken out, so many times -/
/-! ### kinds that come back to themselves -/
end Wk
namespace Wk
open PySem PV
/-! ### what a text of data comes to, in length -/
mutual
def lb : D → Nat
  | .int _ => 1921
  | .str x => (reprText x).length
  | .lst xs => 2 + lbL xs
  | .tup xs => 4 + lbL xs
  | .dK kvs => 2 + lbK kvs
  | _ => 5
def lbL : List D → Nat
  | [] => 0
  | x :: xs => lb x + 2 + lbL xs
def lbK : List (Key × D) → Nat
  | [] => 0
  | (k, d) :: r => (match k with | .inl _ => 1921 | .inr x => (reprText x).length) + 2 + lb d + 2 + lbK r
end
/-! ### heaps' keys and values -/
/-! ### what is told, compared -/
theorem nameS : ∀ q ∈ ALLN, sok q = true := by decide +kernel
/-! ### the word for what is no deed -/
/-! ### the deed, as the law does it -/
/-! ### what do says -/
end Wk
namespace Wk
open PySem PV
/-! ### rows of splits that are drawn -/
structure SpOk (rs : Tab) (row : List Dd) : Prop where
  ok : ∀ x ∈ row, DdOk rs x
  sp : ∀ x ∈ row, x.fuse = false
theorem SpOk.tail {rs : Tab} {x : Dd} {row : List Dd} (h : SpOk rs (x :: row)) : SpOk rs row := ⟨fun y hy => h.ok y (List.mem_cons_of_mem _ hy), fun y hy => h.sp y (List.mem_cons_of_mem _ hy)⟩
theorem SpOk.cons {rs : Tab} {x : Dd} {row : List Dd} (hx : DdOk rs x) (hf : x.fuse = false) (h : SpOk rs row) : SpOk rs (x :: row) := ⟨fun y hy => (List.mem_cons.mp hy).elim (fun e => e ▸ hx) (h.ok y), fun y hy => (List.mem_cons.mp hy).elim (fun e => e ▸ hf) (h.sp y)⟩
theorem SpOk.snoc {rs : Tab} {x : Dd} {row : List Dd} (h : SpOk rs row) (hx : DdOk rs x) (hf : x.fuse = false) : SpOk rs (row ++ [x]) := ⟨fun y hy => (List.mem_append.mp hy).elim (h.ok y) (fun z => by rw [List.mem_singleton.mp z]; exact hx), fun y hy => (List.mem_append.mp hy).elim (h.sp y) (fun z => by rw [List.mem_singleton.mp z]; exact hf)⟩
theorem SpOk.nil {rs : Tab} : SpOk rs [] := ⟨(fun y hy => nomatch hy), (fun y hy => nomatch hy)⟩
structure HRow (rs : Tab) (c : Cn) (h : HP) (row : List Dd) : Prop where
  H : HeapOk rs h
  val : hv h = endC rs c row
  sp : SpOk rs row
  run : RunC rs c row
theorem HRow.app {rs : Tab} {c : Cn} {h h' : HP} {row : List Dd} (J : HRow rs c h row) {x : Dd} (hx : DdOk rs x) (hf : x.fuse = false) (hc : canC rs (hv h) x) (H' : HeapOk rs h') (e : hv h' = fun q => hv h q + eff rs x q) : HRow rs c h' (row ++ [x]) := by
  refine ⟨H', ?_, J.sp.snoc hx hf, RunC_app.mpr ⟨J.run, by rw [← J.val]; exact hc, trivial⟩⟩
  rw [endC_app, ← J.val, endC_cons, endC_nil]
  exact e
/-! ### rounds, with the word why not -/
/-! ### put, whatever the numbers are -/
end Wk
namespace Wk
open PySem PV
/-! ### dicts with names for keys -/
def kvF {α : Type} (f : α → D) (ws : List (Str × α)) : List (Key × D) := ws.map fun p => (Sum.inr p.1, f p.2)
def ksF {α : Type} (ws : List (Str × α)) : List Str := ws.map (·.1)
/-! ### scales -/
inductive Sc where
  | yes (ws : List (Str × Bool))
  | sum (m : Int) (ws : HP)
def Sc.ks : Sc → List Str
  | .yes ws => ksF ws
  | .sum _ ws => ksP ws
def Sc.d : Sc → D
  | .yes ws => .tup [.str "yes", .dK (kvF .bl ws)]
  | .sum m ws => .tup [.str "sum", .int m, .dK (kvI ws)]
def wB (ws : List (Str × Bool)) (q : Str) : Bool := (gv ws q).getD false
/-- what a heap weighs, as a number -/
def wi : Sc → HP → Int
  | .yes ws, ps => if (ksP ps).any (wB ws) = true then 1 else 0
  | .sum m ws, ps => if m = 0 then (ps.map fun p => p.2 * hv ws p.1).sum else (ps.map fun p => p.2 * hv ws p.1).sum % m
/-- what a heap weighs -/
def wv : Sc → HP → D
  | .yes ws, ps => .bl ((ksP ps).any (wB ws))
  | .sum m ws, ps => .int (wi (.sum m ws) ps)
theorem wi_yes {ws : List (Str × Bool)} {ps : HP} : wi (.yes ws) ps = if (ksP ps).any (wB ws) = true then 1 else 0 := rfl
theorem wi_sum {m : Int} {ws ps : HP} : wi (.sum m ws) ps = if m = 0 then (ps.map fun p => p.2 * hv ws p.1).sum else (ps.map fun p => p.2 * hv ws p.1).sum % m := rfl
structure ScOk (rs : Tab) (s : Sc) : Prop where
  nd : s.ks.Nodup
  sub : ∀ q ∈ s.ks, q ∈ names rs
  ok : match s with
    | .yes _ => True
    | .sum m ws => (m = 0 ∨ 2 ≤ m) ∧ (m ≠ 0 → ∀ p ∈ ws, 0 ≤ p.2 ∧ p.2 < m) ∧ ∀ p ∈ ws, p.2.natAbs < 2 ^ 1000
theorem ScOk.len {rs : Tab} {s : Sc} (T : TabOk rs) (S : ScOk rs s) : s.ks.length ≤ 12 := Nat.le_trans (nodup_len S.nd S.sub) (names_rs_len T)
abbrev SmallH (ps : HP) : Prop := ∀ p ∈ ps, p.2.natAbs < 2 ^ 1000
/-! ### what heaps weigh, by counts -/
def wC (rs : Tab) : Sc → Cn → Int
  | .yes ws, c => if (names rs).any (fun q => decide (c q ≠ 0) && wB ws q) = true then 1 else 0
  | .sum m ws, c => if m = 0 then ((names rs).map fun q => c q * hv ws q).sum else ((names rs).map fun q => c q * hv ws q).sum % m
theorem wC_yes {rs : Tab} {ws : List (Str × Bool)} {c : Cn} : wC rs (.yes ws) c = if (names rs).any (fun q => decide (c q ≠ 0) && wB ws q) = true then 1 else 0 := rfl
theorem wC_sum {rs : Tab} {m : Int} {ws : HP} {c : Cn} : wC rs (.sum m ws) c = if m = 0 then ((names rs).map fun q => c q * hv ws q).sum else ((names rs).map fun q => c q * hv ws q).sum % m := rfl
theorem sum_ind {q0 : Str} {i : Int} (g : Str → Int) : ∀ {N : List Str}, N.Nodup → q0 ∈ N → (N.map fun q => (if q0 = q then i else 0) * g q).sum = i * g q0
  | [], _, h => nomatch h
  | a :: N, nd, h => by
    rw [List.nodup_cons] at nd
    have hz : ∀ L : List Str, q0 ∉ L → (L.map fun q => (if q0 = q then i else 0) * g q).sum = 0 := fun L => by
      induction L with
      | nil => intro _; rfl
      | cons b L ih =>
        intro h
        have h1 : q0 ≠ b := fun e => h (by rw [e]; exact List.mem_cons_self)
        rw [List.map_cons, List.sum_cons, ih fun z => h (List.mem_cons_of_mem _ z), if_neg h1, Int.zero_mul]
        rfl
    rw [List.map_cons, List.sum_cons]
    by_cases e : q0 = a
    · subst e
      rw [hz N nd.1, if_pos rfl]
      omega
    · rw [sum_ind g nd.2 ((List.mem_cons.mp h).resolve_left e), if_neg e, Int.zero_mul]
      omega
theorem sum_addF {f g : Str → Int} : ∀ {N : List Str}, (N.map fun q => f q + g q).sum = (N.map f).sum + (N.map g).sum
  | [] => rfl
  | a :: N => by
    rw [List.map_cons, List.map_cons, List.map_cons, List.sum_cons, List.sum_cons, List.sum_cons, sum_addF]
    omega
theorem sum_sup {g : Str → Int} {N : List Str} (hN : N.Nodup) : ∀ {ps : HP}, (ksP ps).Nodup → (∀ q ∈ ksP ps, q ∈ N) → (ps.map fun p => p.2 * g p.1).sum = (N.map fun q => hv ps q * g q).sum
  | [], _, _ => by
    rw [List.map_nil, List.sum_nil]
    have : ∀ L : List Str, (L.map fun q => hv ([] : HP) q * g q).sum = 0 := fun L => by
      induction L with
      | nil => rfl
      | cons a L ih =>
        rw [List.map_cons, List.sum_cons, ih]
        show 0 * g a + 0 = 0
        omega
    exact (this N).symm
  | p :: ps, nd, h => by
    have nd' : p.1 ∉ ksP ps ∧ (ksP ps).Nodup := List.nodup_cons.mp nd
    have ih := sum_sup (g := g) hN (ps := ps) nd'.2 fun q hq => h q (List.mem_cons_of_mem _ hq)
    rw [List.map_cons, List.sum_cons, ih, ← sum_ind (i := p.2) g hN (h p.1 List.mem_cons_self), ← sum_addF]
    congr 1
    apply List.map_congr_left
    intro q _
    show (if p.1 = q then p.2 else 0) * g q + hv ps q * g q = hv (p :: ps) q * g q
    have e : hv (p :: ps) q = if p.1 = q then p.2 else hv ps q := by
      unfold hv
      rw [gv_cons]
      split <;> rfl
    rw [e]
    by_cases hq : p.1 = q
    · subst hq
      rw [if_pos rfl, if_pos rfl, hv_not nd'.1]
      omega
    · rw [if_neg hq, if_neg hq]
      omega
theorem wi_wC {rs : Tab} (T : TabOk rs) (s : Sc) {ps : HP} (nd : (ksP ps).Nodup) (sub : ∀ q ∈ ksP ps, q ∈ names rs) (ne : ∀ q ∈ ksP ps, hv ps q ≠ 0) : wi s ps = wC rs s (hv ps) := by
  cases s with
  | yes ws =>
    rw [wi_yes, wC_yes]
    have : (ksP ps).any (wB ws) = (names rs).any fun q => decide (hv ps q ≠ 0) && wB ws q := by
      rw [Bool.eq_iff_iff, List.any_eq_true, List.any_eq_true]
      constructor
      · rintro ⟨q, hq, hw⟩
        exact ⟨q, sub q hq, by rw [decide_eq_true (ne q hq), hw]; rfl⟩
      · rintro ⟨q, hq, hw⟩
        rw [Bool.and_eq_true, decide_eq_true_eq] at hw
        exact ⟨q, Classical.byContradiction fun z => hw.1 (hv_not z), hw.2⟩
    rw [this]
  | sum m ws =>
    rw [wi_sum, wC_sum]
    rw [sum_sup (g := hv ws) T.nd nd sub]
theorem HeapOk.wi {rs : Tab} (T : TabOk rs) (s : Sc) {ps : HP} (H : HeapOk rs ps) : Wk.wi s ps = wC rs s (hv ps) := wi_wC T s H.nd H.sub fun q hq => by have := H.pos q hq; omega
/-! ### what a scale keeps -/
theorem lawP_heap {rs : Tab} (T : TabOk rs) (q : Str) : HeapOk rs (lawP rs q) := ⟨lawP_nd T q, fun x hx => parts_sub T ((lawP_ks T).mp hx), fun x hx => law_pos T ((lawP_ks T).mp hx)⟩
/-! ### the law's own -/
theorem row_wi {rs : Tab} (T : TabOk rs) (s : Sc) {q : Str} {ls : HP} (e : gv rs q = some (some (kvI ls))) : HeapOk rs ls ∧ SmallH ls ∧ (∀ r, r ∈ ksP ls ↔ r ∈ parts rs q) ∧ wi s ls = wi s (lawP rs q) := by
  obtain ⟨ls', e', ndl, hpl, hlN, hl1, hll⟩ := law_of T e
  have : ls = ls' := by
    have := congrArg (fun x => rowHP (some x)) e'
    simpa only [rowHP_kvI] using this
  subst this
  have H : HeapOk rs ls := ⟨ndl, hlN, fun q hq => (hl1 q hq).1⟩
  refine ⟨H, fun p hp => ?_, hpl, ?_⟩
  · have h := hl1 p.1 (List.mem_map.mpr ⟨p, hp, rfl⟩)
    rw [hv_mem ndl hp] at h
    have e : 99 < 2 ^ 1000 := by decide +kernel
    generalize (2 : Nat) ^ 1000 = b at *
    omega
  · rw [H.wi T s, (lawP_heap T q).wi T s]
    congr 1
    funext r
    rw [law_hv T e ndl hpl]
/-! ### a part of a scale -/
end Wk
namespace Wk
open PySem PV
/-! ### draws in a comprehension -/
inductive All2 {α β : Type} (P : α → β → Prop) : List α → List β → Prop
  | nil : All2 P [] []
  | cons {x : α} {y : β} {xs : List α} {ys : List β} : P x y → All2 P xs ys → All2 P (x :: xs) (y :: ys)
theorem All2.keys {α : Type} {R : Str × α → Prop} : ∀ {xs : List Str} {ys : List (Str × α)}, All2 (fun q r => r.1 = q ∧ R r) xs ys → ys.map (·.1) = xs ∧ ∀ r ∈ ys, R r
  | _, _, .nil => ⟨rfl, fun r hr => nomatch hr⟩
  | _, _, .cons h t => by
    obtain ⟨h1, h2⟩ := All2.keys t
    refine ⟨by rw [List.map_cons, h1, h.1], fun r hr => ?_⟩
    rcases List.mem_cons.mp hr with rfl | hr
    · exact h.2
    · exact h2 r hr
/-! ### a dict that is written to -/
/-! ### books whose rules keep a scale -/
/-! ### a rule that keeps given weights -/
end Wk
namespace Wk
open PySem PV
/-! ### more of scales -/
/-- a heap that is drawn, with its numbers -/
theorem heapB {rs : Tab} {kvs : List (Key × D)} (h : DictOk (names rs) R30 kvs) : ∃ ps, kvs = kvI ps ∧ HeapOk rs ps ∧ ∀ p ∈ ps, p.2 < 1000000000000000000000000000000 := by
  obtain ⟨ps, rfl, g1, g2⟩ := DictOk.kvI h
  refine ⟨ps, rfl, ⟨g1, fun q hq => ?_, fun q hq => ?_⟩, fun p hp => (g2 p hp).2.2⟩
  · obtain ⟨p, hp, rfl⟩ := List.mem_map.mp hq
    exact (g2 p hp).1
  · obtain ⟨p, hp, rfl⟩ := List.mem_map.mp hq
    rw [hv_mem g1 hp]
    exact (g2 p hp).2.1
/-! ### what is told, compared -/
end Wk
/-! PlZs: scales judged (judge, due words), scales and heaps shown (repr), scales bent, words of a kind's coming. -/
/-! PlZt: dicts from which something is taken, what is told compared, texts in order. -/
/-! PlZv: a book made of a tuple. -/
/-! PlZu: lots as a law reckons them. -/
namespace Wk
open PySem PV
theorem plnL_strs (n : Nat) : ∀ {L : List Str}, (∀ m ∈ L, sok m = true) → plnL n (L.map D.str) = true
  | [], _ => by unfold List.map plnL; rfl
  | a :: L, h => by
    rw [List.map_cons]
    unfold plnL
    rw [plnL_strs n fun m hm => h m (List.mem_cons_of_mem _ hm)]
    unfold pln
    rw [h a List.mem_cons_self]; rfl
/-- how many things of a lot a law has, in any order of its kinds -/
theorem sum_lot {lot : List Str} : ∀ (ps : HP), ((ps.filter fun p => decide (p.1 ∈ lot)).map (·.2)).sum = (ps.map fun p => p.2 * if p.1 ∈ lot then 1 else 0).sum
  | [] => rfl
  | p :: ps => by
    rw [List.filter_cons, List.map_cons, List.sum_cons]
    by_cases h : p.1 ∈ lot
    · rw [if_pos (decide_eq_true h), List.map_cons, List.sum_cons, sum_lot ps, if_pos h]; omega
    · rw [if_neg (by rw [decide_eq_false h]; exact fun z => nomatch z), sum_lot ps, if_neg h]; omega
theorem things_row {rs : Tab} (T : TabOk rs) {q : Str} {ls : HP} (e : gv rs q = some (some (kvI ls))) (lot : List Str) : ((ls.filter fun p => decide (p.1 ∈ lot)).map (·.2)).sum = things rs lot q := by
  obtain ⟨H, _, hk, _⟩ := row_wi T (.sum 0 []) e
  have L := lawP_heap T q
  unfold things
  rw [sum_lot, sum_lot]
  have go : ∀ (ps : HP), (ksP ps).Nodup → (∀ x ∈ ksP ps, x ∈ names rs) → (ps.map fun p => p.2 * if p.1 ∈ lot then 1 else 0).sum = ((names rs).map fun x => hv ps x * if x ∈ lot then 1 else 0).sum := fun ps nd sub => sum_sup (g := fun x => if x ∈ lot then 1 else 0) T.nd nd sub
  rw [go ls H.nd H.sub, go _ L.nd L.sub]
  congr 1
  apply List.map_congr_left
  intro x _
  have : hv ls x = hv (lawP rs q) x := (law_hv T e H.nd hk x).symm
  rw [this]
end Wk
namespace Wk
open PySem PySem.Spec PyProof.Rows L2 PV
def top (i : Nat) : Stmt := PySem.Challenge.pw_twoscales_k46_whole_lots_by_other_names.main.body.getD i (.Pass ⟨0, 0, 0, 0⟩)
abbrev s__law_cell_at : Stmt := top 31
abbrev N__law_cell_at : List Str := ["_law_script", "_law_k"]
abbrev s__law_source_of : Stmt := top 32
abbrev N__law_source_of : List Str := ["_law_cell"]
abbrev s__law_next : Stmt := top 33
abbrev N__law_next : List Str := ["_law_source", "_law_many", "_law_found", "_law_prime", "_law_number"]
abbrev s__law_mixed : Stmt := top 35
abbrev N__law_mixed : List Str := ["_law_source", "_law_some", "_law_left", "_law_found"]
abbrev s__law_one : Stmt := top 34
abbrev N__law_one : List Str := ["_law_source", "_law_some"]
abbrev s__law_twelve : Stmt := top 37
abbrev N__law_twelve : List Str := ["_law_source", "_law_names", "_law_rows", "_law_at", "_law_its", "_law_k", "_law_part"]
abbrev s__law_turned_2 : Stmt := top 38
abbrev N__law_turned_2 : List Str := ["_law_source", "_law_rows", "_law_names", "_law_new", "_law_found", "_law_kind", "_law_its", "_law_mine", "_law_at", "_law_row", "_law_part"]
abbrev s_is_row : Stmt := top 10
abbrev N_is_row : List Str := ["thing"]
abbrev s_is_name : Stmt := top 8
abbrev N_is_name : List Str := ["thing", "sign"]
abbrev s_row_amiss : Stmt := top 26
abbrev N_row_amiss : List Str := ["row", "known"]
abbrev s_is_whole : Stmt := top 9
abbrev N_is_whole : List Str := ["thing", "least"]
abbrev s_look_heap : Stmt := top 12
abbrev N_look_heap : List Str := ["heap", "kind", "many"]
abbrev s_is_heap : Stmt := top 13
abbrev N_is_heap : List Str := ["thing"]
abbrev s_law_amiss : Stmt := top 27
abbrev N_law_amiss : List Str := ["its", "known", "kind"]
abbrev s_look_rows : Stmt := top 28
abbrev N_look_rows : List Str := ["rows", "known", "at", "row", "why", "kind", "its"]
abbrev s_Book_init : Stmt := inClass (top 29) 0
abbrev N_Book_init : List Str := ["self", "rows", "kind", "its", "at", "row", "part", "self.laws"]
abbrev s_kinds_from : Stmt := top 16
abbrev N_kinds_from : List Str := ["book", "kinds", "known", "todo", "part", "kind"]
abbrev s_things_of : Stmt := top 17
abbrev N_things_of : List Str := ["book", "kind", "lot", "heap", "part", "many"]
abbrev s_Web_look_at : Stmt := inClass (top 18) 1
abbrev N_Web_look_at : List Str := ["self", "kind", "lot", "most", "word", "one", "self.lots", "self.lot_of", "self.word_of", "self.below"]
abbrev s_Web_init : Stmt := inClass (top 18) 0
abbrev N_Web_init : List Str := ["self", "book", "kind", "self.lots", "self.lot_of", "self.word_of", "self.below"]
abbrev s_lots : Stmt := top 20
abbrev N_lots : List Str := ["book"]
abbrev s__law_sets : Stmt := top 40
abbrev N__law_sets : List Str := ["_law_told", "_law_new", "_law_lot", "_law_kind"]
abbrev s__law_heap_2 : Stmt := top 36
abbrev N__law_heap_2 : List Str := ["_law_source", "_law_rows", "_law_found", "_law_k", "_law_number"]
abbrev s__law_by_names_c : Stmt := top 39
abbrev N__law_by_names_c : List Str := ["_law_heap_here", "_law_new", "_law_kind"]
abbrev s_Book_has : Stmt := inClass (top 29) 2
abbrev N_Book_has : List Str := ["self", "thing"]
abbrev s_look_in : Stmt := top 14
abbrev N_look_in : List Str := ["book", "heap", "kind", "many"]
abbrev s_reached : Stmt := top 19
abbrev N_reached : List Str := ["book", "heap"]
abbrev s_Web_lots_from : Stmt := inClass (top 18) 2
abbrev N_Web_lots_from : List Str := ["self", "kinds", "known", "lot", "word"]
abbrev s_comes : Stmt := top 21
abbrev N_comes : List Str := ["book", "heap"]
abbrev s_Web_upper_from : Stmt := inClass (top 18) 3
abbrev N_Web_upper_from : List Str := ["self", "kinds", "lots", "lot", "other"]
abbrev s_upper : Stmt := top 22
abbrev N_upper : List Str := ["book", "heap"]
abbrev s_law : Stmt := top 41
abbrev N_law : List Str := ["_law_script", "_law_cell", "_law_source", "_law_rows", "_law_others", "_law_new", "_law_same", "_law_one_here", "_law_other", "_law_word", "_law_mine", "_law_places", "_law_firsts", "_law_turn", "_law_heap_here", "_law_there", "_law_kind", "_law_its", "_law_lot"]
/-! ### the mirrors -/
def m__law_turned_2_s1 : MS := (mSeq (mSeq (mAsg 7 (xFr (xIf (PV.tB (x1 dIsN (.v 6))) (xC .non) (x1 dDict (.e (xLc [10] (sIt (xV 6)) (.nm 10) PV.tYes (xL dTup [(.e (x2 dIx (.v 3) (.v 10))), (.e (x2 dIx (.v 6) (.v 10)))]))))))) (mDrop (chgR (.v 4) cApp (.e (xL dTup [(.e (x2 dIx (.v 3) (.v 5))), (.e (xV 7))]))))) (mKill [5, 6, 7]))
def m__law_turned_2 : MS := (mSeq (mAsg 2 (xFr (xL dLst [(.e (xC (.str "q"))), (.e (xC (.str "qa"))), (.e (xC (.str "a"))), (.e (xC (.str "b"))), (.e (xC (.str "rye"))), (.e (xC (.str "barley"))), (.e (xC (.str "xx"))), (.e (xC (.str "yyyyyyyy"))), (.e (xC (.str "lotus"))), (.e (xC (.str "c"))), (.e (xC (.str "cc"))), (.e (xC (.str "oat"))), (.e (xC (.str "zz"))), (.e (xC (.str "m")))]))) (mSeq (mAsg 2 (xFr (xSl (.e (xCall f__law_mixed [(.v 0), (.e (xV 2))])) none (some (xFr (x1 dLen (.v 1))))))) (mSeq (mAsg 3 (xFr (x1 dDict (.e (xLc [8, 9] (sEnum (xV 1)) (.tp [(.nm 8), (.nm 9)]) PV.tYes (xL dTup [(.e (x2 dIx (.v 9) (.e (xC (.int 0))))), (.e (x2 dIx (.v 2) (.v 8)))])))))) (mSeq (mAsg 4 (xL dLst [])) (mSeq (mFor (sIt (xV 1)) (.tp [(.nm 5), (.nm 6)]) m__law_turned_2_s1) (mRet (xFr (xL dTup [(.e (xCall f__law_mixed [(.v 0), (.e (xV 4))])), (.e (xV 3))]))))))))
def f__law_turned_2 : Fn := mFun [true, false] 11 m__law_turned_2
def m__law_sets : MS := (mRet (x1 dSortedG (.e (xLc [2] (sIt (xV 0)) (.nm 2) PV.tYes (x1 dSortedG (.e (xLc [3] (sIt (xV 2)) (.nm 3) PV.tYes (x2 dIx (.v 1) (.v 3)))))))))
def f__law_sets : Fn := mFun [false, false] 4 m__law_sets
def m__law_by_names_c : MS := (mRet (x1 dDict (.e (xLc [2] (sIt (xV 0)) (.nm 2) PV.tYes (xL dTup [(.e (x2 dIx (.v 1) (.v 2))), (.e (x2 dIx (.v 0) (.v 2)))])))))
def f__law_by_names_c : Fn := mFun [false, false] 3 m__law_by_names_c
def m_law_1 : MS := (mSeq (mSeq (mAsg 10 (xLc [18, 17] (sIt (xCall f_lots [(.e (xV 7))])) (.tp [(.nm 18), (.nm 17)]) (PV.tB (x2 dEq (.v 17) (.v 9))) (xV 18))) (mIfS (PV.tB (x2 dNe (.e (xCall f__law_sets [(.e (xV 10)), (.e (xV 5))])) (.e (xCall f__law_sets [(.e (xLc [18, 17] (sIt (xCall f_lots [(.e (xV 8))])) (.tp [(.nm 18), (.nm 17)]) (PV.tB (x2 dEq (.v 17) (.v 9))) (xV 18))), (.e (xV 6))])))) (mRet (xC (.bl false))) mSkip)) (mKill [9, 10]))
def m_law_2 : MS := (mSeq (mSeq (mAsg 14 (xFr (xCall f__law_heap_2 [(.v 2), (.e (xV 3))]))) (mSeq (mAsg 15 (xFr (xCall f__law_by_names_c [(.e (xV 14)), (.e (xV 5))]))) (mSeq (mIfS (PV.tB (x2 dNe (.e (x1 dSortedG (.e (xLc [16] (sIt (xCall f_reached [(.e (xV 7)), (.e (xV 14))])) (.nm 16) PV.tYes (x2 dIx (.v 5) (.v 16)))))) (.e (x1 dSortedG (.e (xCall f_reached [(.e (xV 8)), (.e (xV 15))])))))) (mRet (xC (.bl false))) mSkip) (mSeq (mIfS (PV.tB (x2 dNe (.e (xCall f__law_sets [(.e (xCall f_comes [(.e (xV 7)), (.e (xV 14))])), (.e (xV 5))])) (.e (xCall f__law_sets [(.e (xCall f_comes [(.e (xV 8)), (.e (xV 15))])), (.e (xV 6))])))) (mRet (xC (.bl false))) mSkip) (mIfS (PV.tB (x2 dNe (.e (xCall f__law_sets [(.e (xCall f_upper [(.e (xV 7)), (.e (xV 14))])), (.e (xV 5))])) (.e (xCall f__law_sets [(.e (xCall f_upper [(.e (xV 8)), (.e (xV 15))])), (.e (xV 6))])))) (mRet (xC (.bl false))) mSkip))))) (mKill [13, 14, 15]))
def m_law_3 : MS := (mSeq (mSeq (mAsg 2 (xCall f__law_source_of [(.e (xV 1))])) (mSeq (mAsg 3 (xFr (xCall f__law_twelve [(.v 2)]))) (mSeq (mAsgT (.tp [(.nm 4), (.nm 5)]) (xCall f__law_turned_2 [(.v 2), (.e (xV 3))])) (mSeq (mAsg 6 (xFr (x1 dDict (.e (xLc [16, 17] (sIt (xV 4)) (.tp [(.nm 16), (.nm 17)]) PV.tYes (xL dTup [(.e (xV 16)), (.e (xV 16))])))))) (mSeq (mAsgT (.tp [.nm 7, .nm 8]) (xL dTup [(.e (xMake g_Book [(.e (xV 3))])), (.e (xMake g_Book [(.e (xV 4))]))])) (mSeq (mFor (sIt (xL dLst [(.e (xC (.str "ring"))), (.e (xC (.str "grows")))])) (.nm 9) m_law_1) (mSeq (mAsg 11 (xFr (xLc [16, 17] (sIt (xV 4)) (.tp [(.nm 16), (.nm 17)]) PV.tYes (xV 16)))) (mSeq (mAsg 12 (xLc [18, 17] (sIt (xCall f_lots [(.e (xV 8))])) (.tp [(.nm 18), (.nm 17)]) PV.tYes (x1 dMin (.e (xLc [16] (sIt (xV 18)) (.nm 16) PV.tYes (xIdx (.v 11) (.v 16))))))) (mSeq (mIfS (PV.tB (x2 dNe (.v 12) (.e (x1 dSortedG (.v 12))))) (mRet (xC (.bl false))) mSkip) (mFor (sRange1 (.e (xC (.int 3)))) (.nm 13) m_law_2)))))))))) (mKill [1, 2, 3, 4, 5, 6, 7, 8, 9, 10, 11, 12, 13, 14, 15]))
def m_law : MS := (mSeq (mFor (sIt (x2 dAdd (.e (xL dLst [(.e (xCall f__law_cell_at [(.e (xV 0)), (.e (xC (.int 0)))]))])) (.e (xSl (.v 0) (some (xC (.int 1))) (some (xC (.int 5))))))) (.nm 1) m_law_3) (mRet (xC (.bl true))))
def f_law : Fn := mFun [false] 19 m_law
end Wk
namespace Wk
open PySem PV
set_option maxHeartbeats 4000000
/-! ### plain functions, and that the mirrors do what they tell -/
def F__law_turned_2 (y0 y1 : D) : Option (D × D) :=
 (F__law_mixed y0 (.lst [(.str "q"), (.str "qa"), (.str "a"), (.str "b"), (.str "rye"), (.str "barley"), (.str "xx"), (.str "yyyyyyyy"), (.str "lotus"), (.str "c"), (.str "cc"), (.str "oat"), (.str "zz"), (.str "m")])).bind fun v1 =>
 (oA (dLen y1)).bind fun v2 =>
 (oI v2).bind fun i3 =>
 (oW (dSl v1.1 none (some i3))).bind fun v4 =>
 (oEnum y1).bind fun ds5 =>
 (lcP (fun d6 => (t2 d6).bind fun k7 =>
 (oA (dIx k7.2 (.int 0))).bind fun v8 =>
 (oA (dIx v4 k7.1)).bind fun v9 =>
 some (some (.tup [v8, v9]))) ds5).bind fun r11 =>
 (oW (dDict r11)).bind fun v13 =>
 (itemsOf y1).bind fun ds14 =>
 (forF (fun d16 (a15 : D) => (t2 d16).bind fun k18 =>
 (oB (dIsN k18.2)).bind fun c19 =>
 (cond c19 (some .non) ((itemsOf k18.2).bind fun ds20 =>
 (lcP (fun d21 => (oA (dIx v13 d21)).bind fun v22 =>
 (oA (dIx k18.2 d21)).bind fun v23 =>
 some (some (.tup [v22, v23]))) ds20).bind fun r25 =>
 (oW (dDict r25)).bind fun v27 =>
 some v27)).bind fun v28 =>
 (oL a15).bind fun xs30 =>
 (oA (dIx v13 k18.1)).bind fun v31 =>
 (oC2 (cApp a15 (.tup [v31, v28]))).bind fun p32 =>
 some p32.1) ds14 (.lst [])).bind fun p33 =>
 (F__law_mixed v1.2 p33).bind fun v35 =>
 some ((.tup [v35.1, v13]), v35.2)
theorem sim__law_turned_2 {y0 y1 : D} {r : D × D} (h : F__law_turned_2 y0 y1 = some r) : f__law_turned_2 [y0, y1] = some (.fz r.1, [r.2, .non]) := by
  unfold F__law_turned_2 at h
  unfold f__law_turned_2
  refine fnW rfl ?_
  unfold m__law_turned_2
  show Wp _ [.io y0, .fz y1, .un, .un, .un, .un, .un, .un, .un, .un, .un] _
  refine wSeq (mAsgL (fFr (wA (xLW (evLL (pLc (preE (fA fC)) (pLc (preE (fA fC)) (pLc (preE (fA fC)) (pLc (preE (fA fC)) (pLc (preE (fA fC)) (pLc (preE (fA fC)) (pLc (preE (fA fC)) (pLc (preE (fA fC)) (pLc (preE (fA fC)) (pLc (preE (fA fC)) (pLc (preE (fA fC)) (pLc (preE (fA fC)) (pLc (preE (fA fC)) (pLc (preE (fA fC)) pLn)))))))))))))) rfl) rfl))) rfl) ?_
  obtain ⟨v1, e1, h⟩ := bnd h
  obtain ⟨v2, e2, h⟩ := bnd h
  obtain ⟨i3, e3, h⟩ := bnd h
  obtain ⟨v4, e4, h⟩ := bnd h
  refine wSeq (mAsgL (fFr (wA (xSlW (preE (wA (xCallL (evLL (pLc rfl (pLc (preE (fA rfl)) pLn)) rfl) (sim__law_mixed e1) rfl))) prN (prS (by rw [← oI_eq e3]; exact (fFr (x1A rfl rfl e2)))) rfl e4))) rfl) ?_
  obtain ⟨ds5, e5, h⟩ := bnd h
  obtain ⟨r11, e9, h⟩ := bnd h
  have t12 : (xLc [8, 9] (sEnum (xV 1)) (.tp [(.nm 8), (.nm 9)]) PV.tYes (xL dTup [(.e (x2 dIx (.v 9) (.e (xC (.int 0))))), (.e (x2 dIx (.v 2) (.v 8)))])) [.io v1.2, .fz y1, .fz v4, .un, .un, .un, .un, .un, .un, .un, .un] = some (.ow r11, [.io v1.2, .fz y1, .fz v4, .un, .un, .un, .un, .un, .un, .un, .un]) := by
    refine xLcP (sw := [.io v1.2, .fz y1, .fz v4, .un, .un, .un, .un, .un, .un, .un, .un]) (sEnumL (fA rfl) e5) rfl rfl rfl rfl ?_ e9
    intro d6 o h10
    obtain ⟨k7, e6, h10⟩ := bnd h10
    refine ⟨[.io v1.2, .fz y1, .fz v4, .un, .un, .un, .un, .un, .fz k7.1, .fz k7.2, .un], (asgE (t2_eq e6) rfl), ?_⟩
    obtain ⟨v8, e7, h10⟩ := bnd h10
    obtain ⟨v9, e8, h10⟩ := bnd h10
    cases h10
    exact ⟨_, _, rfl, (xLA (evLL (pLc (preE (x2A rfl (preE (fA fC)) rfl rfl e7)) (pLc (preE (x2A rfl rfl rfl rfl e8)) pLn)) rfl) rfl), rfl, rfl⟩
  obtain ⟨v13, e10, h⟩ := bnd h
  refine wSeq (mAsgL (fFr (wA (x1W (preE (wA t12)) rfl e10))) rfl) ?_
  refine wSeq (mAsgL (xLW (evLL pLn rfl) rfl) rfl) ?_
  obtain ⟨ds14, e11, h⟩ := bnd h
  obtain ⟨p33, e23, h⟩ := bnd h
  have t34 : (mFor (sIt (xV 1)) (.tp [(.nm 5), (.nm 6)]) m__law_turned_2_s1) [.io v1.2, .fz y1, .fz v4, .fz v13, .ow (.lst []), .un, .un, .un, .un, .un, .un] = some (.nx, [.io v1.2, .fz y1, .fz v4, .fz v13, .ow p33, .un, .un, .un, .un, .un, .un]) := by
    refine mForF (st := fun (a15 : D) => [.io v1.2, .fz y1, .fz v4, .fz v13, .ow a15, .un, .un, .un, .un, .un, .un]) (sItL (fA rfl) e11) ?_ e23
    intro d16 a15 b h17
    obtain ⟨k18, e12, h17⟩ := bnd h17
    refine ⟨[.io v1.2, .fz y1, .fz v4, .fz v13, .ow a15, .fz k18.1, .fz k18.2, .un, .un, .un, .un], (asgE (t2_eq e12) rfl), ?_⟩
    unfold m__law_turned_2_s1
    refine wSeqW ?_
    obtain ⟨c19, e13, h17⟩ := bnd h17
    obtain ⟨v28, e19, h17⟩ := bnd h17
    have t29 : XA (xIf (PV.tB (x1 dIsN (.v 6))) (xC .non) (x1 dDict (.e (xLc [10] (sIt (xV 6)) (.nm 10) PV.tYes (xL dTup [(.e (x2 dIx (.v 3) (.v 10))), (.e (x2 dIx (.v 6) (.v 10)))]))))) [.io v1.2, .fz y1, .fz v4, .fz v13, .ow a15, .fz k18.1, .fz k18.2, .un, .un, .un, .un] v28 [.io v1.2, .fz y1, .fz v4, .fz v13, .ow a15, .fz k18.1, .fz k18.2, .un, .un, .un, .un] := by
      cases c19 with
      | true =>
        have e19 := condT e19
        cases e19
        exact xIfTA (tBL (x1B rfl rfl e13)) (fA fC)
      | false =>
        have e19 := condF e19
        obtain ⟨ds20, e14, e19⟩ := bnd e19
        obtain ⟨r25, e17, e19⟩ := bnd e19
        have t26 : (xLc [10] (sIt (xV 6)) (.nm 10) PV.tYes (xL dTup [(.e (x2 dIx (.v 3) (.v 10))), (.e (x2 dIx (.v 6) (.v 10)))])) [.io v1.2, .fz y1, .fz v4, .fz v13, .ow a15, .fz k18.1, .fz k18.2, .un, .un, .un, .un] = some (.ow r25, [.io v1.2, .fz y1, .fz v4, .fz v13, .ow a15, .fz k18.1, .fz k18.2, .un, .un, .un, .un]) := by
          refine xLcP (sw := [.io v1.2, .fz y1, .fz v4, .fz v13, .ow a15, .fz k18.1, .fz k18.2, .un, .un, .un, .un]) (sItL (fA rfl) e14) rfl rfl rfl rfl ?_ e17
          intro d21 o h24
          refine ⟨[.io v1.2, .fz y1, .fz v4, .fz v13, .ow a15, .fz k18.1, .fz k18.2, .un, .un, .un, .fz d21], rfl, ?_⟩
          obtain ⟨v22, e15, h24⟩ := bnd h24
          obtain ⟨v23, e16, h24⟩ := bnd h24
          cases h24
          exact ⟨_, _, rfl, (xLA (evLL (pLc (preE (x2A rfl rfl rfl rfl e15)) (pLc (preE (x2A rfl rfl rfl rfl e16)) pLn)) rfl) rfl), rfl, rfl⟩
        obtain ⟨v27, e18, e19⟩ := bnd e19
        cases e19
        exact xIfFA (tBL (x1B rfl rfl e13)) (wA (x1W (preE (wA t26)) rfl e18))
    refine wSeq (mAsgL (fFr t29) rfl) ?_
    obtain ⟨xs30, e20, h17⟩ := bnd h17
    obtain ⟨v31, e21, h17⟩ := bnd h17
    obtain ⟨p32, e22, h17⟩ := bnd h17
    refine wNx (mDropL (chgRL rfl rfl rfl (oL_eq e20) (ev1L (preE (xLA (evLL (pLc (preE (x2A rfl rfl rfl rfl e21)) (pLc (preE (fA rfl)) pLn)) rfl) rfl)) rfl) (chgOw rfl e22))) ?_
    refine wNx (mKillL (killA_ok rfl)) ?_
    cases h17
    exact ⟨.inl rfl, rfl⟩
  refine wSeq t34 ?_
  obtain ⟨v35, e24, h⟩ := bnd h
  cases h
  exact wRt (mRetL (fFr (xLA (evLL (pLc (preE (wA (xCallL (evLL (pLc rfl (pLc (preE (fA rfl)) pLn)) rfl) (sim__law_mixed e24) rfl))) (pLc (preE (fA rfl)) pLn)) rfl) rfl))) ⟨.inl rfl, rfl⟩
def F__law_sets (y0 y1 : D) : Option (D) :=
 (itemsOf y0).bind fun ds1 =>
 (lcP (fun d2 => (itemsOf d2).bind fun ds3 =>
 (lcP (fun d4 => (oA (dIx y1 d4)).bind fun v5 =>
 some (some v5)) ds3).bind fun r7 =>
 (oW (dSortedG r7)).bind fun v9 =>
 some (some v9)) ds1).bind fun r11 =>
 (oW (dSortedG r11)).bind fun v13 =>
 some v13
theorem sim__law_sets {y0 y1 : D} {r : D} (h : F__law_sets y0 y1 = some r) : f__law_sets [y0, y1] = some (.ow r, [.non, .non]) := by
  unfold F__law_sets at h
  unfold f__law_sets
  refine fnW rfl ?_
  unfold m__law_sets
  show Wp _ [.fz y0, .fz y1, .un, .un] _
  obtain ⟨ds1, e1, h⟩ := bnd h
  obtain ⟨r11, e6, h⟩ := bnd h
  have t12 : (xLc [2] (sIt (xV 0)) (.nm 2) PV.tYes (x1 dSortedG (.e (xLc [3] (sIt (xV 2)) (.nm 3) PV.tYes (x2 dIx (.v 1) (.v 3)))))) [.fz y0, .fz y1, .un, .un] = some (.ow r11, [.fz y0, .fz y1, .un, .un]) := by
    refine xLcP (sw := [.fz y0, .fz y1, .un, .un]) (sItL (fA rfl) e1) rfl rfl rfl rfl ?_ e6
    intro d2 o h10
    refine ⟨[.fz y0, .fz y1, .fz d2, .un], rfl, ?_⟩
    obtain ⟨ds3, e2, h10⟩ := bnd h10
    obtain ⟨r7, e4, h10⟩ := bnd h10
    have t8 : (xLc [3] (sIt (xV 2)) (.nm 3) PV.tYes (x2 dIx (.v 1) (.v 3))) [.fz y0, .fz y1, .fz d2, .un] = some (.ow r7, [.fz y0, .fz y1, .fz d2, .un]) := by
      refine xLcP (sw := [.fz y0, .fz y1, .fz d2, .un]) (sItL (fA rfl) e2) rfl rfl rfl rfl ?_ e4
      intro d4 o h6
      refine ⟨[.fz y0, .fz y1, .fz d2, .fz d4], rfl, ?_⟩
      obtain ⟨v5, e3, h6⟩ := bnd h6
      cases h6
      exact ⟨_, _, rfl, (x2A rfl rfl rfl rfl e3), rfl, rfl⟩
    obtain ⟨v9, e5, h10⟩ := bnd h10
    cases h10
    exact ⟨_, _, rfl, (wA (x1W (preE (wA t8)) rfl e5)), rfl, rfl⟩
  obtain ⟨v13, e7, h⟩ := bnd h
  cases h
  exact wRt (mRetL (x1W (preE (wA t12)) rfl e7)) ⟨.inl rfl, rfl⟩
def F__law_by_names_c (y0 y1 : D) : Option (D) :=
 (itemsOf y0).bind fun ds1 =>
 (lcP (fun d2 => (oA (dIx y1 d2)).bind fun v3 =>
 (oA (dIx y0 d2)).bind fun v4 =>
 some (some (.tup [v3, v4]))) ds1).bind fun r6 =>
 (oW (dDict r6)).bind fun v8 =>
 some v8
theorem sim__law_by_names_c {y0 y1 : D} {r : D} (h : F__law_by_names_c y0 y1 = some r) : f__law_by_names_c [y0, y1] = some (.ow r, [.non, .non]) := by
  unfold F__law_by_names_c at h
  unfold f__law_by_names_c
  refine fnW rfl ?_
  unfold m__law_by_names_c
  show Wp _ [.fz y0, .fz y1, .un] _
  obtain ⟨ds1, e1, h⟩ := bnd h
  obtain ⟨r6, e4, h⟩ := bnd h
  have t7 : (xLc [2] (sIt (xV 0)) (.nm 2) PV.tYes (xL dTup [(.e (x2 dIx (.v 1) (.v 2))), (.e (x2 dIx (.v 0) (.v 2)))])) [.fz y0, .fz y1, .un] = some (.ow r6, [.fz y0, .fz y1, .un]) := by
    refine xLcP (sw := [.fz y0, .fz y1, .un]) (sItL (fA rfl) e1) rfl rfl rfl rfl ?_ e4
    intro d2 o h5
    refine ⟨[.fz y0, .fz y1, .fz d2], rfl, ?_⟩
    obtain ⟨v3, e2, h5⟩ := bnd h5
    obtain ⟨v4, e3, h5⟩ := bnd h5
    cases h5
    exact ⟨_, _, rfl, (xLA (evLL (pLc (preE (x2A rfl rfl rfl rfl e2)) (pLc (preE (x2A rfl rfl rfl rfl e3)) pLn)) rfl) rfl), rfl, rfl⟩
  obtain ⟨v8, e5, h⟩ := bnd h
  cases h
  exact wRt (mRetL (x1W (preE (wA t7)) rfl e5)) ⟨.inl rfl, rfl⟩
def F_law (y0 : D) : Option (D) :=
 (F__law_cell_at y0 (.int 0)).bind fun v1 =>
 (oI (.int 1)).bind fun i2 =>
 (oI (.int 5)).bind fun i3 =>
 (oW (dSl y0 (some i2) (some i3))).bind fun v4 =>
 (oA (dAdd (.lst [v1]) v4)).bind fun v5 =>
 (itemsOf v5).bind fun ds6 =>
 (forX (fun d8 (a7 : Unit) => (F__law_source_of d8).bind fun v10 =>
 (F__law_twelve v10).bind fun v11 =>
 (F__law_turned_2 v11.2 v11.1).bind fun v12 =>
 (t2 v12.1).bind fun k13 =>
 (itemsOf k13.1).bind fun ds14 =>
 (lcP (fun d15 => (t2 d15).bind fun k16 =>
 some (some (.tup [k16.1, k16.1]))) ds14).bind fun r18 =>
 (oW (dDict r18)).bind fun v20 =>
 (F_Book v11.1).bind fun o21 =>
 (F_Book k13.1).bind fun o22 =>
 (itemsOf (.lst [(.str "ring"), (.str "grows")])).bind fun ds23 =>
 (forX (fun d25 (a24 : Unit) => (F_lots o21).bind fun v27 =>
 (itemsOf v27).bind fun ds28 =>
 (lcP (fun d29 => (t2 d29).bind fun k30 =>
 (oB (dEq k30.2 d25)).bind fun c31 =>
 cond c31 (some (some k30.1)) (some none)) ds28).bind fun r33 =>
 (F__law_sets r33 k13.2).bind fun v35 =>
 (F_lots o22).bind fun v36 =>
 (itemsOf v36).bind fun ds37 =>
 (lcP (fun d38 => (t2 d38).bind fun k39 =>
 (oB (dEq k39.2 d25)).bind fun c40 =>
 cond c40 (some (some k39.1)) (some none)) ds37).bind fun r42 =>
 (F__law_sets r42 v20).bind fun v44 =>
 (oB (dNe v35 v44)).bind fun c45 =>
 cond c45 (some (.rt (.bl false))) (some (.nx ()))) ds23 ()).bind fun x46 => exB x46 (fun p47 =>
 (itemsOf k13.1).bind fun ds48 =>
 (lcP (fun d49 => (t2 d49).bind fun k50 =>
 some (some k50.1)) ds48).bind fun r52 =>
 (F_lots o22).bind fun v54 =>
 (itemsOf v54).bind fun ds55 =>
 (lcP (fun d56 => (t2 d56).bind fun k57 =>
 (itemsOf k57.1).bind fun ds58 =>
 (lcP (fun d59 => (oL r52).bind fun xs60 =>
 (oA (dIdx r52 d59)).bind fun v61 =>
 some (some v61)) ds58).bind fun r63 =>
 (oA (dMin r63)).bind fun v65 =>
 some (some v65)) ds55).bind fun r67 =>
 (oW (dSortedG r67)).bind fun v69 =>
 (oB (dNe r67 v69)).bind fun c70 =>
 cond c70 (some (.rt (.bl false))) ((oRng1 (.int 3)).bind fun ds71 =>
 (forX (fun d73 (a72 : D) => (F__law_heap_2 a72 v11.1).bind fun v75 =>
 (F__law_by_names_c v75.1 k13.2).bind fun v76 =>
 (F_reached o21 v75.1).bind fun v77 =>
 (itemsOf v77).bind fun ds78 =>
 (lcP (fun d79 => (oA (dIx k13.2 d79)).bind fun v80 =>
 some (some v80)) ds78).bind fun r82 =>
 (oW (dSortedG r82)).bind fun v84 =>
 (F_reached o22 v76).bind fun v85 =>
 (oW (dSortedG v85)).bind fun v86 =>
 (oB (dNe v84 v86)).bind fun c87 =>
 cond c87 (some (.rt (.bl false))) ((F_comes o21 v75.1).bind fun v88 =>
 (F__law_sets v88 k13.2).bind fun v89 =>
 (F_comes o22 v76).bind fun v90 =>
 (F__law_sets v90 v20).bind fun v91 =>
 (oB (dNe v89 v91)).bind fun c92 =>
 cond c92 (some (.rt (.bl false))) ((F_upper o21 v75.1).bind fun v93 =>
 (F__law_sets v93 k13.2).bind fun v94 =>
 (F_upper o22 v76).bind fun v95 =>
 (F__law_sets v95 v20).bind fun v96 =>
 (oB (dNe v94 v96)).bind fun c97 =>
 cond c97 (some (.rt (.bl false))) (some (.nx v75.2))))) ds71 v12.2).bind fun x98 => exB x98 (fun p99 =>
 some (.nx ())) (fun r => some (.rt r)))) (fun r => some (.rt r))) ds6 ()).bind fun x100 => exB x100 (fun p101 =>
 some (.bl true)) (fun r => some r)
theorem sim_law {y0 : D} {r : D} (h : F_law y0 = some r) : f_law [y0] = some (.fz r, [.non]) := by
  unfold F_law at h
  unfold f_law
  refine fnW rfl ?_
  unfold m_law
  show Wp _ [.fz y0, .un, .un, .un, .un, .un, .un, .un, .un, .un, .un, .un, .un, .un, .un, .un, .un, .un, .un] _
  obtain ⟨v1, e1, h⟩ := bnd h
  obtain ⟨i2, e2, h⟩ := bnd h
  obtain ⟨i3, e3, h⟩ := bnd h
  obtain ⟨v4, e4, h⟩ := bnd h
  obtain ⟨v5, e5, h⟩ := bnd h
  obtain ⟨ds6, e6, h⟩ := bnd h
  obtain ⟨x100, e68, h⟩ := bnd h
  refine wSeqX (mForX (st := fun (a7 : Unit) => [.fz y0, .un, .un, .un, .un, .un, .un, .un, .un, .un, .un, .un, .un, .un, .un, .un, .un, .un, .un]) (R := fun (r : D) o s' => o = .rt (.fz r) ∧ outsOf [false] s' = some [.non]) (sItL (x2A (preE (wA (xLW (evLL (pLc (preE (fA (xCallL (evLL (pLc (preE (fA rfl)) (pLc (preE (fA fC)) pLn)) rfl) (sim__law_cell_at e1) rfl))) pLn) rfl) rfl))) (preE (wA (xSlW rfl (prS (by rw [← oI_eq e2]; exact fC)) (prS (by rw [← oI_eq e3]; exact fC)) rfl e4))) rfl rfl e5) e6) (fun r o s' hR => ⟨_, hR.1⟩) ?_ e68) (fun r o s' hR => ⟨_, hR.1⟩) ?_ ?_
  ·
    intro d8 a7 x h9
    refine ⟨[.fz y0, .fz d8, .un, .un, .un, .un, .un, .un, .un, .un, .un, .un, .un, .un, .un, .un, .un, .un, .un], rfl, ?_⟩
    unfold m_law_3
    refine wSeqW ?_
    obtain ⟨v10, e7, h9⟩ := bnd h9
    refine wSeq (mAsgL (xCallL (evLL (pLc (preE (fA rfl)) pLn) rfl) (sim__law_source_of e7) rfl) rfl) ?_
    show Wp _ [.fz y0, .fz d8, .ow v10, .un, .un, .un, .un, .un, .un, .un, .un, .un, .un, .un, .un, .un, .un, .un, .un] _
    obtain ⟨v11, e8, h9⟩ := bnd h9
    refine wSeq (mAsgL (fFr (wA (xCallL (evLL (pLc rfl pLn) rfl) (sim__law_twelve e8) rfl))) rfl) ?_
    show Wp _ [.fz y0, .fz d8, .ow v11.2, .fz v11.1, .un, .un, .un, .un, .un, .un, .un, .un, .un, .un, .un, .un, .un, .un, .un] _
    obtain ⟨v12, e9, h9⟩ := bnd h9
    obtain ⟨k13, e10, h9⟩ := bnd h9
    refine wSeq (mAsgTL (fA (xCallL (evLL (pLc rfl (pLc (preE (fA rfl)) pLn)) rfl) (sim__law_turned_2 e9) rfl)) (asgE (t2_eq e10) rfl)) ?_
    show Wp _ [.fz y0, .fz d8, .ow v12.2, .fz v11.1, .fz k13.1, .fz k13.2, .un, .un, .un, .un, .un, .un, .un, .un, .un, .un, .un, .un, .un] _
    obtain ⟨ds14, e11, h9⟩ := bnd h9
    obtain ⟨r18, e13, h9⟩ := bnd h9
    have t19 : (xLc [16, 17] (sIt (xV 4)) (.tp [(.nm 16), (.nm 17)]) PV.tYes (xL dTup [(.e (xV 16)), (.e (xV 16))])) [.fz y0, .fz d8, .ow v12.2, .fz v11.1, .fz k13.1, .fz k13.2, .un, .un, .un, .un, .un, .un, .un, .un, .un, .un, .un, .un, .un] = some (.ow r18, [.fz y0, .fz d8, .ow v12.2, .fz v11.1, .fz k13.1, .fz k13.2, .un, .un, .un, .un, .un, .un, .un, .un, .un, .un, .un, .un, .un]) := by
      refine xLcP (sw := [.fz y0, .fz d8, .ow v12.2, .fz v11.1, .fz k13.1, .fz k13.2, .un, .un, .un, .un, .un, .un, .un, .un, .un, .un, .un, .un, .un]) (sItL (fA rfl) e11) rfl rfl rfl rfl ?_ e13
      intro d15 o h17
      obtain ⟨k16, e12, h17⟩ := bnd h17
      refine ⟨[.fz y0, .fz d8, .ow v12.2, .fz v11.1, .fz k13.1, .fz k13.2, .un, .un, .un, .un, .un, .un, .un, .un, .un, .un, .fz k16.1, .fz k16.2, .un], (asgE (t2_eq e12) rfl), ?_⟩
      cases h17
      exact ⟨_, _, rfl, (xLA (evLL (pLc (preE (fA rfl)) (pLc (preE (fA rfl)) pLn)) rfl) rfl), rfl, rfl⟩
    obtain ⟨v20, e14, h9⟩ := bnd h9
    refine wSeq (mAsgL (fFr (wA (x1W (preE (wA t19)) rfl e14))) rfl) ?_
    show Wp _ [.fz y0, .fz d8, .ow v12.2, .fz v11.1, .fz k13.1, .fz k13.2, .fz v20, .un, .un, .un, .un, .un, .un, .un, .un, .un, .un, .un, .un] _
    obtain ⟨o21, e15, h9⟩ := bnd h9
    obtain ⟨o22, e16, h9⟩ := bnd h9
    refine wSeq (mAsgTL (xLA (evLL (pLc (preE (fA (xMakeL (evLL (pLc (preE (fA rfl)) pLn) rfl) (sim_Book e15)))) (pLc (preE (fA (xMakeL (evLL (pLc (preE (fA rfl)) pLn) rfl) (sim_Book e16)))) pLn)) rfl) rfl) rfl) ?_
    show Wp _ [.fz y0, .fz d8, .ow v12.2, .fz v11.1, .fz k13.1, .fz k13.2, .fz v20, .fz o21, .fz o22, .un, .un, .un, .un, .un, .un, .un, .un, .un, .un] _
    obtain ⟨ds23, e17, h9⟩ := bnd h9
    obtain ⟨x46, e31, h9⟩ := bnd h9
    refine wSeqX (mForX (st := fun (a24 : Unit) => [.fz y0, .fz d8, .ow v12.2, .fz v11.1, .fz k13.1, .fz k13.2, .fz v20, .fz o21, .fz o22, .un, .un, .un, .un, .un, .un, .un, .un, .un, .un]) (R := fun (r : D) o s' => o = .rt (.fz r) ∧ outsOf [false] s' = some [.non]) (sItL (wA (xLW (evLL (pLc (preE (fA fC)) (pLc (preE (fA fC)) pLn)) rfl) rfl)) e17) (fun r o s' hR => ⟨_, hR.1⟩) ?_ e31) (fun r o s' hR => ⟨_, hR.1⟩) ?_ ?_
    ·
      intro d25 a24 x h26
      refine ⟨[.fz y0, .fz d8, .ow v12.2, .fz v11.1, .fz k13.1, .fz k13.2, .fz v20, .fz o21, .fz o22, .fz d25, .un, .un, .un, .un, .un, .un, .un, .un, .un], rfl, ?_⟩
      unfold m_law_1
      refine wSeqW ?_
      obtain ⟨v27, e18, h26⟩ := bnd h26
      obtain ⟨ds28, e19, h26⟩ := bnd h26
      obtain ⟨r33, e22, h26⟩ := bnd h26
      have t34 : (xLc [18, 17] (sIt (xCall f_lots [(.e (xV 7))])) (.tp [(.nm 18), (.nm 17)]) (PV.tB (x2 dEq (.v 17) (.v 9))) (xV 18)) [.fz y0, .fz d8, .ow v12.2, .fz v11.1, .fz k13.1, .fz k13.2, .fz v20, .fz o21, .fz o22, .fz d25, .un, .un, .un, .un, .un, .un, .un, .un, .un] = some (.ow r33, [.fz y0, .fz d8, .ow v12.2, .fz v11.1, .fz k13.1, .fz k13.2, .fz v20, .fz o21, .fz o22, .fz d25, .un, .un, .un, .un, .un, .un, .un, .un, .un]) := by
        refine xLcP (sw := [.fz y0, .fz d8, .ow v12.2, .fz v11.1, .fz k13.1, .fz k13.2, .fz v20, .fz o21, .fz o22, .fz d25, .un, .un, .un, .un, .un, .un, .un, .un, .un]) (sItL (fA (xCallL (evLL (pLc (preE (fA rfl)) pLn) rfl) (sim_lots e18) rfl)) e19) rfl rfl rfl rfl ?_ e22
        intro d29 o h32
        obtain ⟨k30, e20, h32⟩ := bnd h32
        obtain ⟨c31, e21, h32⟩ := bnd h32
        refine ⟨[.fz y0, .fz d8, .ow v12.2, .fz v11.1, .fz k13.1, .fz k13.2, .fz v20, .fz o21, .fz o22, .fz d25, .un, .un, .un, .un, .un, .un, .un, .fz k30.2, .fz k30.1], (asgE (t2_eq e20) rfl), ?_⟩
        cases c31 with
        | true =>
          have h32 := condT h32
          cases h32
          exact ⟨_, _, (tBL (x2B rfl rfl rfl rfl e21)), (fA rfl), rfl, rfl⟩
        | false =>
          have h32 := condF h32
          cases h32
          exact ⟨_, (tBL (x2B rfl rfl rfl rfl e21)), rfl, rfl⟩
      refine wSeq (mAsgL t34 rfl) ?_
      show Wp _ [.fz y0, .fz d8, .ow v12.2, .fz v11.1, .fz k13.1, .fz k13.2, .fz v20, .fz o21, .fz o22, .fz d25, .ow r33, .un, .un, .un, .un, .un, .un, .un, .un] _
      obtain ⟨v35, e23, h26⟩ := bnd h26
      obtain ⟨v36, e24, h26⟩ := bnd h26
      obtain ⟨ds37, e25, h26⟩ := bnd h26
      obtain ⟨r42, e28, h26⟩ := bnd h26
      have t43 : (xLc [18, 17] (sIt (xCall f_lots [(.e (xV 8))])) (.tp [(.nm 18), (.nm 17)]) (PV.tB (x2 dEq (.v 17) (.v 9))) (xV 18)) [.fz y0, .fz d8, .ow v12.2, .fz v11.1, .fz k13.1, .fz k13.2, .fz v20, .fz o21, .fz o22, .fz d25, .fz r33, .un, .un, .un, .un, .un, .un, .un, .un] = some (.ow r42, [.fz y0, .fz d8, .ow v12.2, .fz v11.1, .fz k13.1, .fz k13.2, .fz v20, .fz o21, .fz o22, .fz d25, .fz r33, .un, .un, .un, .un, .un, .un, .un, .un]) := by
        refine xLcP (sw := [.fz y0, .fz d8, .ow v12.2, .fz v11.1, .fz k13.1, .fz k13.2, .fz v20, .fz o21, .fz o22, .fz d25, .fz r33, .un, .un, .un, .un, .un, .un, .un, .un]) (sItL (fA (xCallL (evLL (pLc (preE (fA rfl)) pLn) rfl) (sim_lots e24) rfl)) e25) rfl rfl rfl rfl ?_ e28
        intro d38 o h41
        obtain ⟨k39, e26, h41⟩ := bnd h41
        obtain ⟨c40, e27, h41⟩ := bnd h41
        refine ⟨[.fz y0, .fz d8, .ow v12.2, .fz v11.1, .fz k13.1, .fz k13.2, .fz v20, .fz o21, .fz o22, .fz d25, .fz r33, .un, .un, .un, .un, .un, .un, .fz k39.2, .fz k39.1], (asgE (t2_eq e26) rfl), ?_⟩
        cases c40 with
        | true =>
          have h41 := condT h41
          cases h41
          exact ⟨_, _, (tBL (x2B rfl rfl rfl rfl e27)), (fA rfl), rfl, rfl⟩
        | false =>
          have h41 := condF h41
          cases h41
          exact ⟨_, (tBL (x2B rfl rfl rfl rfl e27)), rfl, rfl⟩
      obtain ⟨v44, e29, h26⟩ := bnd h26
      obtain ⟨c45, e30, h26⟩ := bnd h26
      cases c45 with
      | true =>
        have h26 := condT h26
        refine wIfT (tBL (x2B (preE (wA (xCallL (evLL (pLc (preE (fA rfl)) (pLc (preE (fA rfl)) pLn)) rfl) (sim__law_sets e23) rfl))) (preE (wA (xCallL (evLL (pLc (preE (wA t43)) (pLc (preE (fA rfl)) pLn)) rfl) (sim__law_sets e29) rfl))) rfl rfl e30)) ?_
        cases h26
        exact wRt (mRetL fC) (show PEx _ _ (.rt _) _ _ from ⟨rfl, rfl⟩)
      | false =>
        have h26 := condF h26
        refine wIfF (tBL (x2B (preE (wA (xCallL (evLL (pLc (preE (fA rfl)) (pLc (preE (fA rfl)) pLn)) rfl) (sim__law_sets e23) rfl))) (preE (wA (xCallL (evLL (pLc (preE (wA t43)) (pLc (preE (fA rfl)) pLn)) rfl) (sim__law_sets e29) rfl))) rfl rfl e30)) ?_
        refine wNx mSkipL ?_
        refine wNx (mKillL (killA_ok rfl)) ?_
        cases h26
        exact pNx
    ·
      intro p47 hp
      subst hp
      have h9 := exNx h9
      obtain ⟨ds48, e32, h9⟩ := bnd h9
      obtain ⟨r52, e34, h9⟩ := bnd h9
      have t53 : (xLc [16, 17] (sIt (xV 4)) (.tp [(.nm 16), (.nm 17)]) PV.tYes (xV 16)) [.fz y0, .fz d8, .ow v12.2, .fz v11.1, .fz k13.1, .fz k13.2, .fz v20, .fz o21, .fz o22, .un, .un, .un, .un, .un, .un, .un, .un, .un, .un] = some (.ow r52, [.fz y0, .fz d8, .ow v12.2, .fz v11.1, .fz k13.1, .fz k13.2, .fz v20, .fz o21, .fz o22, .un, .un, .un, .un, .un, .un, .un, .un, .un, .un]) := by
        refine xLcP (sw := [.fz y0, .fz d8, .ow v12.2, .fz v11.1, .fz k13.1, .fz k13.2, .fz v20, .fz o21, .fz o22, .un, .un, .un, .un, .un, .un, .un, .un, .un, .un]) (sItL (fA rfl) e32) rfl rfl rfl rfl ?_ e34
        intro d49 o h51
        obtain ⟨k50, e33, h51⟩ := bnd h51
        refine ⟨[.fz y0, .fz d8, .ow v12.2, .fz v11.1, .fz k13.1, .fz k13.2, .fz v20, .fz o21, .fz o22, .un, .un, .un, .un, .un, .un, .un, .fz k50.1, .fz k50.2, .un], (asgE (t2_eq e33) rfl), ?_⟩
        cases h51
        exact ⟨_, _, rfl, (fA rfl), rfl, rfl⟩
      refine wSeq (mAsgL (fFr (wA t53)) rfl) ?_
      show Wp _ [.fz y0, .fz d8, .ow v12.2, .fz v11.1, .fz k13.1, .fz k13.2, .fz v20, .fz o21, .fz o22, .un, .un, .fz r52, .un, .un, .un, .un, .un, .un, .un] _
      obtain ⟨v54, e35, h9⟩ := bnd h9
      obtain ⟨ds55, e36, h9⟩ := bnd h9
      obtain ⟨r67, e43, h9⟩ := bnd h9
      have t68 : (xLc [18, 17] (sIt (xCall f_lots [(.e (xV 8))])) (.tp [(.nm 18), (.nm 17)]) PV.tYes (x1 dMin (.e (xLc [16] (sIt (xV 18)) (.nm 16) PV.tYes (xIdx (.v 11) (.v 16)))))) [.fz y0, .fz d8, .ow v12.2, .fz v11.1, .fz k13.1, .fz k13.2, .fz v20, .fz o21, .fz o22, .un, .un, .fz r52, .un, .un, .un, .un, .un, .un, .un] = some (.ow r67, [.fz y0, .fz d8, .ow v12.2, .fz v11.1, .fz k13.1, .fz k13.2, .fz v20, .fz o21, .fz o22, .un, .un, .fz r52, .un, .un, .un, .un, .un, .un, .un]) := by
        refine xLcP (sw := [.fz y0, .fz d8, .ow v12.2, .fz v11.1, .fz k13.1, .fz k13.2, .fz v20, .fz o21, .fz o22, .un, .un, .fz r52, .un, .un, .un, .un, .un, .un, .un]) (sItL (fA (xCallL (evLL (pLc (preE (fA rfl)) pLn) rfl) (sim_lots e35) rfl)) e36) rfl rfl rfl rfl ?_ e43
        intro d56 o h66
        obtain ⟨k57, e37, h66⟩ := bnd h66
        refine ⟨[.fz y0, .fz d8, .ow v12.2, .fz v11.1, .fz k13.1, .fz k13.2, .fz v20, .fz o21, .fz o22, .un, .un, .fz r52, .un, .un, .un, .un, .un, .fz k57.2, .fz k57.1], (asgE (t2_eq e37) rfl), ?_⟩
        obtain ⟨ds58, e38, h66⟩ := bnd h66
        obtain ⟨r63, e41, h66⟩ := bnd h66
        have t64 : (xLc [16] (sIt (xV 18)) (.nm 16) PV.tYes (xIdx (.v 11) (.v 16))) [.fz y0, .fz d8, .ow v12.2, .fz v11.1, .fz k13.1, .fz k13.2, .fz v20, .fz o21, .fz o22, .un, .un, .fz r52, .un, .un, .un, .un, .un, .fz k57.2, .fz k57.1] = some (.ow r63, [.fz y0, .fz d8, .ow v12.2, .fz v11.1, .fz k13.1, .fz k13.2, .fz v20, .fz o21, .fz o22, .un, .un, .fz r52, .un, .un, .un, .un, .un, .fz k57.2, .fz k57.1]) := by
          refine xLcP (sw := [.fz y0, .fz d8, .ow v12.2, .fz v11.1, .fz k13.1, .fz k13.2, .fz v20, .fz o21, .fz o22, .un, .un, .fz r52, .un, .un, .un, .un, .un, .fz k57.2, .fz k57.1]) (sItL (fA rfl) e38) rfl rfl rfl rfl ?_ e41
          intro d59 o h62
          refine ⟨[.fz y0, .fz d8, .ow v12.2, .fz v11.1, .fz k13.1, .fz k13.2, .fz v20, .fz o21, .fz o22, .un, .un, .fz r52, .un, .un, .un, .un, .fz d59, .fz k57.2, .fz k57.1], rfl, ?_⟩
          obtain ⟨xs60, e39, h62⟩ := bnd h62
          obtain ⟨v61, e40, h62⟩ := bnd h62
          cases h62
          exact ⟨_, _, rfl, (xIdxL rfl (oL_eq e39) rfl rfl rfl e40), rfl, rfl⟩
        obtain ⟨v65, e42, h66⟩ := bnd h66
        cases h66
        exact ⟨_, _, rfl, (x1A (preE (wA t64)) rfl e42), rfl, rfl⟩
      refine wSeq (mAsgL t68 rfl) ?_
      show Wp _ [.fz y0, .fz d8, .ow v12.2, .fz v11.1, .fz k13.1, .fz k13.2, .fz v20, .fz o21, .fz o22, .un, .un, .fz r52, .ow r67, .un, .un, .un, .un, .un, .un] _
      obtain ⟨v69, e44, h9⟩ := bnd h9
      obtain ⟨c70, e45, h9⟩ := bnd h9
      refine wSeqW ?_
      cases c70 with
      | true =>
        have h9 := condT h9
        refine wIfT (tBL (x2B rfl (preE (wA (x1W rfl rfl e44))) rfl rfl e45)) ?_
        cases h9
        exact wRt (mRetL fC) (show PEx _ _ (.rt _) _ _ from ⟨rfl, rfl⟩)
      | false =>
        have h9 := condF h9
        refine wIfF (tBL (x2B rfl (preE (wA (x1W rfl rfl e44))) rfl rfl e45)) ?_
        refine wNx mSkipL ?_
        show Wp _ _ _
        obtain ⟨ds71, e46, h9⟩ := bnd h9
        obtain ⟨x98, e67, h9⟩ := bnd h9
        refine wX (mForX (st := fun (a72 : D) => [.fz y0, .fz d8, .ow a72, .fz v11.1, .fz k13.1, .fz k13.2, .fz v20, .fz o21, .fz o22, .un, .un, .fz r52, .ow r67, .un, .un, .un, .un, .un, .un]) (R := fun (r : D) o s' => o = .rt (.fz r) ∧ outsOf [false] s' = some [.non]) (sRng1L (ev1L (preE (fA fC)) rfl) e46) (fun r o s' hR => ⟨_, hR.1⟩) ?_ e67) ?_ ?_
        ·
          intro d73 a72 x h74
          refine ⟨[.fz y0, .fz d8, .ow a72, .fz v11.1, .fz k13.1, .fz k13.2, .fz v20, .fz o21, .fz o22, .un, .un, .fz r52, .ow r67, .fz d73, .un, .un, .un, .un, .un], rfl, ?_⟩
          unfold m_law_2
          refine wSeqW ?_
          obtain ⟨v75, e47, h74⟩ := bnd h74
          refine wSeq (mAsgL (fFr (wA (xCallL (evLL (pLc rfl (pLc (preE (fA rfl)) pLn)) rfl) (sim__law_heap_2 e47) rfl))) rfl) ?_
          show Wp _ [.fz y0, .fz d8, .ow v75.2, .fz v11.1, .fz k13.1, .fz k13.2, .fz v20, .fz o21, .fz o22, .un, .un, .fz r52, .ow r67, .fz d73, .fz v75.1, .un, .un, .un, .un] _
          obtain ⟨v76, e48, h74⟩ := bnd h74
          refine wSeq (mAsgL (fFr (wA (xCallL (evLL (pLc (preE (fA rfl)) (pLc (preE (fA rfl)) pLn)) rfl) (sim__law_by_names_c e48) rfl))) rfl) ?_
          show Wp _ [.fz y0, .fz d8, .ow v75.2, .fz v11.1, .fz k13.1, .fz k13.2, .fz v20, .fz o21, .fz o22, .un, .un, .fz r52, .ow r67, .fz d73, .fz v75.1, .fz v76, .un, .un, .un] _
          obtain ⟨v77, e49, h74⟩ := bnd h74
          obtain ⟨ds78, e50, h74⟩ := bnd h74
          obtain ⟨r82, e52, h74⟩ := bnd h74
          have t83 : (xLc [16] (sIt (xCall f_reached [(.e (xV 7)), (.e (xV 14))])) (.nm 16) PV.tYes (x2 dIx (.v 5) (.v 16))) [.fz y0, .fz d8, .ow v75.2, .fz v11.1, .fz k13.1, .fz k13.2, .fz v20, .fz o21, .fz o22, .un, .un, .fz r52, .ow r67, .fz d73, .fz v75.1, .fz v76, .un, .un, .un] = some (.ow r82, [.fz y0, .fz d8, .ow v75.2, .fz v11.1, .fz k13.1, .fz k13.2, .fz v20, .fz o21, .fz o22, .un, .un, .fz r52, .ow r67, .fz d73, .fz v75.1, .fz v76, .un, .un, .un]) := by
            refine xLcP (sw := [.fz y0, .fz d8, .ow v75.2, .fz v11.1, .fz k13.1, .fz k13.2, .fz v20, .fz o21, .fz o22, .un, .un, .fz r52, .ow r67, .fz d73, .fz v75.1, .fz v76, .un, .un, .un]) (sItL (wA (xCallL (evLL (pLc (preE (fA rfl)) (pLc (preE (fA rfl)) pLn)) rfl) (sim_reached e49) rfl)) e50) rfl rfl rfl rfl ?_ e52
            intro d79 o h81
            refine ⟨[.fz y0, .fz d8, .ow v75.2, .fz v11.1, .fz k13.1, .fz k13.2, .fz v20, .fz o21, .fz o22, .un, .un, .fz r52, .ow r67, .fz d73, .fz v75.1, .fz v76, .fz d79, .un, .un], rfl, ?_⟩
            obtain ⟨v80, e51, h81⟩ := bnd h81
            cases h81
            exact ⟨_, _, rfl, (x2A rfl rfl rfl rfl e51), rfl, rfl⟩
          obtain ⟨v84, e53, h74⟩ := bnd h74
          obtain ⟨v85, e54, h74⟩ := bnd h74
          obtain ⟨v86, e55, h74⟩ := bnd h74
          obtain ⟨c87, e56, h74⟩ := bnd h74
          refine wSeqW ?_
          cases c87 with
          | true =>
            have h74 := condT h74
            refine wIfT (tBL (x2B (preE (wA (x1W (preE (wA t83)) rfl e53))) (preE (wA (x1W (preE (wA (xCallL (evLL (pLc (preE (fA rfl)) (pLc (preE (fA rfl)) pLn)) rfl) (sim_reached e54) rfl))) rfl e55))) rfl rfl e56)) ?_
            cases h74
            exact wRt (mRetL fC) (show PEx _ _ (.rt _) _ _ from ⟨rfl, rfl⟩)
          | false =>
            have h74 := condF h74
            refine wIfF (tBL (x2B (preE (wA (x1W (preE (wA t83)) rfl e53))) (preE (wA (x1W (preE (wA (xCallL (evLL (pLc (preE (fA rfl)) (pLc (preE (fA rfl)) pLn)) rfl) (sim_reached e54) rfl))) rfl e55))) rfl rfl e56)) ?_
            refine wNx mSkipL ?_
            show Wp _ _ _
            obtain ⟨v88, e57, h74⟩ := bnd h74
            obtain ⟨v89, e58, h74⟩ := bnd h74
            obtain ⟨v90, e59, h74⟩ := bnd h74
            obtain ⟨v91, e60, h74⟩ := bnd h74
            obtain ⟨c92, e61, h74⟩ := bnd h74
            refine wSeqW ?_
            cases c92 with
            | true =>
              have h74 := condT h74
              refine wIfT (tBL (x2B (preE (wA (xCallL (evLL (pLc (preE (wA (xCallL (evLL (pLc (preE (fA rfl)) (pLc (preE (fA rfl)) pLn)) rfl) (sim_comes e57) rfl))) (pLc (preE (fA rfl)) pLn)) rfl) (sim__law_sets e58) rfl))) (preE (wA (xCallL (evLL (pLc (preE (wA (xCallL (evLL (pLc (preE (fA rfl)) (pLc (preE (fA rfl)) pLn)) rfl) (sim_comes e59) rfl))) (pLc (preE (fA rfl)) pLn)) rfl) (sim__law_sets e60) rfl))) rfl rfl e61)) ?_
              cases h74
              exact wRt (mRetL fC) (show PEx _ _ (.rt _) _ _ from ⟨rfl, rfl⟩)
            | false =>
              have h74 := condF h74
              refine wIfF (tBL (x2B (preE (wA (xCallL (evLL (pLc (preE (wA (xCallL (evLL (pLc (preE (fA rfl)) (pLc (preE (fA rfl)) pLn)) rfl) (sim_comes e57) rfl))) (pLc (preE (fA rfl)) pLn)) rfl) (sim__law_sets e58) rfl))) (preE (wA (xCallL (evLL (pLc (preE (wA (xCallL (evLL (pLc (preE (fA rfl)) (pLc (preE (fA rfl)) pLn)) rfl) (sim_comes e59) rfl))) (pLc (preE (fA rfl)) pLn)) rfl) (sim__law_sets e60) rfl))) rfl rfl e61)) ?_
              refine wNx mSkipL ?_
              show Wp _ _ _
              obtain ⟨v93, e62, h74⟩ := bnd h74
              obtain ⟨v94, e63, h74⟩ := bnd h74
              obtain ⟨v95, e64, h74⟩ := bnd h74
              obtain ⟨v96, e65, h74⟩ := bnd h74
              obtain ⟨c97, e66, h74⟩ := bnd h74
              cases c97 with
              | true =>
                have h74 := condT h74
                refine wIfT (tBL (x2B (preE (wA (xCallL (evLL (pLc (preE (wA (xCallL (evLL (pLc (preE (fA rfl)) (pLc (preE (fA rfl)) pLn)) rfl) (sim_upper e62) rfl))) (pLc (preE (fA rfl)) pLn)) rfl) (sim__law_sets e63) rfl))) (preE (wA (xCallL (evLL (pLc (preE (wA (xCallL (evLL (pLc (preE (fA rfl)) (pLc (preE (fA rfl)) pLn)) rfl) (sim_upper e64) rfl))) (pLc (preE (fA rfl)) pLn)) rfl) (sim__law_sets e65) rfl))) rfl rfl e66)) ?_
                cases h74
                exact wRt (mRetL fC) (show PEx _ _ (.rt _) _ _ from ⟨rfl, rfl⟩)
              | false =>
                have h74 := condF h74
                refine wIfF (tBL (x2B (preE (wA (xCallL (evLL (pLc (preE (wA (xCallL (evLL (pLc (preE (fA rfl)) (pLc (preE (fA rfl)) pLn)) rfl) (sim_upper e62) rfl))) (pLc (preE (fA rfl)) pLn)) rfl) (sim__law_sets e63) rfl))) (preE (wA (xCallL (evLL (pLc (preE (wA (xCallL (evLL (pLc (preE (fA rfl)) (pLc (preE (fA rfl)) pLn)) rfl) (sim_upper e64) rfl))) (pLc (preE (fA rfl)) pLn)) rfl) (sim__law_sets e65) rfl))) rfl rfl e66)) ?_
                refine wNx mSkipL ?_
                refine wNx (mKillL (killA_ok rfl)) ?_
                cases h74
                exact pNx
        ·
          intro p99 hp
          subst hp
          have h9 := exNx h9
          refine wNx (mKillL (killA_ok rfl)) ?_
          cases h9
          exact pNx
        ·
          intro r o s' hp hR
          subst hp
          have h9 := exRt h9
          cases h9
          obtain ⟨rfl, hR⟩ := hR
          exact pRt (R := fun (r : D) o s' => o = .rt (.fz r) ∧ outsOf [false] s' = some [.non]) ⟨rfl, hR⟩
    ·
      intro r o s' hp hR
      subst hp
      have h9 := exRt h9
      cases h9
      obtain ⟨rfl, hR⟩ := hR
      exact pRt (R := fun (r : D) o s' => o = .rt (.fz r) ∧ outsOf [false] s' = some [.non]) ⟨rfl, hR⟩
  ·
    intro p101 hp
    subst hp
    have h := exNx h
    cases h
    exact wRt (mRetL fC) ⟨.inl rfl, rfl⟩
  ·
    intro r o s' hp hR
    subst hp
    have h := exRt h
    cases h
    obtain ⟨rfl, hR⟩ := hR
    exact ⟨.inl rfl, hR⟩
end Wk
namespace Wk
open PySem PV
/-! ### lists of plain data in order -/
abbrev tk (d : D) : List (Int ⊕ List Nat) := PySem.W.keyToks (toR d)
theorem leD_eq (a b : D) : leD a b = !PySem.W.dataLt (toR b) (toR a) := by unfold leD; rw [PySem.W.dataLe_eq]; rfl
theorem leD_trans (a b c : D) (h1 : leD a b = true) (h2 : leD b c = true) : leD a c = true := by
  rw [leD_eq, Bool.not_eq_true'] at h1 h2 ⊢
  cases h : PySem.W.dataLt (toR c) (toR a) with
  | false => rfl
  | true =>
    rcases PyProof.Rows.lex_negTrans _ (tk b) _ h with h | h
    · rw [show PySem.W.dataLt (toR c) (toR b) = true from h] at h2; cases h2
    · rw [show PySem.W.dataLt (toR b) (toR a) = true from h] at h1; cases h1
theorem leD_total (a b : D) : (leD a b || leD b a) = true := by
  rw [leD_eq, leD_eq]
  cases h : PySem.W.dataLt (toR b) (toR a) with
  | false => rfl
  | true =>
    cases h2 : PySem.W.dataLt (toR a) (toR b) with
    | false => rfl
    | true =>
      unfold PySem.W.dataLt at h h2
      have := PyProof.Rows.lex_trans _ _ _ h h2
      rw [PyProof.Rows.lex_irrefl] at this
      cases this
theorem leD_anti {a b : D} (h1 : leD a b = true) (h2 : leD b a = true) : tk a = tk b := by
  rw [leD_eq, Bool.not_eq_true'] at h1 h2
  exact PyProof.Rows.lex_total _ _ h2 h1
theorem perm_le {α : Type} {le : α → α → Bool} : ∀ {l m : List α}, l.Perm m → (∀ a ∈ l, ∀ b ∈ l, le a b = true → le b a = true → a = b) → l.Pairwise (fun a b => le a b = true) → m.Pairwise (fun a b => le a b = true) → l = m
  | [], m, p, _, _, _ => (List.nil_perm.mp p).symm
  | x :: l, [], p, _, _, _ => nomatch p.length_eq
  | x :: l, y :: m, p, h, h1, h2 => by
    have hx : x ∈ y :: m := p.mem_iff.mp List.mem_cons_self
    have hy : y ∈ x :: l := p.mem_iff.mpr List.mem_cons_self
    have e : x = y := by
      rcases List.mem_cons.mp hx with e | hx
      · exact e
      rcases List.mem_cons.mp hy with e | hy
      · exact e.symm
      exact h x List.mem_cons_self y (List.mem_cons_of_mem _ hy) (List.rel_of_pairwise_cons h1 hy) (List.rel_of_pairwise_cons h2 hx)
    subst e
    rw [perm_le ((List.perm_cons x).mp p) (fun a ha b hb => h a (List.mem_cons_of_mem _ ha) b (List.mem_cons_of_mem _ hb)) (List.pairwise_cons.mp h1).2 (List.pairwise_cons.mp h2).2]
abbrev srt (ds : List D) : List D := ds.mergeSort leD
theorem srt_perm (ds : List D) : (srt ds).Perm ds := List.mergeSort_perm _ _
theorem srt_same {ds es : List D} (p : ds.Perm es) (inj : ∀ a ∈ ds, ∀ b ∈ ds, tk a = tk b → a = b) : srt ds = srt es :=
  perm_le (((srt_perm ds).trans p).trans (srt_perm es).symm) (fun a ha b hb h1 h2 => inj a ((srt_perm ds).mem_iff.mp ha) b ((srt_perm ds).mem_iff.mp hb) (leD_anti h1 h2)) (List.pairwise_mergeSort leD_trans leD_total ds) (List.pairwise_mergeSort leD_trans leD_total es)
/-! texts -/
theorem tk_str {x y : Str} (h : tk (.str x) = tk (.str y)) : x = y := by
  unfold tk toR PySem.W.keyToks at h
  exact str_of_cps (Sum.inr.inj (List.cons.inj h).1)
theorem str_inj {L : List Str} : ∀ a ∈ L.map D.str, ∀ b ∈ L.map D.str, tk a = tk b → a = b := fun a ha b hb h => by
  obtain ⟨x, _, rfl⟩ := List.mem_map.mp ha
  obtain ⟨y, _, rfl⟩ := List.mem_map.mp hb
  rw [tk_str h]
theorem okD_strs {L : List Str} (h : ∀ m ∈ L, sok m = true) : okD (L.map D.str) = true := by
  unfold okD
  rw [Bool.and_eq_true, Bool.and_eq_true, List.all_eq_true, List.all_eq_true, Bool.or_eq_true, List.all_eq_true, List.all_eq_true]
  refine ⟨⟨fun d hd => ?_, fun d hd => List.all_eq_true.mpr fun e he => ?_⟩, .inr fun d hd => ?_⟩
  · obtain ⟨x, hx, rfl⟩ := List.mem_map.mp hd; exact h x hx
  · obtain ⟨x, hx, rfl⟩ := List.mem_map.mp hd
    obtain ⟨y, hy, rfl⟩ := List.mem_map.mp he
    unfold toR PySem.W.alike; rfl
  · obtain ⟨x, hx, rfl⟩ := List.mem_map.mp hd; rfl
def srS (L : List Str) : D := .lst (srt (L.map D.str))
theorem srS_perm {L M : List Str} (p : L.Perm M) : srS L = srS M := by unfold srS; rw [srt_same (p.map D.str) str_inj]
theorem srS_row (L : List Str) : ∃ M : List Str, srS L = .lst (M.map D.str) ∧ M.Perm L := by
  obtain ⟨M, e, p⟩ := unmap_str (srt_perm (L.map D.str))
  exact ⟨M, by unfold srS; rw [e], p⟩
theorem sort_strs {L : List Str} (h : ∀ m ∈ L, sok m = true) (hl : L.length ≤ 1000) : oW (dSortedG (.lst (L.map .str))) = some (srS L) := by
  unfold dSortedG
  simp only
  rw [if_pos ⟨okD_strs h, by rw [List.length_map]; unfold SZ; omega⟩]
  rfl
/-! lists of texts -/
def IsRow (d : D) : Prop := ∃ L : List Str, d = .lst (L.map D.str) ∧ ∀ m ∈ L, sok m = true
theorem srS_isRow {L : List Str} (h : ∀ m ∈ L, sok m = true) : IsRow (srS L) := by
  obtain ⟨M, e, p⟩ := srS_row L
  exact ⟨M, e, fun m hm => h m (p.mem_iff.mp hm)⟩
theorem toRL_strs : ∀ L : List Str, toRL (L.map D.str) = L.map PyData.str
  | [] => rfl
  | x :: L => by rw [List.map_cons, List.map_cons]; unfold toRL; rw [toRL_strs L]; rfl
theorem tkAll_inj : ∀ {L M : List Str}, PySem.W.keyToksAll (L.map PyData.str) = PySem.W.keyToksAll (M.map PyData.str) → L = M
  | [], [], _ => rfl
  | [], y :: M, h => by
    rw [List.map_nil, List.map_cons] at h
    unfold PySem.W.keyToksAll at h
    exact absurd (Sum.inl.inj (List.cons.inj h).1) (by decide)
  | x :: L, [], h => by
    rw [List.map_nil, List.map_cons] at h
    unfold PySem.W.keyToksAll at h
    exact absurd (Sum.inl.inj (List.cons.inj h).1) (by decide)
  | x :: L, y :: M, h => by
    rw [List.map_cons, List.map_cons] at h
    unfold PySem.W.keyToksAll PySem.W.keyToks at h
    have h := (List.cons.inj h).2
    rw [List.cons_append, List.cons_append, List.nil_append, List.nil_append] at h
    rw [str_of_cps (Sum.inr.inj (List.cons.inj h).1), tkAll_inj (List.cons.inj h).2]
theorem row_inj {a b : D} (ha : IsRow a) (hb : IsRow b) (h : tk a = tk b) : a = b := by
  obtain ⟨L, rfl, _⟩ := ha
  obtain ⟨M, rfl, _⟩ := hb
  unfold tk toR PySem.W.keyToks at h
  rw [toRL_strs, toRL_strs] at h
  rw [tkAll_inj h]
theorem alike_strs : ∀ L M : List Str, PySem.W.alikeAll (L.map PyData.str) (M.map PyData.str) = true
  | [], _ => by rw [List.map_nil]; unfold PySem.W.alikeAll; rfl
  | _ :: _, [] => by rw [List.map_nil, List.map_cons]; unfold PySem.W.alikeAll; rfl
  | x :: L, y :: M => by
    rw [List.map_cons, List.map_cons]
    unfold PySem.W.alikeAll
    rw [alike_strs L M]
    unfold PySem.W.alike
    rfl
theorem row_pln {d : D} (n : Nat) (h : IsRow d) : pln (n + 1) d = true := by
  obtain ⟨L, rfl, hs⟩ := h
  unfold pln
  exact plnL_strs n hs
theorem okD_rows {ds : List D} (h : ∀ d ∈ ds, IsRow d) : okD ds = true := by
  unfold okD
  rw [Bool.and_eq_true, Bool.and_eq_true, List.all_eq_true, List.all_eq_true, Bool.or_eq_true, List.all_eq_true, List.all_eq_true]
  refine ⟨⟨fun d hd => row_pln 49 (h d hd), fun d hd => List.all_eq_true.mpr fun e he => ?_⟩, .inr fun d hd => ?_⟩
  · obtain ⟨L, rfl, _⟩ := h d hd
    obtain ⟨M, rfl, _⟩ := h e he
    unfold toR PySem.W.alike
    rw [toRL_strs, toRL_strs]
    exact alike_strs L M
  · obtain ⟨L, rfl, _⟩ := h d hd; rfl
theorem sort_rows {ds : List D} (h : ∀ d ∈ ds, IsRow d) (hl : ds.length ≤ 1000) : oW (dSortedG (.lst ds)) = some (.lst (srt ds)) := by
  unfold dSortedG
  simp only
  rw [if_pos ⟨okD_rows h, by unfold SZ; omega⟩]
  rfl
theorem srt_rows {ds es : List D} (h : ∀ d ∈ ds, IsRow d) (p : ds.Perm es) : srt ds = srt es := srt_same p fun a ha b hb => row_inj (h a ha) (h b hb)
theorem ne_rows {ds : List D} (h : ∀ d ∈ ds, IsRow d) : oB (dNe (.lst (srt ds)) (.lst (srt ds))) = some false := ne_same (by
  unfold pln
  have : ∀ es : List D, (∀ d ∈ es, IsRow d) → plnL 59 es = true := fun es => by
    induction es with
    | nil => intro _; rfl
    | cons d es ih =>
      intro h
      unfold plnL
      rw [row_pln 58 (h d List.mem_cons_self), ih fun x hx => h x (List.mem_cons_of_mem _ hx)]
      rfl
  exact this _ fun d hd => h d ((srt_perm ds).mem_iff.mp hd))
theorem ne_srS {L M : List Str} (p : L.Perm M) (h : ∀ m ∈ L, sok m = true) : oB (dNe (srS L) (srS M)) = some false := by
  rw [← srS_perm p]
  exact ne_same (row_pln 59 (srS_isRow h))
/-! lots by other names -/
theorem F_sets {α : Type} {xs : List α} {e : α → D} {g : α → List Str} {φ : Str → Str} {V : D} (hV : ∀ x ∈ xs, ∀ m ∈ g x, oA (dIx V (.str m)) = some (.str (φ m))) (he : ∀ x ∈ xs, itemsOf (e x) = some ((g x).map .str)) (hl : xs.length ≤ 1000) (hg : ∀ x ∈ xs, (g x).length ≤ 1000) (hs : ∀ x ∈ xs, ∀ m ∈ g x, sok (φ m) = true) :
    F__law_sets (.lst (xs.map e)) V = some (.lst (srt (xs.map fun x => srS ((g x).map φ)))) := by
  have so : ∀ x ∈ xs, ∀ m ∈ (g x).map φ, sok m = true := fun x hx m hm => by
    obtain ⟨q, hq, rfl⟩ := List.mem_map.mp hm
    exact hs x hx q hq
  unfold F__law_sets
  rw [show itemsOf (.lst (xs.map e)) = some (xs.map e) from rfl]
  simp only [Option.bind_some]
  rw [lcP_map (g := fun x => srS ((g x).map φ)) (by omega) fun x hx => by
    rw [he x hx]
    simp only [Option.bind_some]
    rw [lcP_map (g := fun m => D.str (φ m)) (by have := hg x hx; omega) fun m hm => by rw [hV x hx m hm]; rfl]
    simp only [Option.bind_some]
    rw [show ((g x).map fun m => D.str (φ m)) = ((g x).map φ).map D.str from by rw [List.map_map]; rfl, sort_strs (so x hx) (by rw [List.length_map]; exact hg x hx)]
    rfl]
  simp only [Option.bind_some]
  rw [sort_rows (fun d hd => by
    obtain ⟨x, hx, rfl⟩ := List.mem_map.mp hd
    exact srS_isRow (so x hx)) (by rw [List.length_map]; exact hl)]
  rfl
/-! ### a book by other names -/
def kvM (φ : Str → Str) (kvs : List (Key × D)) : List (Key × D) := kvs.map fun p => (match p.1 with
  | .inr q => .inr (φ q)
  | k => k, p.2)
def mapH (φ : Str → Str) (ps : HP) : HP := ps.map fun p => (φ p.1, p.2)
theorem kvM_kvI (φ : Str → Str) (ps : HP) : kvM φ (kvI ps) = kvI (mapH φ ps) := by
  unfold kvM kvI mapH
  rw [List.map_map, List.map_map]
  rfl
theorem ks_mapH (φ : Str → Str) (ps : HP) : ksP (mapH φ ps) = (ksP ps).map φ := by
  unfold ksP mapH
  rw [List.map_map, List.map_map]
  rfl
structure Ren (rs rs' : Tab) (φ : Str → Str) : Prop where
  T : TabOk rs
  T' : TabOk rs'
  on : ∀ m ∈ names rs, φ m ∈ names rs'
  sur : ∀ q ∈ names rs', ∃ m ∈ names rs, φ m = q
  inj : ∀ m ∈ names rs, ∀ o ∈ names rs, φ m = φ o → m = o
  law : ∀ m o, gv rs m = some o → gv rs' (φ m) = some (o.map (kvM φ))
section
variable {rs rs' : Tab} {φ : Str → Str}
theorem gv_names {m : Str} (h : m ∈ names rs) : ∃ o, gv rs m = some o := Option.isSome_iff_exists.mp (gv_some h)
theorem keysS_kvM (kvs : List (Key × D)) : keysS (kvM φ kvs) = (keysS kvs).map φ := by
  unfold keysS kvM
  rw [List.filterMap_map, List.map_filterMap]
  congr 1
  funext p
  obtain ⟨k, v⟩ := p
  cases k <;> rfl
theorem parts_ren (R : Ren rs rs' φ) {m : Str} (h : m ∈ names rs) : parts rs' (φ m) = (parts rs m).map φ := by
  obtain ⟨o, e⟩ := gv_names h
  unfold parts
  rw [e, R.law m o e]
  cases o with
  | none => rfl
  | some kvs => exact keysS_kvM kvs
theorem reach_on (R : Ren rs rs' φ) {S : List Str} (hS : ∀ m ∈ S, m ∈ names rs) {m : Str} (h : Reach rs S m) : Reach rs' (S.map φ) (φ m) := by
  induction h with
  | base h => exact .base (List.mem_map.mpr ⟨_, h, rfl⟩)
  | step h1 h2 ih => exact .step ih (by rw [parts_ren R (reach_names R.T hS h1)]; exact List.mem_map.mpr ⟨_, h2, rfl⟩)
theorem reach_back (R : Ren rs rs' φ) {S : List Str} (hS : ∀ m ∈ S, m ∈ names rs) {x : Str} (h : Reach rs' (S.map φ) x) : ∃ m ∈ names rs, φ m = x ∧ Reach rs S m := by
  induction h with
  | base h => obtain ⟨m, hm, rfl⟩ := List.mem_map.mp h; exact ⟨m, hS m hm, rfl, .base hm⟩
  | step h1 h2 ih =>
    obtain ⟨m, hm, rfl, hr⟩ := ih
    rw [parts_ren R hm] at h2
    obtain ⟨q, hq, rfl⟩ := List.mem_map.mp h2
    exact ⟨q, parts_sub R.T hq, rfl, .step hr hq⟩
theorem reach_ren (R : Ren rs rs' φ) {S : List Str} (hS : ∀ m ∈ S, m ∈ names rs) {m : Str} (hm : m ∈ names rs) : Reach rs' (S.map φ) (φ m) ↔ Reach rs S m :=
  ⟨fun h => by
    obtain ⟨o, ho, e, hr⟩ := reach_back R hS h
    rw [← R.inj o ho m hm e]
    exact hr, reach_on R hS⟩
theorem reach1 (R : Ren rs rs' φ) {a b : Str} (ha : a ∈ names rs) (hb : b ∈ names rs) : Reach rs' [φ a] (φ b) ↔ Reach rs [a] b :=
  reach_ren R (S := [a]) (fun m hm => by rw [List.mem_singleton.mp hm]; exact ha) hb
theorem lot_ren (R : Ren rs rs' φ) {a b : Str} (ha : a ∈ names rs) (hb : b ∈ names rs) : φ b ∈ lotS rs' (φ a) ↔ b ∈ lotS rs a := by
  rw [mem_lotS, mem_lotS, reach1 R ha hb, reach1 R hb ha]
  exact ⟨fun h => ⟨hb, h.2⟩, fun h => ⟨R.on b hb, h.2⟩⟩
theorem things_ren (R : Ren rs rs' φ) {lot lot' : List Str} (hl : ∀ q ∈ names rs, φ q ∈ lot' ↔ q ∈ lot) {o : Str} (ho : o ∈ names rs) : things rs' lot' (φ o) = things rs lot o := by
  obtain ⟨z, e⟩ := gv_names ho
  have e' := R.law o z e
  cases z with
  | none =>
    unfold things lawP
    rw [e, e']
    rfl
  | some kvs =>
    obtain ⟨_, hk⟩ := tab_row R.T e kvs rfl
    obtain ⟨ls, rfl, nd, hls⟩ := hk.kvI
    rw [← things_row R.T e lot]
    rw [Option.map_some, kvM_kvI] at e'
    rw [← things_row R.T' e' lot']
    unfold mapH
    rw [List.filter_map, List.map_map]
    congr 1
    rw [show ((fun x : Str × Int => x.2) ∘ fun p : Str × Int => (φ p.1, p.2)) = (fun x : Str × Int => x.2) from rfl]
    congr 1
    refine List.filter_congr fun p hp => ?_
    exact decide_eq_decide.mpr (hl p.1 (hls p hp).1)
theorem top_mem : ∀ (ns : List Int) (n : Int), PV.top n ns ∈ n :: ns
  | [], n => List.mem_singleton.mpr rfl
  | k :: ns, n => by
    unfold PV.top
    have := top_mem ns (if k > n then k else n)
    rcases List.mem_cons.mp this with h | h
    · rw [h]
      split
      · exact List.mem_cons_of_mem _ List.mem_cons_self
      · exact List.mem_cons_self
    · exact List.mem_cons_of_mem _ (List.mem_cons_of_mem _ h)
theorem most_att (rs : Tab) {lot : List Str} (h : lot ≠ []) : ∃ o ∈ lot, mostL rs lot = things rs lot o := by
  unfold mostL
  cases lot with
  | nil => exact absurd rfl h
  | cons a lot =>
    rw [List.map_cons]
    have := top_mem (lot.map (things rs (a :: lot))) (things rs (a :: lot) a)
    rw [← List.map_cons] at this
    obtain ⟨o, ho, e⟩ := List.mem_map.mp this
    exact ⟨o, ho, e.symm⟩
theorem most_ren (R : Ren rs rs' φ) {m : Str} (hm : m ∈ names rs) : mostL rs' (lotS rs' (φ m)) = mostL rs (lotS rs m) := by
  have hl : ∀ q ∈ names rs, φ q ∈ lotS rs' (φ m) ↔ q ∈ lotS rs m := fun q hq => lot_ren R hm hq
  obtain ⟨o, ho, e⟩ := most_att rs (List.ne_nil_of_mem (lotS_self hm))
  obtain ⟨o', ho', e'⟩ := most_att rs' (List.ne_nil_of_mem (lotS_self (R.on m hm)))
  have on := (mem_lotS.mp ho).1
  obtain ⟨a, ha, rfl⟩ := R.sur o' (mem_lotS.mp ho').1
  have h1 : mostL rs' (lotS rs' (φ m)) ≤ mostL rs (lotS rs m) := by
    rw [e', things_ren R hl ha]
    exact things_le ((hl a ha).mp ho')
  have h2 : mostL rs (lotS rs m) ≤ mostL rs' (lotS rs' (φ m)) := by
    rw [e, ← things_ren R hl on]
    exact things_le ((hl o on).mpr ho)
  omega
theorem head_of {q : Str} (h : q ∈ names rs) : ∃ m ∈ names rs, lotS rs m = lotS rs q ∧ (lotS rs m).head? = some m ∧ m ∈ lotS rs q := by
  cases e : lotS rs q with
  | nil => have := lotS_self h; rw [e] at this; cases this
  | cons m l =>
    have hm : m ∈ lotS rs q := by rw [e]; exact List.mem_cons_self
    have := lotS_eq hm
    exact ⟨m, (mem_lotS.mp hm).1, by rw [this, e], by rw [this, e]; rfl, List.mem_cons_self⟩
theorem mem_firsts {m : Str} : m ∈ firstsL rs (names rs) ↔ m ∈ names rs ∧ mostL rs (lotS rs m) ≠ 0 ∧ (lotS rs m).head? = some m := by
  unfold firstsL
  rw [List.mem_filter, Bool.and_eq_true, decide_eq_true_eq, decide_eq_true_eq]
theorem cor_on (R : Ren rs rs' φ) {m : Str} (h : m ∈ firstsL rs (names rs)) : ∃ m' ∈ firstsL rs' (names rs'), φ m ∈ lotS rs' m' := by
  obtain ⟨h1, h2, h3⟩ := mem_firsts.mp h
  obtain ⟨m', g1, g2, g3, g4⟩ := head_of (R.on m h1)
  refine ⟨m', mem_firsts.mpr ⟨g1, ?_, g3⟩, by rw [g2]; exact lotS_self (R.on m h1)⟩
  rw [g2, most_ren R h1]
  exact h2
theorem cor_back (R : Ren rs rs' φ) {m' : Str} (h : m' ∈ firstsL rs' (names rs')) : ∃ m ∈ firstsL rs (names rs), φ m ∈ lotS rs' m' := by
  obtain ⟨h1, h2, h3⟩ := mem_firsts.mp h
  obtain ⟨a, ha, rfl⟩ := R.sur m' h1
  obtain ⟨m, g1, g2, g3, g4⟩ := head_of ha
  refine ⟨m, mem_firsts.mpr ⟨g1, ?_, g3⟩, (lot_ren R ha g1).mpr g4⟩
  rw [g2, ← most_ren R ha]
  exact h2
theorem lot_map (R : Ren rs rs' φ) {m m' : Str} (hm : m ∈ names rs) (h : φ m ∈ lotS rs' m') : ((lotS rs m).map φ).Perm (lotS rs' m') := by
  rw [← lotS_eq h]
  refine (List.perm_ext_iff_of_nodup ?_ (lotS_nd R.T')).mpr fun x => ?_
  · have nd := lotS_nd R.T (m := m)
    have inj : ∀ a ∈ lotS rs m, ∀ b ∈ lotS rs m, φ a = φ b → a = b := fun a ha b hb => R.inj a (mem_lotS.mp ha).1 b (mem_lotS.mp hb).1
    revert nd inj
    generalize lotS rs m = L
    intro nd inj
    exact List.pairwise_map.mpr (nd.imp_of_mem fun ha hb hne e => hne (inj _ ha _ hb e))
  · constructor
    · intro hx
      obtain ⟨a, ha, rfl⟩ := List.mem_map.mp hx
      exact (lot_ren R hm (mem_lotS.mp ha).1).mpr ha
    · intro hx
      obtain ⟨a, ha, rfl⟩ := R.sur x (mem_lotS.mp hx).1
      exact List.mem_map.mpr ⟨a, (lot_ren R hm ha).mp hx, rfl⟩
theorem firsts_nd (T : TabOk rs) : (firstsL rs (names rs)).Nodup := by unfold firstsL; exact T.nd.filter _
/-- the lots of both books, told by the names of the second, those that P and P' keep -/
theorem lots_perm (R : Ren rs rs' φ) {P P' : Str → Bool} (h : ∀ m ∈ firstsL rs (names rs), ∀ m' ∈ firstsL rs' (names rs'), φ m ∈ lotS rs' m' → P m = P' m') :
    (((firstsL rs (names rs)).filter P).map fun m => srS ((lotS rs m).map φ)).Perm (((firstsL rs' (names rs')).filter P').map fun m => srS ((lotS rs' m).map id)) := by
  have uniq : ∀ {A B : List Str}, srS A = srS B → A.Perm B := fun {A B} e => by
    unfold srS at e
    have e := D.lst.inj e
    have p : (A.map D.str).Perm (B.map D.str) := ((srt_perm _).symm.trans (by rw [e])).trans (srt_perm _)
    have : ∀ L : List Str, strsO (L.map D.str) = some L := strsO_map
    obtain ⟨C, e1, p1⟩ := unmap_str p
    have := strsO_map A
    rw [e1, strsO_map C] at this
    cases this
    exact p1
  have uq : ∀ {a b : Str}, a ∈ firstsL rs' (names rs') → b ∈ firstsL rs' (names rs') → (lotS rs' a).Perm (lotS rs' b) → a = b := fun {a b} ha hb p => by
    obtain ⟨a1, _, a3⟩ := mem_firsts.mp ha
    obtain ⟨b1, _, b3⟩ := mem_firsts.mp hb
    have : a ∈ lotS rs' b := p.mem_iff.mp (lotS_self a1)
    exact (lot_inj a3 b3).mp (lotS_eq this)
  refine (List.perm_ext_iff_of_nodup ?_ ?_).mpr fun x => ?_
  · refine List.pairwise_map.mpr (((firsts_nd R.T).filter P).imp_of_mem fun {a b} ha hb hne e => hne ?_)
    have ha := (List.mem_filter.mp ha).1
    have hb := (List.mem_filter.mp hb).1
    obtain ⟨a1, _, a3⟩ := mem_firsts.mp ha
    obtain ⟨b1, _, b3⟩ := mem_firsts.mp hb
    have p := uniq e
    have : φ a ∈ (lotS rs b).map φ := p.mem_iff.mp (List.mem_map.mpr ⟨a, lotS_self a1, rfl⟩)
    obtain ⟨c, hc, ec⟩ := List.mem_map.mp this
    have := R.inj c (mem_lotS.mp hc).1 a a1 ec
    subst this
    exact (lot_inj a3 b3).mp (lotS_eq hc)
  · refine List.pairwise_map.mpr (((firsts_nd R.T').filter P').imp_of_mem fun {a b} ha hb hne e => hne ?_)
    rw [List.map_id, List.map_id] at e
    exact uq (List.mem_filter.mp ha).1 (List.mem_filter.mp hb).1 (uniq e)
  · constructor
    · intro hx
      obtain ⟨m, hm, rfl⟩ := List.mem_map.mp hx
      obtain ⟨hm, hp⟩ := List.mem_filter.mp hm
      obtain ⟨m', hm', hc⟩ := cor_on R hm
      refine List.mem_map.mpr ⟨m', List.mem_filter.mpr ⟨hm', by rw [← h m hm m' hm' hc]; exact hp⟩, ?_⟩
      rw [List.map_id]
      exact (srS_perm (lot_map R (mem_firsts.mp hm).1 hc)).symm
    · intro hx
      obtain ⟨m', hm', rfl⟩ := List.mem_map.mp hx
      obtain ⟨hm', hp⟩ := List.mem_filter.mp hm'
      obtain ⟨m, hm, hc⟩ := cor_back R hm'
      refine List.mem_map.mpr ⟨m, List.mem_filter.mpr ⟨hm, by rw [h m hm m' hm' hc]; exact hp⟩, ?_⟩
      rw [List.map_id]
      exact srS_perm (lot_map R (mem_firsts.mp hm).1 hc)
theorem word_ren (R : Ren rs rs' φ) {m m' : Str} (hm : m ∈ names rs) (h : φ m ∈ lotS rs' m') : wordL rs (lotS rs m) = wordL rs' (lotS rs' m') := by
  rw [← lotS_eq h]
  unfold wordL
  rw [most_ren R hm]
theorem reach_lot' {a b : Str} {S : List Str} (h : a ∈ lotS rs b) : Reach rs S a ↔ Reach rs S b := by
  obtain ⟨_, h1, h2⟩ := mem_lotS.mp h
  exact ⟨fun z => reach_trans z h2, fun z => reach_trans z h1⟩
theorem comes_ren (R : Ren rs rs' φ) {S : List Str} (hS : ∀ m ∈ S, m ∈ names rs) {m m' : Str} (hm : m ∈ names rs) (hm' : m' ∈ names rs') (h : φ m ∈ lotS rs' m') : m ∈ reachL rs S ↔ m' ∈ reachL rs' (S.map φ) := by
  rw [reachL_mem, reachL_mem, ← reach_lot' h, reach_ren R hS hm]
  exact ⟨fun z => ⟨hm', z.2⟩, fun z => ⟨hm, z.2⟩⟩
theorem upper_ren (R : Ren rs rs' φ) {S : List Str} (hS : ∀ m ∈ S, m ∈ names rs) {m m' : Str} (hm : m ∈ firstsL rs (names rs)) (hm' : m' ∈ firstsL rs' (names rs')) (h : φ m ∈ lotS rs' m') :
    ((lotsF rs S).any fun o => decide (o ≠ m) && decide (m ∈ reachL rs [o])) = ((lotsF rs' (S.map φ)).any fun o => decide (o ≠ m') && decide (m' ∈ reachL rs' [o])) := by
  have mn := (mem_firsts.mp hm).1
  have mn' := (mem_firsts.mp hm').1
  rw [Bool.eq_iff_iff, List.any_eq_true, List.any_eq_true]
  have key : ∀ o o' : Str, o ∈ firstsL rs (names rs) → o' ∈ firstsL rs' (names rs') → φ o ∈ lotS rs' o' → ((o ∈ reachL rs S ∧ o ≠ m ∧ m ∈ reachL rs [o]) ↔ (o' ∈ reachL rs' (S.map φ) ∧ o' ≠ m' ∧ m' ∈ reachL rs' [o'])) := fun o o' ho ho' hc => by
    have on := (mem_firsts.mp ho).1
    have on' := (mem_firsts.mp ho').1
    rw [comes_ren R hS on on' hc]
    have e1 : o = m ↔ o' = m' := by
      constructor
      · rintro rfl
        exact (lot_inj (mem_firsts.mp ho').2.2 (mem_firsts.mp hm').2.2).mp ((lotS_eq hc).symm.trans (lotS_eq h))
      · rintro rfl
        have : φ o ∈ lotS rs' (φ m) := by rw [lotS_eq h]; exact hc
        exact (lot_inj (mem_firsts.mp ho).2.2 (mem_firsts.mp hm).2.2).mp (lotS_eq ((lot_ren R mn on).mp this))
    have e2 : m ∈ reachL rs [o] ↔ m' ∈ reachL rs' [o'] := by
      rw [comes_ren R (S := [o]) (fun x hx => by rw [List.mem_singleton.mp hx]; exact on) mn mn' h, List.map_singleton, reachL_mem, reachL_mem]
      obtain ⟨_, h1, h2⟩ := mem_lotS.mp hc
      exact ⟨fun z => ⟨z.1, reach_trans h1 z.2⟩, fun z => ⟨z.1, reach_trans h2 z.2⟩⟩
    rw [Ne, e1, e2]
  constructor
  · rintro ⟨o, ho, hb⟩
    rw [Bool.and_eq_true, decide_eq_true_eq, decide_eq_true_eq] at hb
    unfold lotsF at ho
    obtain ⟨ho, h3⟩ := List.mem_filter.mp ho
    obtain ⟨o', ho', hc⟩ := cor_on R ho
    have := (key o o' ho ho' hc).mp ⟨of_decide_eq_true h3, hb⟩
    exact ⟨o', by unfold lotsF; exact List.mem_filter.mpr ⟨ho', decide_eq_true this.1⟩, by rw [Bool.and_eq_true, decide_eq_true_eq, decide_eq_true_eq]; exact this.2⟩
  · rintro ⟨o', ho', hb⟩
    rw [Bool.and_eq_true, decide_eq_true_eq, decide_eq_true_eq] at hb
    unfold lotsF at ho'
    obtain ⟨ho', h3⟩ := List.mem_filter.mp ho'
    obtain ⟨o, ho, hc⟩ := cor_back R ho'
    have := (key o o' ho ho' hc).mpr ⟨of_decide_eq_true h3, hb⟩
    exact ⟨o, by unfold lotsF; exact List.mem_filter.mpr ⟨ho, decide_eq_true this.1⟩, by rw [Bool.and_eq_true, decide_eq_true_eq, decide_eq_true_eq]; exact this.2⟩
end
/-! ### small things -/
theorem idx_of : ∀ {L : List Str} {i : Nat} {m : Str}, L.Nodup → L[i]? = some m → L.idxOf m = i
  | [], i, m, _, h => by simp at h
  | x :: L, 0, m, _, h => by cases h; exact List.idxOf_cons_self
  | x :: L, i + 1, m, nd, h => by
    rw [List.getElem?_cons_succ] at h
    have hm := List.mem_of_getElem? h
    rw [List.nodup_cons] at nd
    rw [List.idxOf_cons, beq_eq_false_iff_ne.mpr (fun e => nd.1 (by rw [e]; exact hm)), cond_false, idx_of nd.2 h]
theorem lcL_enum {α : Type} {G : D → Option (Option D)} {e : α → D} : ∀ (xs : List α) (ys : List D) (n : Nat), ys.length = xs.length → (∀ i x y, xs[i]? = some x → ys[i]? = some y → G (.tup [.int ((n + i : Nat) : Int), e x]) = some (some y)) → lcL_ G (enumOf n (xs.map e)) = some ys
  | [], [], _, _, _ => rfl
  | [], _ :: _, _, h, _ => nomatch h
  | _ :: _, [], _, h, _ => nomatch h
  | x :: xs, y :: ys, n, hl, h => by
    rw [List.map_cons]
    unfold enumOf lcL_
    have h0 := h 0 x y rfl rfl
    rw [Nat.add_zero] at h0
    rw [h0]
    simp only [Option.bind_some]
    rw [lcL_enum xs ys (n + 1) (Nat.succ.inj hl) fun i a b h1 h2 => by
      have := h (i + 1) a b (by simpa using h1) (by simpa using h2)
      rw [show n + (i + 1) = n + 1 + i from by omega] at this
      exact this]
    rfl
theorem lcP_enum {α : Type} {G : D → Option (Option D)} {e : α → D} {xs : List α} {ys : List D} (hz : xs.length ≤ 1000000) (hl : ys.length = xs.length) (h : ∀ i x y, xs[i]? = some x → ys[i]? = some y → G (.tup [.int ((i : Nat) : Int), e x]) = some (some y)) : lcP G (enumOf 0 (xs.map e)) = some (.lst ys) := by
  unfold lcP
  rw [if_pos (by rw [enumOf_len, List.length_map]; unfold SZ; omega), lcL_enum xs ys 0 hl fun i x y h1 h2 => by rw [Nat.zero_add]; exact h i x y h1 h2]
  rfl
theorem pairs_of {α : Type} {k : α → Str} {v : α → D} : ∀ xs : List α, pairsOf (xs.map fun x => .tup [.str (k x), v x]) = some (xs.map fun x => ((Sum.inr (k x) : Key), v x))
  | [] => rfl
  | x :: xs => by
    rw [List.map_cons, List.map_cons]
    unfold pairsOf
    rw [pairs_of xs]
    rfl
theorem dict_of {α : Type} {k : α → Str} {v : α → D} (xs : List α) (nd : (xs.map k).Nodup) : oW (dDict (.lst (xs.map fun x => .tup [.str (k x), v x]))) = some (.dK (xs.map fun x => ((Sum.inr (k x) : Key), v x))) := by
  unfold dDict
  simp only [pairs_of, Option.map_some]
  rw [gm_nd (by
    rw [List.nil_append, List.map_map]
    have : ((fun p : Key × D => p.1) ∘ fun x => ((Sum.inr (k x) : Key), v x)) = (Sum.inr ∘ k) := rfl
    rw [this, ← List.map_map]
    exact inr_nd nd)]
  rfl
theorem ix_dict {L : List Str} {f : Str → D} {m : Str} (h : m ∈ L) : oA (dIx (.dK (L.map fun m => ((Sum.inr m : Key), f m))) (.str m)) = some (f m) := by
  unfold dIx
  simp only [keyOf, gv_mapS h]
  rfl
theorem hp_ks {ls : HP} (nd : (ksP ls).Nodup) : (ksP ls).map (fun q => (q, hv ls q)) = ls := by
  unfold ksP at nd ⊢
  rw [List.map_map]
  refine (List.map_congr_left fun p hp => ?_).trans (List.map_id ls)
  show (p.1, hv ls p.1) = p
  rw [hv_mem nd hp]
theorem eqB_strs {a b : Str} (ha : sok a = true) (hb : sok b = true) : oB (dEq (.str a) (.str b)) = some (decide (a = b)) := by
  have : dEqB (.str a) (.str b) = some (decide (a = b)) := by
    unfold dEqB
    simp only [pln, eqv, ha, hb, Bool.and_self, if_true]
    congr 1 <;> rw [Bool.eq_iff_iff, beq_iff_eq, decide_eq_true_eq]
  unfold dEq
  rw [this]
  rfl
theorem gv_in_tab {rs : Tab} {m : Str} {o : Option (List (Key × D))} (e : gv rs m = some o) : (m, o) ∈ rs := by
  unfold gv at e
  obtain ⟨r, hr, er⟩ := Option.map_eq_some_iff.mp e
  have h1 := List.mem_of_find?_eq_some hr
  have h2 := List.find?_some hr
  rw [decide_eq_true_eq] at h2
  rw [← er, ← h2]
  exact h1
/-! ### a book told by other names -/
def N14 : List Str := ["q", "qa", "a", "b", "rye", "barley", "xx", "yyyyyyyy", "lotus", "c", "cc", "oat", "zz", "m"]
theorem n14_all : (∀ m ∈ N14, m ∈ ALLN) ∧ N14.Nodup := by decide +kernel
def turnR (φ : Str → Str) (r : Str × Option (List (Key × D))) : Str × Option (List (Key × D)) := (φ r.1, r.2.map (kvM φ))
abbrev dF (L : List Str) (φ : Str → Str) : D := .dK (L.map fun m => ((Sum.inr m : Key), D.str (φ m)))
theorem map_heap {L : List Str} {φ : Str → Str} {ls : HP} (nd : (ksP ls).Nodup) (hs : ∀ q ∈ ksP ls, q ∈ L) (inj : ∀ m ∈ L, ∀ o ∈ L, φ m = φ o → m = o) (hl : ls.length ≤ 1000) :
    (itemsOf (.dK (kvI ls))).bind (fun ds => (lcP (fun d => (oA (dIx (dF L φ) d)).bind fun v => (oA (dIx (.dK (kvI ls)) d)).bind fun w => some (some (.tup [v, w]))) ds).bind fun r => (oW (dDict r)).bind fun v => some v) = some (.dK (kvI (mapH φ ls))) := by
  rw [items_kvI]
  simp only [Option.bind_some]
  rw [lcP_map (g := fun q => .tup [.str (φ q), .int (hv ls q)]) (by unfold ksP; rw [List.length_map]; omega) fun q hq => by
    rw [ix_dict (hs q hq), Option.bind_some, ix_kvI hq]
    rfl]
  simp only [Option.bind_some]
  rw [dict_of (k := φ) (v := fun q => .int (hv ls q)) _ (List.pairwise_map.mpr (nd.imp_of_mem fun {a b} ha hb hne e => hne (inj a (hs a ha) b (hs b hb) e)))]
  simp only [Option.bind_some]
  have e : kvI (mapH φ ls) = (ksP ls).map fun q => ((Sum.inr (φ q) : Key), D.int (hv ls q)) := by
    have : mapH φ ls = (ksP ls).map fun q => (φ q, hv ls q) := by
      rw [show mapH φ ls = mapH φ ((ksP ls).map fun q => (q, hv ls q)) from by rw [hp_ks nd]]
      unfold mapH
      rw [List.map_map]
      rfl
    rw [this]
    unfold kvI
    rw [List.map_map]
    rfl
  rw [e]
theorem F_turned {rs : Tab} {src : D} (T : TabOk rs) (hs : Src src) : Sat (F__law_turned_2 src (.lst (rs.map rowD))) fun r => Src r.2 ∧ ∃ rs' φ, r.1 = .tup [.lst (rs'.map rowD), dF (names rs) φ] ∧ Ren rs rs' φ := by
  have tl := T.len
  have nl : (names rs).length = rs.length := List.length_map ..
  unfold F__law_turned_2
  refine (F_mixedS (xs := N14) hs (by decide)).bnd fun v1 ⟨ys, hy, hs1, perm⟩ => ?_
  obtain ⟨x1, s1⟩ := v1
  simp only at hy hs1 ⊢
  subst hy
  have hyl : ys.length = 14 := perm.length_eq
  refine Sat.eq (show oA (dLen (.lst (rs.map rowD))) = some (.int ((rs.map rowD).length : Nat)) from rfl) ?_
  rw [List.length_map]
  refine Sat.eq (show oI (.int ((rs.length : Nat) : Int)) = some (rs.length : Int) from rfl) (Sat.eq (show oW (dSl (.lst (ys.map .str)) none (some (rs.length : Int))) = some (.lst (cut (ys.map D.str) none (some (rs.length : Int)))) from rfl) ?_)
  rw [cut_take, ← List.map_take]
  obtain ⟨ns, hns⟩ : ∃ ns, ns = ys.take rs.length := ⟨_, rfl⟩
  rw [← hns]
  have nsl : ns.length = rs.length := by rw [hns, List.length_take]; omega
  have nsn : ns.Nodup := by rw [hns]; exact (perm.nodup_iff.mpr n14_all.2).sublist (List.take_sublist _ _)
  have nsa : ∀ m ∈ ns, m ∈ ALLN := fun m hm => n14_all.1 m (perm.mem_iff.mp (by rw [hns] at hm; exact List.mem_of_mem_take hm))
  obtain ⟨φ, hφ⟩ : ∃ φ : Str → Str, ∀ (i : Nat) (m : Str), (names rs)[i]? = some m → ns[i]? = some (φ m) := ⟨fun m => (ns[(names rs).idxOf m]? : Option Str).getD ("" : Str), fun i m h => by
    show ns[i]? = some ((ns[(names rs).idxOf m]? : Option Str).getD ("" : Str))
    rw [idx_of T.nd h]
    have : i < ns.length := by rw [nsl, ← nl]; exact (List.getElem?_eq_some_iff.mp h).1
    rw [List.getElem?_eq_getElem this]
    rfl⟩
  have emap : (names rs).map φ = ns := by
    refine List.ext_getElem? fun i => ?_
    rw [List.getElem?_map]
    cases h : (names rs)[i]? with
    | none =>
      rw [List.getElem?_eq_none_iff] at h
      rw [List.getElem?_eq_none_iff.mpr (by omega)]
      rfl
    | some m => rw [hφ i m h]; rfl
  have inj : ∀ m ∈ names rs, ∀ o ∈ names rs, φ m = φ o → m = o := fun m hm o ho e => by
    obtain ⟨i, hi⟩ := List.getElem?_of_mem hm
    obtain ⟨j, hj⟩ := List.getElem?_of_mem ho
    have h1 := hφ i m hi
    have h2 := hφ j o hj
    rw [e] at h1
    have : i = j := by rw [← idx_of nsn h1, ← idx_of nsn h2]
    subst this
    rw [hi] at hj
    exact Option.some.inj hj
  refine Sat.eq (show oEnum (.lst (rs.map rowD)) = some (enumOf 0 (rs.map rowD)) from rfl) ?_
  refine Sat.eq (lcP_enum (ys := (names rs).map fun m => .tup [.str m, .str (φ m)]) (by omega) (by rw [List.length_map, nl]) fun i r y h1 h2 => by
    have hm : (names rs)[i]? = some r.1 := by unfold names; rw [List.getElem?_map, h1]; rfl
    rw [List.getElem?_map, hm] at h2
    cases h2
    have il : i < ns.length := by rw [nsl]; exact (List.getElem?_eq_some_iff.mp h1).1
    have e := hφ i r.1 hm
    rw [List.getElem?_eq_getElem il] at e
    simp only [show ∀ a b : D, t2 (.tup [a, b]) = some (a, b) from fun _ _ => rfl, Option.bind_some, row0, ixS il, Option.some.inj e]) ?_
  refine Sat.eq (dict_of (k := fun m => m) (v := fun m => .str (φ m)) _ (by rw [List.map_id']; exact T.nd)) ?_
  refine Sat.eq (show itemsOf (.lst (rs.map rowD)) = some (rs.map rowD) from rfl) ?_
  have rowF : ∀ r ∈ rs, ∀ (xs : List D), xs.length ≤ 100 → ((t2 (rowD r)).bind fun k18 =>
 (oB (dIsN k18.2)).bind fun c19 =>
 (cond c19 (some .non) ((itemsOf k18.2).bind fun ds20 =>
 (lcP (fun d21 => (oA (dIx (dF (names rs) φ) d21)).bind fun v22 =>
 (oA (dIx k18.2 d21)).bind fun v23 =>
 some (some (.tup [v22, v23]))) ds20).bind fun r25 =>
 (oW (dDict r25)).bind fun v27 =>
 some v27)).bind fun v28 =>
 (oL (.lst xs)).bind fun xs30 =>
 (oA (dIx (dF (names rs) φ) k18.1)).bind fun v31 =>
 (oC2 (cApp (.lst xs) (.tup [v31, v28]))).bind fun p32 =>
 some p32.1) = some (.lst (xs ++ [rowD (turnR φ r)])) := fun r hr xs hx => by
    have rn : r.1 ∈ names rs := List.mem_map.mpr ⟨r, hr, rfl⟩
    have its := T.its r hr
    obtain ⟨m, o⟩ := r
    rw [show t2 (rowD (m, o)) = some (.str m, itsD o) from rfl]
    simp only [Option.bind_some]
    cases o with
    | none =>
      rw [show oB (dIsN (itsD none)) = some true from rfl]
      simp only [Option.bind_some, cond_true, show oL (.lst xs) = some xs from rfl]
      rw [ix_dict rn, Option.bind_some, app_L (by omega)]
      rfl
    | some kvs =>
      obtain ⟨_, hk⟩ := its kvs rfl
      obtain ⟨ls, rfl, nd, hls⟩ := hk.kvI
      have sub : ∀ q ∈ ksP ls, q ∈ names rs := fun q hq => by
        obtain ⟨p, hp, rfl⟩ := List.mem_map.mp hq
        exact (hls p hp).1
      have ll : ls.length ≤ 12 := by
        have := Nat.le_trans (nodup_len nd sub) (names_rs_len T)
        unfold ksP at this
        rwa [List.length_map] at this
      rw [show oB (dIsN (itsD (some (kvI ls)))) = some false from rfl]
      have := map_heap (L := names rs) (φ := φ) nd sub inj (by omega)
      simp only [Option.bind_some, cond_false, show itsD (some (kvI ls)) = .dK (kvI ls) from rfl]
      rw [this]
      simp only [Option.bind_some, show oL (.lst xs) = some xs from rfl]
      rw [ix_dict rn, Option.bind_some, app_L (by omega)]
      simp only [Option.bind_some]
      unfold turnR rowD
      rw [Option.map_some, kvM_kvI]
      rfl
  refine Sat.bnd (Q := fun p => p = .lst ((rs.map (turnR φ)).map rowD)) ?_ fun p33 e33 => ?_
  · refine (forF_inv (fun i a => a = .lst (((rs.take i).map (turnR φ)).map rowD)) (by simp) fun i d a hd ha => ?_).mono fun a ha => by rw [List.length_map, List.take_length] at ha; exact ha
    subst ha
    rw [List.getElem?_map] at hd
    obtain ⟨r, hr, rfl⟩ := Option.map_eq_some_iff.mp hd
    have := rowF r (List.mem_of_getElem? hr) (((rs.take i).map (turnR φ)).map rowD) (by rw [List.length_map, List.length_map, List.length_take]; omega)
    refine ⟨_, this, ?_⟩
    rw [List.take_add_one, hr]
    simp
  subst e33
  refine (F_mixed hs1 (by rw [List.length_map, List.length_map]; omega)).bnd fun v35 ⟨zs, hz, hs2, p2⟩ => ?_
  obtain ⟨x35, s35⟩ := v35
  simp only at hz hs2 ⊢
  subst hz
  obtain ⟨rs', rfl, pr⟩ := unmap_row p2
  refine Sat.of ⟨hs2, rs', φ, rfl, ?_⟩
  have en : names (rs.map (turnR φ)) = (names rs).map φ := by unfold names; rw [List.map_map, List.map_map]; rfl
  have pn : (names rs').Perm ((names rs).map φ) := by rw [← en]; exact pr.map _
  have pm : ∀ q, q ∈ names rs' ↔ q ∈ (names rs).map φ := fun q => pn.mem_iff
  have T' : TabOk rs' := by
    refine ⟨fun z => ?_, ?_, ?_, fun m hm => ?_, fun r hr => ?_⟩
    · have := pr.length_eq
      rw [z, List.length_map] at this
      exact T.ne (List.length_eq_zero_iff.mp this.symm)
    · rw [pr.length_eq, List.length_map]; exact tl
    · rw [pn.nodup_iff, emap]; exact nsn
    · rw [pm, emap] at hm; exact nsa m hm
    · obtain ⟨r0, h0, rfl⟩ := List.mem_map.mp (pr.mem_iff.mp hr)
      intro kvs e
      obtain ⟨kvs0, e0, rfl⟩ := Option.map_eq_some_iff.mp (show r0.2.map (kvM φ) = some kvs from e)
      obtain ⟨hne, hk⟩ := T.its r0 h0 kvs0 e0
      obtain ⟨ls, rfl, nd, hls⟩ := hk.kvI
      rw [kvM_kvI]
      refine ⟨fun z => hne ?_, kvI_ok ?_ fun p hp => ?_⟩
      · unfold kvI mapH at z
        rw [List.map_eq_nil_iff, List.map_eq_nil_iff] at z
        rw [z]; rfl
      · show (ksP (mapH φ ls)).Nodup
        rw [ks_mapH]
        exact List.pairwise_map.mpr (nd.imp_of_mem fun {a b} ha hb hne e => hne (inj a (by obtain ⟨p, hp, rfl⟩ := List.mem_map.mp ha; exact (hls p hp).1) b (by obtain ⟨p, hp, rfl⟩ := List.mem_map.mp hb; exact (hls p hp).1) e))
      · obtain ⟨p0, hp0, rfl⟩ := List.mem_map.mp hp
        exact ⟨(pm _).mpr (List.mem_map.mpr ⟨p0.1, (hls p0 hp0).1, rfl⟩), (hls p0 hp0).2⟩
  refine ⟨T, T', fun m hm => (pm _).mpr (List.mem_map.mpr ⟨m, hm, rfl⟩), fun q hq => ?_, inj, fun m o e => ?_⟩
  · obtain ⟨m, hm, rfl⟩ := List.mem_map.mp ((pm q).mp hq)
    exact ⟨m, hm, rfl⟩
  · exact gv_row T'.nd (r := turnR φ (m, o)) (pr.mem_iff.mpr (List.mem_map.mpr ⟨_, gv_in_tab e, rfl⟩))
/-! ### the order of lots -/
theorem idx_pw {L : List Str} (nd : L.Nodup) : L.Pairwise fun a b => L.idxOf a < L.idxOf b := by
  rw [List.pairwise_iff_getElem]
  intro i j hi hj hij
  rw [idx_of nd (List.getElem?_eq_getElem hi), idx_of nd (List.getElem?_eq_getElem hj)]
  exact hij
theorem low_le : ∀ (ns : List Int) (n : Int), (∀ k ∈ ns, n ≤ k) → PV.low n ns = n
  | [], _, _ => rfl
  | k :: ns, n, h => by
    unfold PV.low
    rw [if_neg (by have := h k List.mem_cons_self; omega)]
    exact low_le ns n fun x hx => h x (List.mem_cons_of_mem _ hx)
theorem min_lot {rs : Tab} (T : TabOk rs) {m : Str} (h : (lotS rs m).head? = some m) : oA (dMin (.lst ((lotS rs m).map fun q => .int ((names rs).idxOf q : Nat)))) = some (.int ((names rs).idxOf m : Nat)) := by
  have pw : (lotS rs m).Pairwise fun a b => (names rs).idxOf a < (names rs).idxOf b := by unfold lotS; exact (idx_pw T.nd).filter _
  cases e : lotS rs m with
  | nil => rw [e] at h; cases h
  | cons a l =>
    rw [e] at h pw
    cases h
    rw [List.pairwise_cons] at pw
    have ei : intsOf ((m :: l).map fun q => D.int ((names rs).idxOf q : Nat)) = some ((m :: l).map fun q => (((names rs).idxOf q : Nat) : Int)) := by
      have := intsOf_map ((m :: l).map fun q => (((names rs).idxOf q : Nat) : Int))
      rw [List.map_map] at this
      exact this
    unfold dMin
    simp only [ei]
    rw [List.map_cons]
    show oA (some (fi (PV.low _ _))) = _
    rw [low_le _ _ fun k hk => by
      obtain ⟨q, hq, rfl⟩ := List.mem_map.mp hk
      have := pw.1 q hq
      omega]
    rfl
theorem leD_int {i j : Int} (h : i ≤ j) : leD (.int i) (.int j) = true := by
  rw [leD_eq]
  unfold toR
  rw [PySem.W.dataLt_int, decide_eq_false (by omega)]
  rfl
theorem okD_ints (ns : List Int) : okD (ns.map D.int) = true := by
  unfold okD
  rw [Bool.and_eq_true, Bool.and_eq_true, List.all_eq_true, List.all_eq_true, Bool.or_eq_true, List.all_eq_true, List.all_eq_true]
  refine ⟨⟨fun d hd => ?_, fun d hd => List.all_eq_true.mpr fun e he => ?_⟩, .inr fun d hd => ?_⟩
  · obtain ⟨x, hx, rfl⟩ := List.mem_map.mp hd; rfl
  · obtain ⟨x, hx, rfl⟩ := List.mem_map.mp hd
    obtain ⟨y, hy, rfl⟩ := List.mem_map.mp he
    unfold toR PySem.W.alike; rfl
  · obtain ⟨x, hx, rfl⟩ := List.mem_map.mp hd; rfl
theorem sort_firsts {rs : Tab} (T : TabOk rs) : oW (dSortedG (.lst ((firstsL rs (names rs)).map fun m => .int ((names rs).idxOf m : Nat)))) = some (.lst ((firstsL rs (names rs)).map fun m => .int ((names rs).idxOf m : Nat))) := by
  have pw : (firstsL rs (names rs)).Pairwise fun a b => (names rs).idxOf a < (names rs).idxOf b := by unfold firstsL; exact (idx_pw T.nd).filter _
  have fl := firsts_len T
  unfold dSortedG
  simp only
  have e : ((firstsL rs (names rs)).map fun m => D.int ((names rs).idxOf m : Nat)) = ((firstsL rs (names rs)).map fun m => (((names rs).idxOf m : Nat) : Int)).map D.int := by rw [List.map_map]; rfl
  rw [if_pos ⟨by rw [e]; exact okD_ints _, by rw [List.length_map]; unfold SZ; omega⟩]
  have e3 : ((firstsL rs (names rs)).map fun m => D.int ((names rs).idxOf m : Nat)).mergeSort leD = (firstsL rs (names rs)).map fun m => D.int ((names rs).idxOf m : Nat) := List.mergeSort_of_pairwise (List.pairwise_map.mpr (pw.imp fun {a b} h => leD_int (by omega)))
  rw [e3]
  rfl
theorem ints_pln (n : Nat) : ∀ ns : List Int, plnL n (ns.map D.int) = true
  | [] => rfl
  | i :: ns => by
    rw [List.map_cons]
    unfold plnL
    rw [ints_pln n ns]
    unfold pln
    rfl
theorem idx_str {L : List Str} {m : Str} (h : m ∈ L) : oA (dIdx (.lst (L.map .str)) (.str m)) = some (.int (L.idxOf m : Nat)) := by
  have e : strsOf (L.map D.str) = some L := by
    induction L with
    | nil => rfl
    | cons x L ih =>
      rw [List.map_cons]
      unfold strsOf
      have : ∀ L : List Str, strsOf (L.map D.str) = some L := fun L => by
        induction L with
        | nil => rfl
        | cons x L ih => rw [List.map_cons]; unfold strsOf; rw [ih]; rfl
      rw [this L]
      rfl
  unfold dIdx
  simp only [e, Option.bind_some, if_pos h]
  rfl
/-! ### the law -/
theorem words_sok : ∀ w ∈ (["ring", "grows"] : List Str), sok w = true := by decide +kernel
theorem word_sok (rs : Tab) (l : List Str) : sok (wordL rs l) = true := by
  unfold wordL
  split
  · exact words_sok _ (by simp)
  · exact words_sok _ (by simp)
theorem plainF (ns : List Int) (hl : ns.length ≤ 63) : F_law (.scr ns) = some (.bl true) := by
  refine Sat.val ?_
  unfold F_law
  refine (F_cell ns hl).bnd fun v ⟨n, hn⟩ => ?_
  subst hn
  have hlc : (cut ns (some 1) (some 5)).length ≤ 63 := by unfold cut; rw [List.length_take, List.length_drop]; omega
  have e1 : oW (dSl (.scr ns) (some 1) (some 5)) = some (.lst ((cut ns (some 1) (some 5)).map .int)) := rfl
  have e2 : oA (dAdd (.lst [.int n]) (.lst ((cut ns (some 1) (some 5)).map .int))) = some (.lst ((n :: cut ns (some 1) (some 5)).map .int)) := by
    show oA (if _ then _ else _) = _
    rw [if_pos (by simp only [List.length_map, List.length_singleton, SZ]; omega)]
    rfl
  refine Sat.eq rfl (Sat.eq rfl (Sat.eq e1 (Sat.eq e2 (Sat.eq rfl ?_))))
  refine exB_sat (J := fun _ => True) (forX_all _ trivial fun d hd b _ => ?_) fun b _ => Sat.of rfl
  obtain ⟨c, _, rfl⟩ := List.mem_map.mp hd
  refine (F_source c).bnd fun s0 hs => ?_
  refine (F_twelve hs).bnd fun v ⟨rs, h1, hs1, T⟩ => ?_
  obtain ⟨v, s1⟩ := v
  simp only at h1 hs1 ⊢
  subst h1
  refine (F_turned T hs1).bnd fun v ⟨hs2, rs', φ, h2, R⟩ => ?_
  obtain ⟨v, s2⟩ := v
  simp only at h2 hs2 ⊢
  subst h2
  have T' := R.T'
  have tl := T.len
  have tl' := T'.len
  have nl := names_rs_len T
  have nl' := names_rs_len T'
  refine Sat.eq (show t2 (.tup [_, _]) = some (_, _) from rfl) (Sat.eq (show itemsOf (.lst (rs'.map rowD)) = some (rs'.map rowD) from rfl) ?_)
  refine Sat.eq (lcP_map (g := fun r : Str × Option (List (Key × D)) => .tup [.str r.1, .str r.1]) (by omega) fun r _ => by
    rw [show t2 (rowD r) = some (.str r.1, itsD r.2) from rfl]; rfl) ?_
  refine Sat.eq (show oW (dDict (.lst (rs'.map fun r => .tup [.str r.1, .str r.1]))) = some (dF (names rs') id) from by
    rw [dict_of (k := fun r : Str × Option (List (Key × D)) => r.1) (v := fun r => .str r.1) rs' T'.nd]
    show some (D.dK (rs'.map fun x => ((Sum.inr x.1 : Key), D.str x.1))) = some (D.dK ((rs'.map fun x => x.1).map fun m => ((Sum.inr m : Key), D.str (id m))))
    rw [List.map_map]
    rfl) ?_
  refine (F_book T).bnd fun B ⟨rw_, hb⟩ => ?_
  subst hb
  refine (F_book T').bnd fun B' ⟨rw', hb⟩ => ?_
  subst hb
  have fl := firsts_len T
  have fl' := firsts_len T'
  have sL : ∀ m, ∀ q ∈ lotS rs m, q ∈ names rs := fun m q hq => (mem_lotS.mp hq).1
  have sL' : ∀ m, ∀ q ∈ lotS rs' m, q ∈ names rs' := fun m q hq => (mem_lotS.mp hq).1
  have sk' : ∀ q ∈ names rs', sok q = true := fun q hq => nameS q (T'.good q hq)
  -- the sets of both
  have SS : ∀ (P P' : Str → Bool), (∀ m ∈ firstsL rs (names rs), ∀ m' ∈ firstsL rs' (names rs'), φ m ∈ lotS rs' m' → P m = P' m') → ∃ v, F__law_sets (.lst (((firstsL rs (names rs)).filter P).map (lotT rs))) (dF (names rs) φ) = some v ∧ F__law_sets (.lst (((firstsL rs' (names rs')).filter P').map (lotT rs'))) (dF (names rs') id) = some v ∧ oB (dNe v v) = some false := fun P P' h => by
    have l1 : ((firstsL rs (names rs)).filter P).length ≤ 12 := Nat.le_trans (List.length_filter_le _ _) fl
    have l2 : ((firstsL rs' (names rs')).filter P').length ≤ 12 := Nat.le_trans (List.length_filter_le _ _) fl'
    have a1 := F_sets (xs := (firstsL rs (names rs)).filter P) (e := lotT rs) (g := lotS rs) (φ := φ) (V := dF (names rs) φ) (fun m _ q hq => ix_dict (sL m q hq)) (fun m _ => rfl) (by omega) (fun m _ => by have := lotS_len T (m := m); omega) fun m _ q hq => sk' _ (R.on q (sL m q hq))
    have a2 := F_sets (xs := (firstsL rs' (names rs')).filter P') (e := lotT rs') (g := lotS rs') (φ := id) (V := dF (names rs') id) (fun m _ q hq => ix_dict (f := fun m => D.str (id m)) (sL' m q hq)) (fun m _ => rfl) (by omega) (fun m _ => by have := lotS_len T' (m := m); omega) fun m _ q hq => sk' _ (sL' m q hq)
    have row : ∀ d ∈ ((firstsL rs (names rs)).filter P).map fun m => srS ((lotS rs m).map φ), IsRow d := fun d hd => by
      obtain ⟨m, _, rfl⟩ := List.mem_map.mp hd
      refine srS_isRow fun q hq => ?_
      obtain ⟨a, ha, rfl⟩ := List.mem_map.mp hq
      exact sk' _ (R.on a (sL m a ha))
    refine ⟨_, a1, ?_, ne_rows row⟩
    rw [a2, srt_rows row (lots_perm R h)]
  refine Sat.eq (show itemsOf (.lst [(.str "ring"), (.str "grows")]) = some ((["ring", "grows"] : List Str).map D.str) from rfl) ?_
  refine exB_sat (J := fun _ => True) (forX_all _ trivial fun d hd b _ => ?_) fun b _ => ?_
  · obtain ⟨w, hw, rfl⟩ := List.mem_map.mp hd
    have ws := words_sok w hw
    obtain ⟨v, v1, v2, v3⟩ := SS (fun m => decide (wordL rs (lotS rs m) = w)) (fun m => decide (wordL rs' (lotS rs' m) = w)) fun m hm m' hm' hc => by rw [word_ren R (mem_firsts.mp hm).1 hc]
    refine Sat.eq (F_lots_ok T) (Sat.eq (show itemsOf (.lst _) = some _ from rfl) ?_)
    refine Sat.eq (lcP_filter (g := lotT rs) (t := fun m => decide (wordL rs (lotS rs m) = w)) (by omega) fun m _ => by
      rw [show t2 (lotD rs m) = some (lotT rs m, .str (wordL rs (lotS rs m))) from rfl]
      simp only [Option.bind_some, eqB_strs (word_sok rs (lotS rs m)) ws]
      by_cases z : wordL rs (lotS rs m) = w
      · rw [decide_eq_true z]; rfl
      · rw [decide_eq_false z]; rfl) (Sat.eq v1 ?_)
    refine Sat.eq (F_lots_ok T') (Sat.eq (show itemsOf (.lst _) = some _ from rfl) ?_)
    refine Sat.eq (lcP_filter (g := lotT rs') (t := fun m => decide (wordL rs' (lotS rs' m) = w)) (by omega) fun m _ => by
      rw [show t2 (lotD rs' m) = some (lotT rs' m, .str (wordL rs' (lotS rs' m))) from rfl]
      simp only [Option.bind_some, eqB_strs (word_sok rs' (lotS rs' m)) ws]
      by_cases z : wordL rs' (lotS rs' m) = w
      · rw [decide_eq_true z]; rfl
      · rw [decide_eq_false z]; rfl) (Sat.eq v2 (Sat.eq v3 (Sat.ff (Sat.of trivial))))
  · refine Sat.eq (show itemsOf (.lst (rs'.map rowD)) = some (rs'.map rowD) from rfl) ?_
    refine Sat.eq (show _ = some (D.lst ((names rs').map .str)) from by
      rw [lcP_map (g := fun r : Str × Option (List (Key × D)) => .str r.1) (by omega) fun r _ => by rw [show t2 (rowD r) = some (.str r.1, itsD r.2) from rfl]; rfl]
      unfold names
      rw [List.map_map]
      rfl) ?_
    refine Sat.eq (F_lots_ok T') (Sat.eq (show itemsOf (.lst _) = some _ from rfl) ?_)
    refine Sat.eq (lcP_map (g := fun m => .int ((names rs').idxOf m : Nat)) (by omega) fun m hm => by
      rw [show t2 (lotD rs' m) = some (lotT rs' m, .str (wordL rs' (lotS rs' m))) from rfl]
      simp only [Option.bind_some, show itemsOf (lotT rs' m) = some ((lotS rs' m).map .str) from rfl]
      rw [lcP_map (g := fun q => .int ((names rs').idxOf q : Nat)) (by have := lotS_len T' (m := m); omega) fun q hq => by
        rw [show oL (.lst ((names rs').map D.str)) = some ((names rs').map D.str) from rfl, Option.bind_some, idx_str (sL' m q hq)]
        rfl]
      simp only [Option.bind_some]
      rw [min_lot T' (mem_firsts.mp hm).2.2]
      rfl) (Sat.eq (sort_firsts T') (Sat.eq (ne_same (by
        unfold pln
        have := ints_pln 59 ((firstsL rs' (names rs')).map fun m => (((names rs').idxOf m : Nat) : Int))
        rw [List.map_map] at this
        exact this)) (Sat.ff ?_)))
    refine Sat.eq (show oRng1 (.int 3) = some (rngOf 0 3) from rfl) ?_
    refine exB_sat (J := Src) (forX_all _ hs2 fun d hd s hs => ?_) fun b _ => Sat.of trivial
    refine (F_heap2B hs T.ne (by omega)).bnd fun v ⟨kvs, h1, hs3, hk, _⟩ => ?_
    obtain ⟨x, s3⟩ := v
    simp only at h1 hs3 ⊢
    subst h1
    obtain ⟨ps, rfl, A, _⟩ := heapB hk
    have al := A.len T
    have BN : F__law_by_names_c (.dK (kvI ps)) (dF (names rs) φ) = some (.dK (kvI (mapH φ ps))) := by
      unfold F__law_by_names_c
      exact map_heap A.nd A.sub R.inj (by omega)
    have hS : ∀ m ∈ ksP ps, m ∈ names rs := A.sub
    have A' : DictOk (names rs') (1 ≤ ·) (kvI (mapH φ ps)) := by
      refine kvI_ok ?_ fun p hp => ?_
      · show (ksP (mapH φ ps)).Nodup
        rw [ks_mapH]
        exact List.pairwise_map.mpr (A.nd.imp_of_mem fun {a b} ha hb hne e => hne (R.inj a (hS a ha) b (hS b hb) e))
      · obtain ⟨p0, h0, rfl⟩ := List.mem_map.mp hp
        have k0 : p0.1 ∈ ksP ps := List.mem_map.mpr ⟨p0, h0, rfl⟩
        refine ⟨R.on _ (hS _ k0), ?_⟩
        have := A.pos _ k0
        rw [hv_mem A.nd h0] at this
        exact this
    have ks' : keysS (kvI (mapH φ ps)) = (ksP ps).map φ := by rw [ksP_kvI, ks_mapH]
    have ks0 : keysS (kvI ps) = ksP ps := ksP_kvI
    refine Sat.eq BN (Sat.eq (F_reached_ok T (fun i h => h) A.dict) (Sat.eq (show itemsOf (.lst _) = some _ from rfl) ?_))
    rw [ks0]
    have rl := reachL_len T (S := ksP ps)
    have rl' := reachL_len T' (S := (ksP ps).map φ)
    have rn : ∀ q ∈ reachL rs (ksP ps), q ∈ names rs := fun q hq => (reachL_mem.mp hq).1
    have rn' : ∀ q ∈ reachL rs' ((ksP ps).map φ), q ∈ names rs' := fun q hq => (reachL_mem.mp hq).1
    have skm : ∀ q ∈ (reachL rs (ksP ps)).map φ, sok q = true := fun q hq => by
      obtain ⟨a, ha, rfl⟩ := List.mem_map.mp hq
      exact sk' _ (R.on a (rn a ha))
    refine Sat.eq (show _ = some (D.lst (((reachL rs (ksP ps)).map φ).map .str)) from by
      rw [lcP_map (g := fun q => .str (φ q)) (by omega) fun q hq => by rw [ix_dict (rn q hq)]; rfl, List.map_map]
      rfl) (Sat.eq (sort_strs skm (by rw [List.length_map]; omega)) (Sat.eq (F_reached_ok T' (fun i h => h) A') ?_))
    rw [ks']
    refine Sat.eq (sort_strs (fun q hq => sk' q (rn' q hq)) (by omega)) (Sat.eq (ne_srS ?_ skm) (Sat.ff ?_))
    · refine (List.perm_ext_iff_of_nodup ?_ (reachL_nd T')).mpr fun x => ?_
      · exact List.pairwise_map.mpr ((reachL_nd T).imp_of_mem fun {a b} ha hb hne e => hne (R.inj a (rn a ha) b (rn b hb) e))
      · constructor
        · intro hx
          obtain ⟨a, ha, rfl⟩ := List.mem_map.mp hx
          exact reachL_mem.mpr ⟨R.on a (rn a ha), reach_on R hS (reachL_mem.mp ha).2⟩
        · intro hx
          obtain ⟨a, ha, rfl, hr⟩ := reach_back R hS (reachL_mem.mp hx).2
          exact List.mem_map.mpr ⟨a, reachL_mem.mpr ⟨ha, hr⟩, rfl⟩
    · obtain ⟨v, v1, v2, v3⟩ := SS (fun m => decide (m ∈ reachL rs (ksP ps))) (fun m => decide (m ∈ reachL rs' ((ksP ps).map φ))) fun m hm m' hm' hc => decide_eq_decide.mpr (comes_ren R hS (mem_firsts.mp hm).1 (mem_firsts.mp hm').1 hc)
      obtain ⟨u, u1, u2, u3⟩ := SS (fun m => decide (m ∈ reachL rs (ksP ps)) && !((lotsF rs (ksP ps)).any fun o => decide (o ≠ m) && decide (m ∈ reachL rs [o]))) (fun m => decide (m ∈ reachL rs' ((ksP ps).map φ)) && !((lotsF rs' ((ksP ps).map φ)).any fun o => decide (o ≠ m) && decide (m ∈ reachL rs' [o]))) fun m hm m' hm' hc => by
        rw [upper_ren R hS hm hm' hc, decide_eq_decide.mpr (comes_ren R hS (mem_firsts.mp hm).1 (mem_firsts.mp hm').1 hc)]
      have up : ∀ (rs : Tab) (S : List Str), upperF rs S = (firstsL rs (names rs)).filter fun m => decide (m ∈ reachL rs S) && !((lotsF rs S).any fun o => decide (o ≠ m) && decide (m ∈ reachL rs [o])) := fun rs S => by
        unfold upperF
        rw [show ((lotsF rs S).filter fun m => !(lotsF rs S).any fun o => decide (o ≠ m) && decide (m ∈ reachL rs [o])) = (((firstsL rs (names rs)).filter fun m => decide (m ∈ reachL rs S)).filter fun m => !(lotsF rs S).any fun o => decide (o ≠ m) && decide (m ∈ reachL rs [o])) from rfl, List.filter_filter]
        refine List.filter_congr fun m _ => ?_
        rw [Bool.and_comm]
      refine Sat.eq (F_comes_ok T (fun i h => h) A.dict) ?_
      rw [ks0]
      refine Sat.eq v1 (Sat.eq (F_comes_ok T' (fun i h => h) A') ?_)
      rw [ks']
      refine Sat.eq v2 (Sat.eq v3 (Sat.ff (Sat.eq (F_upper_ok T (fun i h => h) A.dict) ?_)))
      rw [ks0, up]
      refine Sat.eq u1 (Sat.eq (F_upper_ok T' (fun i h => h) A') ?_)
      rw [ks', up]
      exact Sat.eq u2 (Sat.eq u3 (Sat.ff (Sat.of hs3)))
theorem plain (ns : List Int) (hl : ns.length ≤ 63) : f_law [.scr ns] = some (.fz (.bl true), [.non]) := sim_law (plainF ns hl)
end Wk
namespace Wk
open PySem PySem.Spec PyProof.Rows L2 PV
/-! ### what the top has written -/
set_option maxHeartbeats 4000000 in
structure Tx (K : PySem.W.Frag) (mg : Str → Option Value) where
  a__law_cell_at : Addr
  d__law_cell_at : FuncData
  F__law_cell_at : Fun K "_law_cell_at" "_law_cell_at" s__law_cell_at a__law_cell_at d__law_cell_at
  b__law_cell_at : Binds K d__law_cell_at ["_law_script", "_law_k"] []
  m__law_cell_at : mg "_law_cell_at" = some (.ref a__law_cell_at)
  a__law_source_of : Addr
  d__law_source_of : FuncData
  F__law_source_of : Fun K "_law_source_of" "_law_source_of" s__law_source_of a__law_source_of d__law_source_of
  b__law_source_of : Binds K d__law_source_of ["_law_cell"] []
  m__law_source_of : mg "_law_source_of" = some (.ref a__law_source_of)
  a__law_next : Addr
  d__law_next : FuncData
  F__law_next : Fun K "_law_next" "_law_next" s__law_next a__law_next d__law_next
  b__law_next : Binds K d__law_next ["_law_source", "_law_many"] []
  m__law_next : mg "_law_next" = some (.ref a__law_next)
  a__law_mixed : Addr
  d__law_mixed : FuncData
  F__law_mixed : Fun K "_law_mixed" "_law_mixed" s__law_mixed a__law_mixed d__law_mixed
  b__law_mixed : Binds K d__law_mixed ["_law_source", "_law_some"] []
  m__law_mixed : mg "_law_mixed" = some (.ref a__law_mixed)
  a__law_one : Addr
  d__law_one : FuncData
  F__law_one : Fun K "_law_one" "_law_one" s__law_one a__law_one d__law_one
  b__law_one : Binds K d__law_one ["_law_source", "_law_some"] []
  m__law_one : mg "_law_one" = some (.ref a__law_one)
  a__law_twelve : Addr
  d__law_twelve : FuncData
  F__law_twelve : Fun K "_law_twelve" "_law_twelve" s__law_twelve a__law_twelve d__law_twelve
  b__law_twelve : Binds K d__law_twelve ["_law_source"] []
  m__law_twelve : mg "_law_twelve" = some (.ref a__law_twelve)
  a__law_turned_2 : Addr
  d__law_turned_2 : FuncData
  F__law_turned_2 : Fun K "_law_turned" "_law_turned" s__law_turned_2 a__law_turned_2 d__law_turned_2
  b__law_turned_2 : Binds K d__law_turned_2 ["_law_source", "_law_rows"] []
  m__law_turned_2 : mg "_law_turned" = some (.ref a__law_turned_2)
  a_is_row : Addr
  d_is_row : FuncData
  F_is_row : Fun K "is_row" "is_row" s_is_row a_is_row d_is_row
  b_is_row : Binds K d_is_row ["thing"] []
  m_is_row : mg "is_row" = some (.ref a_is_row)
  a_is_name : Addr
  d_is_name : FuncData
  F_is_name : Fun K "is_name" "is_name" s_is_name a_is_name d_is_name
  b_is_name : Binds K d_is_name ["thing"] []
  m_is_name : mg "is_name" = some (.ref a_is_name)
  a_row_amiss : Addr
  d_row_amiss : FuncData
  F_row_amiss : Fun K "row_amiss" "row_amiss" s_row_amiss a_row_amiss d_row_amiss
  b_row_amiss : Binds K d_row_amiss ["row", "known"] []
  m_row_amiss : mg "row_amiss" = some (.ref a_row_amiss)
  a_is_whole : Addr
  d_is_whole : FuncData
  F_is_whole : Fun K "is_whole" "is_whole" s_is_whole a_is_whole d_is_whole
  b_is_whole : Binds K d_is_whole ["thing", "least"] []
  m_is_whole : mg "is_whole" = some (.ref a_is_whole)
  a_look_heap : Addr
  d_look_heap : FuncData
  F_look_heap : Fun K "look_heap" "look_heap" s_look_heap a_look_heap d_look_heap
  b_look_heap : Binds K d_look_heap ["heap"] []
  m_look_heap : mg "look_heap" = some (.ref a_look_heap)
  a_is_heap : Addr
  d_is_heap : FuncData
  F_is_heap : Fun K "is_heap" "is_heap" s_is_heap a_is_heap d_is_heap
  b_is_heap : Binds K d_is_heap ["thing"] []
  m_is_heap : mg "is_heap" = some (.ref a_is_heap)
  a_law_amiss : Addr
  d_law_amiss : FuncData
  F_law_amiss : Fun K "law_amiss" "law_amiss" s_law_amiss a_law_amiss d_law_amiss
  b_law_amiss : Binds K d_law_amiss ["its", "known"] []
  m_law_amiss : mg "law_amiss" = some (.ref a_law_amiss)
  a_look_rows : Addr
  d_look_rows : FuncData
  F_look_rows : Fun K "look_rows" "look_rows" s_look_rows a_look_rows d_look_rows
  b_look_rows : Binds K d_look_rows ["rows"] []
  m_look_rows : mg "look_rows" = some (.ref a_look_rows)
  a_Book_init : Addr
  d_Book_init : FuncData
  F_Book_init : Fun K "__init__" "Book.__init__" s_Book_init a_Book_init d_Book_init
  b_Book_init : Binds K d_Book_init ["self", "rows"] []
  a_kinds_from : Addr
  d_kinds_from : FuncData
  F_kinds_from : Fun K "kinds_from" "kinds_from" s_kinds_from a_kinds_from d_kinds_from
  b_kinds_from : Binds K d_kinds_from ["book", "kinds"] []
  m_kinds_from : mg "kinds_from" = some (.ref a_kinds_from)
  a_things_of : Addr
  d_things_of : FuncData
  F_things_of : Fun K "things_of" "things_of" s_things_of a_things_of d_things_of
  b_things_of : Binds K d_things_of ["book", "kind", "lot"] []
  m_things_of : mg "things_of" = some (.ref a_things_of)
  a_Web_look_at : Addr
  d_Web_look_at : FuncData
  F_Web_look_at : Fun K "look_at" "Web.look_at" s_Web_look_at a_Web_look_at d_Web_look_at
  b_Web_look_at : Binds K d_Web_look_at ["self", "kind"] []
  a_Web_init : Addr
  d_Web_init : FuncData
  F_Web_init : Fun K "__init__" "Web.__init__" s_Web_init a_Web_init d_Web_init
  b_Web_init : Binds K d_Web_init ["self", "book"] []
  a_lots : Addr
  d_lots : FuncData
  F_lots : Fun K "lots" "lots" s_lots a_lots d_lots
  b_lots : Binds K d_lots ["book"] []
  m_lots : mg "lots" = some (.ref a_lots)
  a__law_sets : Addr
  d__law_sets : FuncData
  F__law_sets : Fun K "_law_sets" "_law_sets" s__law_sets a__law_sets d__law_sets
  b__law_sets : Binds K d__law_sets ["_law_told", "_law_new"] []
  m__law_sets : mg "_law_sets" = some (.ref a__law_sets)
  a__law_heap_2 : Addr
  d__law_heap_2 : FuncData
  F__law_heap_2 : Fun K "_law_heap" "_law_heap" s__law_heap_2 a__law_heap_2 d__law_heap_2
  b__law_heap_2 : Binds K d__law_heap_2 ["_law_source", "_law_rows"] []
  m__law_heap_2 : mg "_law_heap" = some (.ref a__law_heap_2)
  a__law_by_names_c : Addr
  d__law_by_names_c : FuncData
  F__law_by_names_c : Fun K "_law_by_names" "_law_by_names" s__law_by_names_c a__law_by_names_c d__law_by_names_c
  b__law_by_names_c : Binds K d__law_by_names_c ["_law_heap_here", "_law_new"] []
  m__law_by_names_c : mg "_law_by_names" = some (.ref a__law_by_names_c)
  a_Book_has : Addr
  d_Book_has : FuncData
  F_Book_has : Fun K "has" "Book.has" s_Book_has a_Book_has d_Book_has
  b_Book_has : Binds K d_Book_has ["self", "thing"] []
  a_look_in : Addr
  d_look_in : FuncData
  F_look_in : Fun K "look_in" "look_in" s_look_in a_look_in d_look_in
  b_look_in : Binds K d_look_in ["book", "heap"] []
  m_look_in : mg "look_in" = some (.ref a_look_in)
  a_reached : Addr
  d_reached : FuncData
  F_reached : Fun K "reached" "reached" s_reached a_reached d_reached
  b_reached : Binds K d_reached ["book", "heap"] []
  m_reached : mg "reached" = some (.ref a_reached)
  a_Web_lots_from : Addr
  d_Web_lots_from : FuncData
  F_Web_lots_from : Fun K "lots_from" "Web.lots_from" s_Web_lots_from a_Web_lots_from d_Web_lots_from
  b_Web_lots_from : Binds K d_Web_lots_from ["self", "kinds"] []
  a_comes : Addr
  d_comes : FuncData
  F_comes : Fun K "comes" "comes" s_comes a_comes d_comes
  b_comes : Binds K d_comes ["book", "heap"] []
  m_comes : mg "comes" = some (.ref a_comes)
  a_Web_upper_from : Addr
  d_Web_upper_from : FuncData
  F_Web_upper_from : Fun K "upper_from" "Web.upper_from" s_Web_upper_from a_Web_upper_from d_Web_upper_from
  b_Web_upper_from : Binds K d_Web_upper_from ["self", "kinds"] []
  a_upper : Addr
  d_upper : FuncData
  F_upper : Fun K "upper" "upper" s_upper a_upper d_upper
  b_upper : Binds K d_upper ["book", "heap"] []
  m_upper : mg "upper" = some (.ref a_upper)
  a_law : Addr
  d_law : FuncData
  F_law : Fun K "law" "law" s_law a_law d_law
  b_law : Binds K d_law ["_law_script"] []
  m_law : mg "law" = some (.ref a_law)
  a_Book : Addr
  m_Book : mg "Book" = some (.ref a_Book)
  cl_Book : Cls K a_Book
  a_Web : Addr
  m_Web : mg "Web" = some (.ref a_Web)
  cl_Web : Cls K a_Web
  na_Book_laws : NoAttr K a_Book "laws"
  na_Book_order : NoAttr K a_Book "order"
  na_Book_rows : NoAttr K a_Book "rows"
  na_Web_below : NoAttr K a_Web "below"
  na_Web_book : NoAttr K a_Web "book"
  na_Web_lot_of : NoAttr K a_Web "lot_of"
  na_Web_lots : NoAttr K a_Web "lots"
  na_Web_reach : NoAttr K a_Web "reach"
  na_Web_word_of : NoAttr K a_Web "word_of"
  mk_Book : Mk K a_Book a_Book_init
  t_Web_look_at : Meth K a_Web "look_at" a_Web_look_at
  mk_Web : Mk K a_Web a_Web_init
  t_Book_has : Meth K a_Book "has" a_Book_has
  t_Web_lots_from : Meth K a_Web "lots_from" a_Web_lots_from
  t_Web_upper_from : Meth K a_Web "upper_from" a_Web_upper_from
  k_LETTERS : Tok
  m_LETTERS : mg "LETTERS" = some (.str "abcdefghijklmnopqrstuvwxyz" k_LETTERS)
  k_LONGEST : Tok
  m_LONGEST : mg "LONGEST" = some (.int 8 k_LONGEST)
  k_MOST_KINDS : Tok
  m_MOST_KINDS : mg "MOST_KINDS" = some (.int 12 k_MOST_KINDS)
  k_MOST_OF_A_KIND : Tok
  m_MOST_OF_A_KIND : mg "MOST_OF_A_KIND" = some (.int 99 k_MOST_OF_A_KIND)
  n_all : mg "all" = none
  n_any : mg "any" = none
  n_bool : mg "bool" = none
  n_dict : mg "dict" = none
  n_enumerate : mg "enumerate" = none
  n_int : mg "int" = none
  n_isinstance : mg "isinstance" = none
  n_len : mg "len" = none
  n_list : mg "list" = none
  n_max : mg "max" = none
  n_min : mg "min" = none
  n_range : mg "range" = none
  n_sorted : mg "sorted" = none
  n_str : mg "str" = none
  n_sum : mg "sum" = none
  n_tuple : mg "tuple" = none
section
variable {P : Program} {w : World} {K : PySem.W.Frag} {mg : Str → Option Value} {base : Heap}
theorem sc__law_cell_at : FnScope N__law_cell_at ["_law_script", "_law_k"] (defScope s__law_cell_at) := ⟨rfl, rfl, rfl, by decide +kernel, rfl, by decide +kernel, by decide +kernel⟩
theorem sc__law_source_of : FnScope N__law_source_of ["_law_cell"] (defScope s__law_source_of) := ⟨rfl, rfl, rfl, by decide +kernel, rfl, by decide +kernel, by decide +kernel⟩
theorem sc__law_next : FnScope N__law_next ["_law_source", "_law_many"] (defScope s__law_next) := ⟨rfl, rfl, rfl, by decide +kernel, rfl, by decide +kernel, by decide +kernel⟩
theorem sc__law_mixed : FnScope N__law_mixed ["_law_source", "_law_some"] (defScope s__law_mixed) := ⟨rfl, rfl, rfl, by decide +kernel, rfl, by decide +kernel, by decide +kernel⟩
theorem sc__law_one : FnScope N__law_one ["_law_source", "_law_some"] (defScope s__law_one) := ⟨rfl, rfl, rfl, by decide +kernel, rfl, by decide +kernel, by decide +kernel⟩
theorem sc__law_twelve : FnScope N__law_twelve ["_law_source"] (defScope s__law_twelve) := ⟨rfl, rfl, rfl, by decide +kernel, rfl, by decide +kernel, by decide +kernel⟩
theorem sc__law_turned_2 : FnScope N__law_turned_2 ["_law_source", "_law_rows"] (defScope s__law_turned_2) := ⟨rfl, rfl, rfl, by decide +kernel, rfl, by decide +kernel, by decide +kernel⟩
theorem sc_is_row : FnScope N_is_row ["thing"] (defScope s_is_row) := ⟨rfl, rfl, rfl, by decide +kernel, rfl, by decide +kernel, by decide +kernel⟩
theorem sc_is_name : FnScope N_is_name ["thing"] (defScope s_is_name) := ⟨rfl, rfl, rfl, by decide +kernel, rfl, by decide +kernel, by decide +kernel⟩
theorem sc_row_amiss : FnScope N_row_amiss ["row", "known"] (defScope s_row_amiss) := ⟨rfl, rfl, rfl, by decide +kernel, rfl, by decide +kernel, by decide +kernel⟩
theorem sc_is_whole : FnScope N_is_whole ["thing", "least"] (defScope s_is_whole) := ⟨rfl, rfl, rfl, by decide +kernel, rfl, by decide +kernel, by decide +kernel⟩
theorem sc_look_heap : FnScope N_look_heap ["heap"] (defScope s_look_heap) := ⟨rfl, rfl, rfl, by decide +kernel, rfl, by decide +kernel, by decide +kernel⟩
theorem sc_is_heap : FnScope N_is_heap ["thing"] (defScope s_is_heap) := ⟨rfl, rfl, rfl, by decide +kernel, rfl, by decide +kernel, by decide +kernel⟩
theorem sc_law_amiss : FnScope N_law_amiss ["its", "known"] (defScope s_law_amiss) := ⟨rfl, rfl, rfl, by decide +kernel, rfl, by decide +kernel, by decide +kernel⟩
theorem sc_look_rows : FnScope N_look_rows ["rows"] (defScope s_look_rows) := ⟨rfl, rfl, rfl, by decide +kernel, rfl, by decide +kernel, by decide +kernel⟩
theorem sc_Book_init : FnScope N_Book_init ["self", "rows"] (defScope s_Book_init) := ⟨rfl, rfl, rfl, by decide +kernel, rfl, by decide +kernel, by decide +kernel⟩
theorem sc_kinds_from : FnScope N_kinds_from ["book", "kinds"] (defScope s_kinds_from) := ⟨rfl, rfl, rfl, by decide +kernel, rfl, by decide +kernel, by decide +kernel⟩
theorem sc_things_of : FnScope N_things_of ["book", "kind", "lot"] (defScope s_things_of) := ⟨rfl, rfl, rfl, by decide +kernel, rfl, by decide +kernel, by decide +kernel⟩
theorem sc_Web_look_at : FnScope N_Web_look_at ["self", "kind"] (defScope s_Web_look_at) := ⟨rfl, rfl, rfl, by decide +kernel, rfl, by decide +kernel, by decide +kernel⟩
theorem sc_Web_init : FnScope N_Web_init ["self", "book"] (defScope s_Web_init) := ⟨rfl, rfl, rfl, by decide +kernel, rfl, by decide +kernel, by decide +kernel⟩
theorem sc_lots : FnScope N_lots ["book"] (defScope s_lots) := ⟨rfl, rfl, rfl, by decide +kernel, rfl, by decide +kernel, by decide +kernel⟩
theorem sc__law_sets : FnScope N__law_sets ["_law_told", "_law_new"] (defScope s__law_sets) := ⟨rfl, rfl, rfl, by decide +kernel, rfl, by decide +kernel, by decide +kernel⟩
theorem sc__law_heap_2 : FnScope N__law_heap_2 ["_law_source", "_law_rows"] (defScope s__law_heap_2) := ⟨rfl, rfl, rfl, by decide +kernel, rfl, by decide +kernel, by decide +kernel⟩
theorem sc__law_by_names_c : FnScope N__law_by_names_c ["_law_heap_here", "_law_new"] (defScope s__law_by_names_c) := ⟨rfl, rfl, rfl, by decide +kernel, rfl, by decide +kernel, by decide +kernel⟩
theorem sc_Book_has : FnScope N_Book_has ["self", "thing"] (defScope s_Book_has) := ⟨rfl, rfl, rfl, by decide +kernel, rfl, by decide +kernel, by decide +kernel⟩
theorem sc_look_in : FnScope N_look_in ["book", "heap"] (defScope s_look_in) := ⟨rfl, rfl, rfl, by decide +kernel, rfl, by decide +kernel, by decide +kernel⟩
theorem sc_reached : FnScope N_reached ["book", "heap"] (defScope s_reached) := ⟨rfl, rfl, rfl, by decide +kernel, rfl, by decide +kernel, by decide +kernel⟩
theorem sc_Web_lots_from : FnScope N_Web_lots_from ["self", "kinds"] (defScope s_Web_lots_from) := ⟨rfl, rfl, rfl, by decide +kernel, rfl, by decide +kernel, by decide +kernel⟩
theorem sc_comes : FnScope N_comes ["book", "heap"] (defScope s_comes) := ⟨rfl, rfl, rfl, by decide +kernel, rfl, by decide +kernel, by decide +kernel⟩
theorem sc_Web_upper_from : FnScope N_Web_upper_from ["self", "kinds"] (defScope s_Web_upper_from) := ⟨rfl, rfl, rfl, by decide +kernel, rfl, by decide +kernel, by decide +kernel⟩
theorem sc_upper : FnScope N_upper ["book", "heap"] (defScope s_upper) := ⟨rfl, rfl, rfl, by decide +kernel, rfl, by decide +kernel, by decide +kernel⟩
theorem sc_law : FnScope N_law ["_law_script"] (defScope s_law) := ⟨rfl, rfl, rfl, by decide +kernel, rfl, by decide +kernel, by decide +kernel⟩
theorem ok__law_cell_at (T : Tx K mg) : FnOk P w K mg base CX0 1 T.a__law_cell_at T.d__law_cell_at ["_law_script", "_law_k"] (spF K mg [false, false] f__law_cell_at) :=
  fn_ok T.F__law_cell_at sc__law_cell_at rfl fun cdv A outer s H E hr => (have hu := room64 hr; have nd := sc__law_cell_at.nd; (ss_cons (s_if (tLt (wR 1) (wE (wLen T.n_len (wR 0)))) (ss_one (s_ret (wIx hu (wR 0) (wR 1)))) ss_nil) (ss_one (s_ret px_int))) : PSts _ _ m__law_cell_at)
theorem ok__law_source_of (T : Tx K mg) : FnOk P w K mg base CX0 1 T.a__law_source_of T.d__law_source_of ["_law_cell"] (spF K mg [false] f__law_source_of) :=
  fn_ok T.F__law_source_of sc__law_source_of rfl fun cdv A outer s H E hr => (have hu := room64 hr; have nd := sc__law_source_of.nd; (ss_cons (sSet 0 nd (px_if (tGe (wR 0) (wE px_int)) (wV 0) (wSub (wE (wSub (wE px_int) (wE (wMul (wE px_int) (wR 0))))) (wE px_int)))) (ss_one (s_ret (wLst (pac (wE (wMul (wR 0) (wE (wInt T.n_int (wE (wGe (wR 0) (wE (wPow (wE px_int) (wE px_int))))))))) (pac (wE (wMod (wR 0) (wE px_int))) (pac (wE px_int) par_nil))))))) : PSts _ _ m__law_source_of)
theorem ok__law_next (T : Tx K mg) : FnOk P w K mg base CX0 1 T.a__law_next T.d__law_next ["_law_source", "_law_many"] (spF K mg [true, false] f__law_next) :=
  fn_ok T.F__law_next sc__law_next rfl fun cdv A outer s H E hr => (have hu := room64 hr; have nd := sc__law_next.nd; (ss_cons (s_if (tGt (wE (wIx hu (wR 0) (wE px_int))) (wE px_int)) (ss_cons (sSet 2 nd (wMod (wE (wIx hu (wR 0) (wE px_int))) (wR 1))) (ss_cons (sPut hu (wR 0) (wDiv (wE (wIx hu (wR 0) (wE px_int))) (wR 1)) (wE px_int)) (ss_one (s_ret (wM 2))))) ss_nil) (ss_cons (sPut hu (wR 0) (wAdd (wE (wIx hu (wR 0) (wE px_int))) (wE px_int)) (wE px_int)) (ss_cons (sSet 3 nd px_int) (ss_cons (sSet 4 nd (wMod (wE (wAdd (wE (wAdd (wE (wIx hu (wR 0) (wE px_int))) (wE (wMul (wE px_int) (wE (wIx hu (wR 0) (wE px_int))))))) (wE px_int))) (wR 3))) (ss_cons (sSet 4 nd (wMod (wE (wMul (wR 4) (wE px_int))) (wR 3))) (ss_cons (sSet 4 nd (wMod (wE (wMul (wR 4) (wE (wAdd (wE (wDiv (wR 4) (wE px_int))) (wE px_int))))) (wR 3))) (ss_cons (sSet 4 nd (wMod (wE (wMul (wR 4) (wE (wAdd (wE (wDiv (wR 4) (wE px_int))) (wE px_int))))) (wE px_int))) (ss_one (s_ret (wMod (wE (wDiv (wR 4) (wE px_int))) (wR 1))))))))))) : PSts _ _ m__law_next)
theorem ok__law_mixed (T : Tx K mg) : FnOk P w K mg base CX0 2 T.a__law_mixed T.d__law_mixed ["_law_source", "_law_some"] (spF K mg [true, false] f__law_mixed) :=
  fn_ok T.F__law_mixed sc__law_mixed rfl fun cdv A outer s H E hr => (have hu := room64 hr; have nd := sc__law_mixed.nd; (ss_cons (sSet 2 nd (wList T.n_list (wR 1))) (ss_cons (sSet 3 nd (wLst par_nil)) (ss_cons (s_while PassesOwn.never (tNe hu (wR 2) (wE (wLst par_nil))) (a := m__law_mixed_1) (ss_one (sDrop (wAppend (wR 3) (wPopAt (wR 2) (wE (wCall (ok__law_next T) (hr.mono (by decide)) T.m__law_next T.F__law_next.kp T.b__law_next (pac (wR 0) (pac (wE (wLen T.n_len (wR 2))) par_nil))))))))) (ss_one (s_ret (wM 3)))))) : PSts _ _ m__law_mixed)
theorem ok__law_one (T : Tx K mg) : FnOk P w K mg base CX0 2 T.a__law_one T.d__law_one ["_law_source", "_law_some"] (spF K mg [true, false] f__law_one) :=
  fn_ok T.F__law_one sc__law_one rfl fun cdv A outer s H E hr => (have hu := room64 hr; have nd := sc__law_one.nd; (ss_one (s_ret (wIx hu (wR 1) (wE (wCall (ok__law_next T) (hr.mono (by decide)) T.m__law_next T.F__law_next.kp T.b__law_next (pac (wR 0) (pac (wE (wLen T.n_len (wR 1))) par_nil))))))) : PSts _ _ m__law_one)
theorem ok__law_twelve (T : Tx K mg) : FnOk P w K mg base CX0 3 T.a__law_twelve T.d__law_twelve ["_law_source"] (spF K mg [true] f__law_twelve) :=
  fn_ok T.F__law_twelve sc__law_twelve rfl fun cdv A outer s H E hr => (have hu := room64 hr; have nd := sc__law_twelve.nd; (ss_cons (sSet 1 nd (wCall (ok__law_mixed T) (hr.mono (by decide)) T.m__law_mixed T.F__law_mixed.kp T.b__law_mixed (pac (wR 0) (pac (wE (wLst (pac (wE px_str) (pac (wE px_str) (pac (wE px_str) (pac (wE px_str) (pac (wE px_str) (pac (wE px_str) (pac (wE px_str) (pac (wE px_str) (pac (wE px_str) (pac (wE px_str) (pac (wE px_str) (pac (wE px_str) par_nil)))))))))))))) par_nil)))) (ss_cons (sSet 1 nd (px_slice (wR 1) por_none (por_some (wAdd (wE px_int) (wE (wCall (ok__law_next T) (hr.mono (by decide)) T.m__law_next T.F__law_next.kp T.b__law_next (pac (wR 0) (pac (wE px_int) par_nil)))))))) (ss_cons (sSet 2 nd (wLst par_nil)) (ss_cons (sFor PassesOwn.never (iRng T.n_range (wE (wLen T.n_len (wR 1)))) (gN 3 nd) (a := m__law_twelve_2) (ss_cons (sSet 4 nd px_dnewK) (ss_cons (sFor PassesOwn.never (iRng T.n_range (wE (wCall (ok__law_one T) (hr.mono (by decide)) T.m__law_one T.F__law_one.kp T.b__law_one (pac (wR 0) (pac (wE (wLst (pac (wE px_int) (pac (wE px_int) (pac (wE px_int) (pac (wE px_int) (pac (wE px_int) par_nil))))))) par_nil))))) (gN 5 nd) (a := m__law_twelve_1) (ss_cons (sSet 6 nd (wCall (ok__law_one T) (hr.mono (by decide)) T.m__law_one T.F__law_one.kp T.b__law_one (pac (wR 0) (pac (wE (wCall (ok__law_one T) (hr.mono (by decide)) T.m__law_one T.F__law_one.kp T.b__law_one (pac (wR 0) (pac (wE (wLst (pac (wE (wV 1)) (pac (wE (px_slice (wR 1) (por_some (wV 3)) por_none)) (pac (wE (px_slice (wR 1) (por_some (wV 3)) (por_some (wAdd (wR 3) (wE px_int))))) (pac (wE (px_slice (wR 1) (por_some (px_neg (wE px_int))) por_none)) par_nil)))))) par_nil)))) par_nil)))) (ss_one (sPut hu (wR 4) (wCall (ok__law_one T) (hr.mono (by decide)) T.m__law_one T.F__law_one.kp T.b__law_one (pac (wR 0) (pac (wE (wLst (pac (wE px_int) (pac (wE px_int) (pac (wE px_int) (pac (wE px_int) (pac (wE px_int) (pac (wE (wAdd (wE px_int) (wE (wCall (ok__law_next T) (hr.mono (by decide)) T.m__law_next T.F__law_next.kp T.b__law_next (pac (wR 0) (pac (wE px_int) par_nil)))))) par_nil)))))))) par_nil))) (wR 6))))) (ss_one (sDrop (wAppend (wR 2) (wTup (pac (wE (wIx hu (wR 1) (wR 3))) (pac (wE (px_if (tNe hu (wR 4) (wE px_dnewK)) (wV 4) px_non)) par_nil))))))))) (ss_one (s_ret (wCall (ok__law_mixed T) (hr.mono (by decide)) T.m__law_mixed T.F__law_mixed.kp T.b__law_mixed (pac (wR 0) (pac (wE (wV 2)) par_nil))))))))) : PSts _ _ m__law_twelve)
theorem ok__law_turned_2 (T : Tx K mg) : FnOk P w K mg base CX0 3 T.a__law_turned_2 T.d__law_turned_2 ["_law_source", "_law_rows"] (spF K mg [true, false] f__law_turned_2) :=
  fn_ok T.F__law_turned_2 sc__law_turned_2 rfl fun cdv A outer s H E hr => (have hu := room64 hr; have nd := sc__law_turned_2.nd; (ss_cons (sSet 2 nd (px_fr (wLst (pac (wE px_str) (pac (wE px_str) (pac (wE px_str) (pac (wE px_str) (pac (wE px_str) (pac (wE px_str) (pac (wE px_str) (pac (wE px_str) (pac (wE px_str) (pac (wE px_str) (pac (wE px_str) (pac (wE px_str) (pac (wE px_str) (pac (wE px_str) par_nil))))))))))))))))) (ss_cons (sSet 2 nd (px_fr (px_slice (wE (wCall (ok__law_mixed T) (hr.mono (by decide)) T.m__law_mixed T.F__law_mixed.kp T.b__law_mixed (pac (wR 0) (pac (wE (wV 2)) par_nil)))) por_none (por_some (px_fr (wLen T.n_len (wR 1))))))) (ss_cons (sSet 3 nd (px_fr (wDict T.n_dict (wE (wLc [("_law_at", 8), ("_law_row", 9)] nd (iEn T.n_enumerate (wV 1)) (blkOk_by (N := N__law_turned_2) (sc := defScope s__law_turned_2) (own := [("_law_at", 8), ("_law_row", 9)]) (by decide +kernel)) (fun _ _ _ _ _ => (gT (gC (gN 8 nd) (gC (gN 9 nd) pgsr_nil)))) (fun _ _ _ _ _ => PV.ptsr_nil) (fun _ _ _ _ _ => (wTup (pac (wE (wIx hu (wR 9) (wE px_int))) (pac (wE (wIx hu (wR 2) (wR 8))) par_nil))))))))) (ss_cons (sSet 4 nd (wLst par_nil)) (ss_cons (sFor PassesOwn.never (pi_it (wV 1)) (gT (gC (gN 5 nd) (gC (gN 6 nd) pgsr_nil))) (a := m__law_turned_2_s1) (ss_kill (ss_cons (sSet 7 nd (px_fr (px_if (PV.pt_isN (wR 6)) px_non (wDict T.n_dict (wE (wLc [("_law_part", 10)] nd (pi_it (wV 6)) (blkOk_by (N := N__law_turned_2) (sc := defScope s__law_turned_2) (own := [("_law_part", 10)]) (by decide +kernel)) (fun _ _ _ _ _ => (gN 10 nd)) (fun _ _ _ _ _ => PV.ptsr_nil) (fun _ _ _ _ _ => (wTup (pac (wE (wIx hu (wR 3) (wR 10))) (pac (wE (wIx hu (wR 6) (wR 10))) par_nil)))))))))) (ss_one (sDrop (wAppend (wR 4) (wTup (pac (wE (wIx hu (wR 3) (wR 5))) (pac (wE (wV 7)) par_nil))))))))) (ss_one (s_ret (px_fr (wTup (pac (wE (wCall (ok__law_mixed T) (hr.mono (by decide)) T.m__law_mixed T.F__law_mixed.kp T.b__law_mixed (pac (wR 0) (pac (wE (wV 4)) par_nil)))) (pac (wE (wV 3)) par_nil))))))))))) : PSts _ _ m__law_turned_2)
theorem ok_is_row (T : Tx K mg) : FnOk P w K mg base CX0 1 T.a_is_row T.d_is_row ["thing"] (spF K mg [false] f_is_row) :=
  fn_ok T.F_is_row sc_is_row rfl fun cdv A outer s H E hr => (have hu := room64 hr; have nd := sc_is_row.nd; (ss_one (s_ret (wIsa2 T.n_isinstance (wR 0) (wTy T.n_list) (wTy T.n_tuple)))) : PSts _ _ m_is_row)
theorem ok_is_name (T : Tx K mg) : FnOk P w K mg base CX0 1 T.a_is_name T.d_is_name ["thing"] (spF K mg [false] f_is_name) :=
  fn_ok T.F_is_name sc_is_name rfl fun cdv A outer s H E hr => (have hu := room64 hr; have nd := sc_is_name.nd; (ss_one (s_ret (px_and (wIsa T.n_isinstance (wR 0) (wTy T.n_str)) (px_and (wCh (wE px_int) (wE (wLen T.n_len (wR 0))) (wE (px_gint (by rfl) T.m_LONGEST (by decide +kernel)))) (px_one (wAll T.n_all (wE (wLc [("sign", 1)] nd (pi_it (wV 0)) (blkOk_by (N := N_is_name) (sc := defScope s_is_name) (own := [("sign", 1)]) (by decide +kernel)) (fun _ _ _ _ _ => (gN 1 nd)) (fun _ _ _ _ _ => PV.ptsr_nil) (fun _ _ _ _ _ => (wIn hu (wR 1) (wE (px_gstr (by rfl) T.m_LETTERS (by decide +kernel))))))))))))) : PSts _ _ m_is_name)
theorem ok_row_amiss (T : Tx K mg) : FnOk P w K mg base CX0 2 T.a_row_amiss T.d_row_amiss ["row", "known"] (spF K mg [false, true] f_row_amiss) :=
  fn_ok T.F_row_amiss sc_row_amiss rfl fun cdv A outer s H E hr => (have hu := room64 hr; have nd := sc_row_amiss.nd; (ss_cons (s_if (PW.pt (pw_O (PV.pt_N (tT (wIsa T.n_isinstance (wR 0) (wTy T.n_tuple)))) (pw_or1 (tNe hu (wE (wLen T.n_len (wR 0))) (wE px_int))))) (ss_one (s_ret px_str)) ss_nil) (ss_cons (s_if (PV.pt_N (tT (wCall (ok_is_name T) (hr.mono (by decide)) T.m_is_name T.F_is_name.kp T.b_is_name (pac (wE (wIx hu (wR 0) (wE px_int))) par_nil)))) (ss_one (s_ret px_str)) ss_nil) (ss_one (s_ret (px_if (tIn hu (wE (wIx hu (wR 0) (wE px_int))) (wR 1)) px_str px_str))))) : PSts _ _ m_row_amiss)
theorem ok_is_whole (T : Tx K mg) : FnOk P w K mg base CX0 1 T.a_is_whole T.d_is_whole ["thing", "least"] (spF K mg [false, false] f_is_whole) :=
  fn_ok T.F_is_whole sc_is_whole rfl fun cdv A outer s H E hr => (have hu := room64 hr; have nd := sc_is_whole.nd; (ss_one (s_ret (px_and (wIsa T.n_isinstance (wR 0) (wTy T.n_int)) (px_and (px_not (wIsa T.n_isinstance (wR 0) (wTy T.n_bool))) (px_one (wGe (wR 0) (wR 1))))))) : PSts _ _ m_is_whole)
theorem ok_look_heap (T : Tx K mg) : FnOk P w K mg base CX0 2 T.a_look_heap T.d_look_heap ["heap"] (spF K mg [false] f_look_heap) :=
  fn_ok T.F_look_heap sc_look_heap rfl fun cdv A outer s H E hr => (have hu := room64 hr; have nd := sc_look_heap.nd; (ss_cons (s_if (PV.pt_N (tT (wIsa T.n_isinstance (wR 0) (wTy T.n_dict)))) ss_never ss_nil) (ss_one (sFor PassesOwn.never (iIts (wV 0)) (gT (gC (gN 1 nd) (gC (gN 2 nd) pgsr_nil))) (a := m_look_heap_1) (ss_cons (s_if (PV.pt_N (tT (wCall (ok_is_name T) (hr.mono (by decide)) T.m_is_name T.F_is_name.kp T.b_is_name (pac (wE (wV 1)) par_nil)))) ss_never ss_nil) (ss_one (s_if (PV.pt_N (tT (wCall (ok_is_whole T) (hr.mono (by decide)) T.m_is_whole T.F_is_whole.kp T.b_is_whole (pac (wE (wV 2)) (pac (wE px_int) par_nil))))) ss_never ss_nil)))))) : PSts _ _ m_look_heap)
theorem ok_is_heap (T : Tx K mg) : FnOk P w K mg base CX0 3 T.a_is_heap T.d_is_heap ["thing"] (spF K mg [false] f_is_heap) :=
  fn_ok T.F_is_heap sc_is_heap rfl fun cdv A outer s H E hr => (have hu := room64 hr; have nd := sc_is_heap.nd; (ss_cons (wTry (ss_one (sDrop (wCall (ok_look_heap T) (hr.mono (by decide)) T.m_look_heap T.F_look_heap.kp T.b_look_heap (pac (wE (wV 0)) par_nil))))) (ss_one (s_ret px_bl))) : PSts _ _ m_is_heap)
theorem ok_law_amiss (T : Tx K mg) : FnOk P w K mg base CX0 4 T.a_law_amiss T.d_law_amiss ["its", "known"] (spF K mg [false, false] f_law_amiss) :=
  fn_ok T.F_law_amiss sc_law_amiss rfl fun cdv A outer s H E hr => (have hu := room64 hr; have nd := sc_law_amiss.nd; (ss_cons (s_if (PV.pt_isN (wR 0)) (ss_one (s_ret px_str)) ss_nil) (ss_cons (s_if (PW.pt (pw_O (PV.pt_N (tT (wCall (ok_is_heap T) (hr.mono (by decide)) T.m_is_heap T.F_is_heap.kp T.b_is_heap (pac (wE (wV 0)) par_nil)))) (pw_or1 (tEq hu (wR 0) (wE px_dnewK))))) (ss_one (s_ret px_str)) ss_nil) (ss_cons (s_if (PV.pt_N (tT (wAll T.n_all (wE (wLc [("kind", 2)] nd (pi_it (wV 0)) (blkOk_by (N := N_law_amiss) (sc := defScope s_law_amiss) (own := [("kind", 2)]) (by decide +kernel)) (fun _ _ _ _ _ => (gN 2 nd)) (fun _ _ _ _ _ => PV.ptsr_nil) (fun _ _ _ _ _ => (wIn hu (wR 2) (wR 1)))))))) (ss_one (s_ret px_str)) ss_nil) (ss_one (s_ret (px_if (tGt (wE (wMax T.n_max (wE (wVals T.n_list (wR 0))))) (wE (px_gint (by rfl) T.m_MOST_OF_A_KIND (by decide +kernel)))) px_str px_str)))))) : PSts _ _ m_law_amiss)
theorem ok_look_rows (T : Tx K mg) : FnOk P w K mg base CX0 5 T.a_look_rows T.d_look_rows ["rows"] (spF K mg [false] f_look_rows) :=
  fn_ok T.F_look_rows sc_look_rows rfl fun cdv A outer s H E hr => (have hu := room64 hr; have nd := sc_look_rows.nd; (ss_cons (s_if (PW.pt (pw_O (PV.pt_N (tT (wCall (ok_is_row T) (hr.mono (by decide)) T.m_is_row T.F_is_row.kp T.b_is_row (pac (wE (wV 0)) par_nil)))) (pw_or1 (PV.pt_N (tCh (wE px_int) (wE (wLen T.n_len (wR 0))) (wE (px_gint (by rfl) T.m_MOST_KINDS (by decide +kernel)))))))) ss_never ss_nil) (ss_cons (sSet 1 nd (wLst par_nil)) (ss_cons (sFor PassesOwn.never (iEn T.n_enumerate (wV 0)) (gT (gC (gN 2 nd) (gC (gN 3 nd) pgsr_nil))) (a := m_look_rows_1) (ss_cons (sSet 4 nd (wCall (ok_row_amiss T) (hr.mono (by decide)) T.m_row_amiss T.F_row_amiss.kp T.b_row_amiss (pac (wE (wV 3)) (pac (wR 1) par_nil)))) (ss_cons (s_if (tNe hu (wR 4) (wE px_str)) ss_never ss_nil) (ss_one (sDrop (wAppend (wR 1) (wIx hu (wR 3) (wE px_int)))))))) (ss_one (sFor PassesOwn.never (iEn T.n_enumerate (wV 0)) (gT (gC (gN 2 nd) (gC (gT (gC (gN 5 nd) (gC (gN 6 nd) pgsr_nil))) pgsr_nil))) (a := m_look_rows_2) (ss_cons (sSet 4 nd (wCall (ok_law_amiss T) (hr.mono (by decide)) T.m_law_amiss T.F_law_amiss.kp T.b_law_amiss (pac (wE (wV 6)) (pac (wE (wV 1)) par_nil)))) (ss_one (s_if (tNe hu (wR 4) (wE px_str)) ss_never ss_nil)))))))) : PSts _ _ m_look_rows)
theorem ok_Book_init (T : Tx K mg) : FnOk P w K mg base CX0 6 T.a_Book_init T.d_Book_init ["self", "rows"] (spI K mg "Book" 1 g_Book) :=
  init_ok T.F_Book_init sc_Book_init rfl fun cdv A outer s H E hr => (have hu := room64 hr; have nd := sc_Book_init.nd; (b_cons (b_gen (sDrop (wCall (ok_look_rows T) (hr.mono (by decide)) T.m_look_rows T.F_look_rows.kp T.b_look_rows (pac (wE (wV 1)) par_nil)))) (b_cons (bFl (wR 0) (wDc [("at", 4), ("row", 5)] nd (iEn T.n_enumerate (wV 1)) (blkOk_by (N := N_Book_init) (sc := defScope s_Book_init) (own := [("at", 4), ("row", 5)]) (by decide +kernel)) (fun _ _ _ _ _ => (gT (gC (gN 4 nd) (gC (gN 5 nd) pgsr_nil)))) (fun _ _ _ _ _ => PV.ptsr_nil) (fun _ _ _ _ _ => (wIx hu (wR 5) (wE px_int))) (fun _ _ _ _ _ => (wV 4))) (clsOk T.m_Book T.cl_Book T.na_Book_order)) (b_cons (bNe (wR 0) px_dnewK (clsOk T.m_Book T.cl_Book T.na_Book_laws) (ghostOk (g := "self.laws") (sc := defScope s_Book_init) (by rfl) (by rfl) (by decide +kernel))) (b_cons (b_frz (b_gen (sFor PassesOwn.never (pi_it (wV 1)) (gT (gC (gN 2 nd) (gC (gN 3 nd) pgsr_nil))) (a := m_Book_init_1) (ss_one (sPut hu (wFj (clsOk T.m_Book T.cl_Book T.na_Book_laws) (wR 0)) (px_if (PV.pt_isN (wR 3)) px_non (wDc [("part", 6)] nd (pi_it (wOwnF (clsOk T.m_Book T.cl_Book T.na_Book_order) (wR 0))) (blkOk_by (N := N_Book_init) (sc := defScope s_Book_init) (own := [("part", 6)]) (by decide +kernel)) (fun _ _ _ _ _ => (gN 6 nd)) (fun _ _ _ _ _ => (ptsr_one (tIn hu (wR 6) (wR 3)))) (fun _ _ _ _ _ => (wV 6)) (fun _ _ _ _ _ => (wIx hu (wR 3) (wR 6))))) (wR 2)))))) (b_cons (bFl (wR 0) (wTuple T.n_tuple (wE (wLc [("kind", 2), ("its", 3)] nd (iIts (wOwnF (clsOk T.m_Book T.cl_Book T.na_Book_laws) (wR 0))) (blkOk_by (N := N_Book_init) (sc := defScope s_Book_init) (own := [("kind", 2), ("its", 3)]) (by decide +kernel)) (fun _ _ _ _ _ => (gT (gC (gN 2 nd) (gC (gN 3 nd) pgsr_nil)))) (fun _ _ _ _ _ => PV.ptsr_nil) (fun _ _ _ _ _ => (wTup (pac (wE (wV 2)) (pac (wE (px_if (PV.pt_isN (wR 3)) px_non (wTItems T.n_tuple (wR 3)))) par_nil))))))) (clsOk T.m_Book T.cl_Book T.na_Book_rows)) b_nil))))) : PBs _ _ _ m_Book_init)
theorem ok_kinds_from (T : Tx K mg) : FnOk P w K mg base CX0 1 T.a_kinds_from T.d_kinds_from ["book", "kinds"] (spF K mg [false, false] f_kinds_from) :=
  fn_ok T.F_kinds_from sc_kinds_from rfl fun cdv A outer s H E hr => (have hu := room64 hr; have nd := sc_kinds_from.nd; (ss_cons (sSet 2 nd (wDc [("kind", 5)] nd (pi_it (wV 1)) (blkOk_by (N := N_kinds_from) (sc := defScope s_kinds_from) (own := [("kind", 5)]) (by decide +kernel)) (fun _ _ _ _ _ => (gN 5 nd)) (fun _ _ _ _ _ => PV.ptsr_nil) (fun _ _ _ _ _ => (wV 5)) (fun _ _ _ _ _ => px_bl))) (ss_cons (sSet 3 nd (wList T.n_list (wR 2))) (ss_cons (s_while PassesOwn.never (tNe hu (wR 3) (wE (wLst par_nil))) (a := m_kinds_from_2) (ss_one (sFor PassesOwn.never (pi_it (px_orT (wIx hu (wE (wFld (clsOk T.m_Book T.cl_Book T.na_Book_laws) (wR 0))) (wE (wPop (wR 3)))) (px_one px_dnewK))) (gN 4 nd) (a := m_kinds_from_1) (ss_one (s_if (tNi hu (wR 4) (wR 2)) (ss_cons (sPut hu (wR 2) px_bl (wR 4)) (ss_one (sDrop (wAppend (wR 3) (wV 4))))) ss_nil))))) (ss_one (s_ret (wLc [("kind", 5)] nd (pi_it (wFld (clsOk T.m_Book T.cl_Book T.na_Book_order) (wR 0))) (blkOk_by (N := N_kinds_from) (sc := defScope s_kinds_from) (own := [("kind", 5)]) (by decide +kernel)) (fun _ _ _ _ _ => (gN 5 nd)) (fun _ _ _ _ _ => (ptsr_one (tIn hu (wR 5) (wR 2)))) (fun _ _ _ _ _ => (wV 5)))))))) : PSts _ _ m_kinds_from)
theorem ok_things_of (T : Tx K mg) : FnOk P w K mg base CX0 1 T.a_things_of T.d_things_of ["book", "kind", "lot"] (spF K mg [false, false, false] f_things_of) :=
  fn_ok T.F_things_of sc_things_of rfl fun cdv A outer s H E hr => (have hu := room64 hr; have nd := sc_things_of.nd; (ss_cons (sSet 3 nd (px_fr (px_orT (wIx hu (wE (wFld (clsOk T.m_Book T.cl_Book T.na_Book_laws) (wR 0))) (wR 1)) (px_one px_dnewK)))) (ss_one (s_ret (px_fr (wSum T.n_sum (wE (wLc [("part", 4), ("many", 5)] nd (iIts (wV 3)) (blkOk_by (N := N_things_of) (sc := defScope s_things_of) (own := [("part", 4), ("many", 5)]) (by decide +kernel)) (fun _ _ _ _ _ => (gT (gC (gN 4 nd) (gC (gN 5 nd) pgsr_nil)))) (fun _ _ _ _ _ => (ptsr_one (tIn hu (wR 4) (wR 2)))) (fun _ _ _ _ _ => (wV 5))))))))) : PSts _ _ m_things_of)
theorem gh_Web_look_at : ∀ j y, 6 ≤ j → N_Web_look_at[j]? = some y → ¬ Vis (defScope s_Web_look_at) y := ghosts_ok (by decide +kernel)
theorem ok_Web_look_at (T : Tx K mg) : FnOk P w K mg base CX0 2 T.a_Web_look_at T.d_Web_look_at ["self", "kind"] (spO K mg "Web" 1 6 4 f_Web_look_at) :=
  obj_ok T.F_Web_look_at sc_Web_look_at rfl rfl gh_Web_look_at fun cdv A outer s H E hr => (have hu := room64 hr; have nd := sc_Web_look_at.nd; (ss_cons (sSet 2 nd (px_fr (wTuple T.n_tuple (wE (wLc [("one", 5)] nd (pi_it (wIx hu (wE (wOwnF (clsOk T.m_Web T.cl_Web T.na_Web_reach) (wR 0))) (wR 1))) (blkOk_by (N := N_Web_look_at) (sc := defScope s_Web_look_at) (own := [("one", 5)]) (by decide +kernel)) (fun _ _ _ _ _ => (gN 5 nd)) (fun _ _ _ _ _ => (ptsr_one (tIn hu (wR 1) (wE (wIx hu (wE (wOwnF (clsOk T.m_Web T.cl_Web T.na_Web_reach) (wR 0))) (wR 5)))))) (fun _ _ _ _ _ => (wV 5))))))) (ss_cons (sSet 3 nd (px_fr (wMax T.n_max (wE (wLc [("one", 5)] nd (pi_it (wV 2)) (blkOk_by (N := N_Web_look_at) (sc := defScope s_Web_look_at) (own := [("one", 5)]) (by decide +kernel)) (fun _ _ _ _ _ => (gN 5 nd)) (fun _ _ _ _ _ => PV.ptsr_nil) (fun _ _ _ _ _ => (wCall (ok_things_of T) (hr.mono (by decide)) T.m_things_of T.F_things_of.kp T.b_things_of (pac (wE (wOwnF (clsOk T.m_Web T.cl_Web T.na_Web_book) (wR 0))) (pac (wE (wV 5)) (pac (wE (wV 2)) par_nil)))))))))) (ss_cons (s_if (tEq hu (wR 3) (wE px_int)) (ss_cons (sPut hu (wFj (clsOk T.m_Web T.cl_Web T.na_Web_lot_of) (wR 0)) px_non (wR 1)) (ss_one s_retN)) ss_nil) (ss_cons (sSet 4 nd (px_fr (px_if (tGt (wR 3) (wE px_int)) px_str px_str))) (ss_cons (sDrop (wAppend (wFj (clsOk T.m_Web T.cl_Web T.na_Web_lots) (wR 0)) (wTup (pac (wE (wV 2)) (pac (wE (wV 4)) par_nil))))) (ss_cons (sPut hu (wFj (clsOk T.m_Web T.cl_Web T.na_Web_word_of) (wR 0)) (wV 4) (wR 2)) (ss_cons (sFor PassesOwn.never (pi_it (wV 2)) (gN 5 nd) (a := m_Web_look_at_1) (ss_kill (ss_one (sPut hu (wFj (clsOk T.m_Web T.cl_Web T.na_Web_lot_of) (wR 0)) (wV 2) (wR 5))))) (ss_one (sPut hu (wFj (clsOk T.m_Web T.cl_Web T.na_Web_below) (wR 0)) (wLc [("one", 5)] nd (pi_it (wIx hu (wE (wOwnF (clsOk T.m_Web T.cl_Web T.na_Web_reach) (wR 0))) (wR 1))) (blkOk_by (N := N_Web_look_at) (sc := defScope s_Web_look_at) (own := [("one", 5)]) (by decide +kernel)) (fun _ _ _ _ _ => (gN 5 nd)) (fun _ _ _ _ _ => (ptsr_one (PW.pt (pw_O (tEq hu (wR 4) (wE px_str)) (pw_or1 (tNi hu (wR 5) (wR 2))))))) (fun _ _ _ _ _ => (wV 5))) (wR 2)))))))))) : PSts _ _ m_Web_look_at)
theorem ok_Web_init (T : Tx K mg) : FnOk P w K mg base CX0 3 T.a_Web_init T.d_Web_init ["self", "book"] (spI K mg "Web" 1 g_Web) :=
  init_ok T.F_Web_init sc_Web_init rfl fun cdv A outer s H E hr => (have hu := room64 hr; have nd := sc_Web_init.nd; (b_cons (bFl (wR 0) (wV 1) (clsOk T.m_Web T.cl_Web T.na_Web_book)) (b_cons (bFl (wR 0) (wDc [("kind", 2)] nd (pi_it (wFld (clsOk T.m_Book T.cl_Book T.na_Book_order) (wR 1))) (blkOk_by (N := N_Web_init) (sc := defScope s_Web_init) (own := [("kind", 2)]) (by decide +kernel)) (fun _ _ _ _ _ => (gN 2 nd)) (fun _ _ _ _ _ => PV.ptsr_nil) (fun _ _ _ _ _ => (wV 2)) (fun _ _ _ _ _ => (wCall (ok_kinds_from T) (hr.mono (by decide)) T.m_kinds_from T.F_kinds_from.kp T.b_kinds_from (pac (wE (wV 1)) (pac (wE (wLst (pac (wE (wV 2)) par_nil))) par_nil))))) (clsOk T.m_Web T.cl_Web T.na_Web_reach)) (b_cons (bNe (wR 0) (wLst par_nil) (clsOk T.m_Web T.cl_Web T.na_Web_lots) (ghostOk (g := "self.lots") (sc := defScope s_Web_init) (by rfl) (by rfl) (by decide +kernel))) (b_cons (bNe (wR 0) px_dnewK (clsOk T.m_Web T.cl_Web T.na_Web_lot_of) (ghostOk (g := "self.lot_of") (sc := defScope s_Web_init) (by rfl) (by rfl) (by decide +kernel))) (b_cons (bNe (wR 0) px_dnewT (clsOk T.m_Web T.cl_Web T.na_Web_word_of) (ghostOk (g := "self.word_of") (sc := defScope s_Web_init) (by rfl) (by rfl) (by decide +kernel))) (b_cons (bNe (wR 0) px_dnewT (clsOk T.m_Web T.cl_Web T.na_Web_below) (ghostOk (g := "self.below") (sc := defScope s_Web_init) (by rfl) (by rfl) (by decide +kernel))) (b_cons (b_frz (b_frz (b_frz (b_frz (b_gen (sFor PassesOwn.never (pi_it (wFld (clsOk T.m_Book T.cl_Book T.na_Book_order) (wR 1))) (gN 2 nd) (a := m_Web_init_1) (ss_kill (ss_one (s_if (tNi hu (wR 2) (wFj (clsOk T.m_Web T.cl_Web T.na_Web_lot_of) (wR 0))) (ss_one (sDrop (wObj (wR 0) T.m_Web T.cl_Web T.t_Web_look_at (ok_Web_look_at T) (hr.mono (by decide)) T.b_Web_look_at (pac (wE (wV 2)) par_nil) (fun fl gs ds r h => mObj_k (m := m_Web_look_at) fl gs ds r h)))) ss_nil))))))))) b_nil))))))) : PBs _ _ _ m_Web_init)
theorem ok_lots (T : Tx K mg) : FnOk P w K mg base CX0 5 T.a_lots T.d_lots ["book"] (spF K mg [false] f_lots) :=
  fn_ok T.F_lots sc_lots rfl fun cdv A outer s H E hr => (have hu := room64 hr; have nd := sc_lots.nd; (ss_one (s_ret (px_fr (wFld (clsOk T.m_Web T.cl_Web T.na_Web_lots) (wE (wMake T.mk_Web (ok_Web_init T) (hr.mono (by decide)) T.m_Web T.b_Web_init (pac (wE (wV 0)) par_nil))))))) : PSts _ _ m_lots)
theorem ok__law_sets (T : Tx K mg) : FnOk P w K mg base CX0 1 T.a__law_sets T.d__law_sets ["_law_told", "_law_new"] (spF K mg [false, false] f__law_sets) :=
  fn_ok T.F__law_sets sc__law_sets rfl fun cdv A outer s H E hr => (have hu := room64 hr; have nd := sc__law_sets.nd; (ss_one (s_ret (wSortedG T.n_sorted hu (wE (wLc [("_law_lot", 2)] nd (pi_it (wV 0)) (blkOk_by (N := N__law_sets) (sc := defScope s__law_sets) (own := [("_law_lot", 2)]) (by decide +kernel)) (fun _ _ _ _ _ => (gN 2 nd)) (fun _ _ _ _ _ => PV.ptsr_nil) (fun _ _ _ _ _ => (wSortedG T.n_sorted hu (wE (wLc [("_law_kind", 3)] nd (pi_it (wV 2)) (blkOk_by (own := [("_law_kind", 3)]) (by with_unfolding_all rfl)) (fun _ _ _ _ _ => (gN 3 nd)) (fun _ _ _ _ _ => PV.ptsr_nil) (fun _ _ _ _ _ => (wIx hu (wR 1) (wR 3)))))))))))) : PSts _ _ m__law_sets)
theorem ok__law_heap_2 (T : Tx K mg) : FnOk P w K mg base CX0 3 T.a__law_heap_2 T.d__law_heap_2 ["_law_source", "_law_rows"] (spF K mg [true, false] f__law_heap_2) :=
  fn_ok T.F__law_heap_2 sc__law_heap_2 rfl fun cdv A outer s H E hr => (have hu := room64 hr; have nd := sc__law_heap_2.nd; (ss_cons (sSet 2 nd px_dnewK) (ss_cons (sFor PassesOwn.never (iRng T.n_range (wE (wCall (ok__law_one T) (hr.mono (by decide)) T.m__law_one T.F__law_one.kp T.b__law_one (pac (wR 0) (pac (wE (wLst (pac (wE px_int) (pac (wE px_int) (pac (wE px_int) (pac (wE px_int) (pac (wE px_int) par_nil))))))) par_nil))))) (gN 3 nd) (a := m__law_heap_2_1) (ss_cons (sSet 4 nd (wCall (ok__law_one T) (hr.mono (by decide)) T.m__law_one T.F__law_one.kp T.b__law_one (pac (wR 0) (pac (wE (wLst (pac (wE px_int) (pac (wE px_int) (pac (wE px_int) (pac (wE px_int) (pac (wE (wAdd (wE px_int) (wE (wCall (ok__law_next T) (hr.mono (by decide)) T.m__law_next T.F__law_next.kp T.b__law_next (pac (wR 0) (pac (wE px_int) par_nil)))))) (pac (wE (wAdd (wE (wPow (wE px_int) (wE px_int))) (wE (wCall (ok__law_next T) (hr.mono (by decide)) T.m__law_next T.F__law_next.kp T.b__law_next (pac (wR 0) (pac (wE px_int) par_nil)))))) par_nil)))))))) par_nil)))) (ss_one (sPut hu (wR 2) (wV 4) (wE (wIx hu (wE (wCall (ok__law_one T) (hr.mono (by decide)) T.m__law_one T.F__law_one.kp T.b__law_one (pac (wR 0) (pac (wE (wV 1)) par_nil)))) (wE px_int))))))) (ss_one (s_ret (wM 2))))) : PSts _ _ m__law_heap_2)
theorem ok__law_by_names_c (T : Tx K mg) : FnOk P w K mg base CX0 1 T.a__law_by_names_c T.d__law_by_names_c ["_law_heap_here", "_law_new"] (spF K mg [false, false] f__law_by_names_c) :=
  fn_ok T.F__law_by_names_c sc__law_by_names_c rfl fun cdv A outer s H E hr => (have hu := room64 hr; have nd := sc__law_by_names_c.nd; (ss_one (s_ret (wDict T.n_dict (wE (wLc [("_law_kind", 2)] nd (pi_it (wV 0)) (blkOk_by (N := N__law_by_names_c) (sc := defScope s__law_by_names_c) (own := [("_law_kind", 2)]) (by decide +kernel)) (fun _ _ _ _ _ => (gN 2 nd)) (fun _ _ _ _ _ => PV.ptsr_nil) (fun _ _ _ _ _ => (wTup (pac (wE (wIx hu (wR 1) (wR 2))) (pac (wE (wIx hu (wR 0) (wR 2))) par_nil))))))))) : PSts _ _ m__law_by_names_c)
theorem ok_Book_has (T : Tx K mg) : FnOk P w K mg base CX0 2 T.a_Book_has T.d_Book_has ["self", "thing"] (spF K mg [false, false] f_Book_has) :=
  fn_ok T.F_Book_has sc_Book_has rfl fun cdv A outer s H E hr => (have hu := room64 hr; have nd := sc_Book_has.nd; (ss_one (s_ret (px_and (wCall (ok_is_name T) (hr.mono (by decide)) T.m_is_name T.F_is_name.kp T.b_is_name (pac (wE (wV 1)) par_nil)) (px_one (wIn hu (wR 1) (wE (wFld (clsOk T.m_Book T.cl_Book T.na_Book_order) (wR 0)))))))) : PSts _ _ m_Book_has)
theorem ok_look_in (T : Tx K mg) : FnOk P w K mg base CX0 3 T.a_look_in T.d_look_in ["book", "heap"] (spF K mg [false, false] f_look_in) :=
  fn_ok T.F_look_in sc_look_in rfl fun cdv A outer s H E hr => (have hu := room64 hr; have nd := sc_look_in.nd; (ss_cons (s_if (PV.pt_N (tT (wIsa T.n_isinstance (wR 1) (wTy T.n_dict)))) ss_never ss_nil) (ss_one (sFor PassesOwn.never (iIts (wV 1)) (gT (gC (gN 2 nd) (gC (gN 3 nd) pgsr_nil))) (a := m_look_in_1) (ss_cons (s_if (PV.pt_N (tT (wMeth (wV 0) T.m_Book T.cl_Book T.t_Book_has (ok_Book_has T) (hr.mono (by decide)) T.b_Book_has (pac (wE (wV 2)) par_nil)))) ss_never ss_nil) (ss_one (s_if (PV.pt_N (tT (wCall (ok_is_whole T) (hr.mono (by decide)) T.m_is_whole T.F_is_whole.kp T.b_is_whole (pac (wE (wV 3)) (pac (wE px_int) par_nil))))) ss_never ss_nil)))))) : PSts _ _ m_look_in)
theorem ok_reached (T : Tx K mg) : FnOk P w K mg base CX0 4 T.a_reached T.d_reached ["book", "heap"] (spF K mg [false, false] f_reached) :=
  fn_ok T.F_reached sc_reached rfl fun cdv A outer s H E hr => (have hu := room64 hr; have nd := sc_reached.nd; (ss_cons (sDrop (wCall (ok_look_in T) (hr.mono (by decide)) T.m_look_in T.F_look_in.kp T.b_look_in (pac (wE (wV 0)) (pac (wE (wV 1)) par_nil)))) (ss_one (s_ret (wCall (ok_kinds_from T) (hr.mono (by decide)) T.m_kinds_from T.F_kinds_from.kp T.b_kinds_from (pac (wE (wV 0)) (pac (wE (wV 1)) par_nil)))))) : PSts _ _ m_reached)
theorem ok_Web_lots_from (T : Tx K mg) : FnOk P w K mg base CX0 2 T.a_Web_lots_from T.d_Web_lots_from ["self", "kinds"] (spF K mg [false, false] f_Web_lots_from) :=
  fn_ok T.F_Web_lots_from sc_Web_lots_from rfl fun cdv A outer s H E hr => (have hu := room64 hr; have nd := sc_Web_lots_from.nd; (ss_cons (sSet 2 nd (px_fr (wCall (ok_kinds_from T) (hr.mono (by decide)) T.m_kinds_from T.F_kinds_from.kp T.b_kinds_from (pac (wE (wFld (clsOk T.m_Web T.cl_Web T.na_Web_book) (wR 0))) (pac (wE (wV 1)) par_nil))))) (ss_one (s_ret (wLc [("lot", 3), ("word", 4)] nd (pi_it (wFld (clsOk T.m_Web T.cl_Web T.na_Web_lots) (wR 0))) (blkOk_by (N := N_Web_lots_from) (sc := defScope s_Web_lots_from) (own := [("lot", 3), ("word", 4)]) (by decide +kernel)) (fun _ _ _ _ _ => (gT (gC (gN 3 nd) (gC (gN 4 nd) pgsr_nil)))) (fun _ _ _ _ _ => (ptsr_one (tIn hu (wE (wIx hu (wR 3) (wE px_int))) (wR 2)))) (fun _ _ _ _ _ => (wV 3)))))) : PSts _ _ m_Web_lots_from)
theorem ok_comes (T : Tx K mg) : FnOk P w K mg base CX0 5 T.a_comes T.d_comes ["book", "heap"] (spF K mg [false, false] f_comes) :=
  fn_ok T.F_comes sc_comes rfl fun cdv A outer s H E hr => (have hu := room64 hr; have nd := sc_comes.nd; (ss_cons (sDrop (wCall (ok_look_in T) (hr.mono (by decide)) T.m_look_in T.F_look_in.kp T.b_look_in (pac (wE (wV 0)) (pac (wE (wV 1)) par_nil)))) (ss_one (s_ret (wMeth (wMake T.mk_Web (ok_Web_init T) (hr.mono (by decide)) T.m_Web T.b_Web_init (pac (wE (wV 0)) par_nil)) T.m_Web T.cl_Web T.t_Web_lots_from (ok_Web_lots_from T) (hr.mono (by decide)) T.b_Web_lots_from (pac (wE (wV 1)) par_nil))))) : PSts _ _ m_comes)
theorem ok_Web_upper_from (T : Tx K mg) : FnOk P w K mg base CX0 3 T.a_Web_upper_from T.d_Web_upper_from ["self", "kinds"] (spF K mg [false, false] f_Web_upper_from) :=
  fn_ok T.F_Web_upper_from sc_Web_upper_from rfl fun cdv A outer s H E hr => (have hu := room64 hr; have nd := sc_Web_upper_from.nd; (ss_cons (sSet 2 nd (px_fr (wMeth (wV 0) T.m_Web T.cl_Web T.t_Web_lots_from (ok_Web_lots_from T) (hr.mono (by decide)) T.b_Web_lots_from (pac (wE (wV 1)) par_nil)))) (ss_one (s_ret (wLc [("lot", 3)] nd (pi_it (wV 2)) (blkOk_by (N := N_Web_upper_from) (sc := defScope s_Web_upper_from) (own := [("lot", 3)]) (by decide +kernel)) (fun _ _ _ _ _ => (gN 3 nd)) (fun _ _ _ _ _ => (ptsr_one (PV.pt_N (tT (wAny T.n_any (wE (wLc [("other", 4)] nd (pi_it (wV 2)) (blkOk_by (own := [("other", 4)]) (by with_unfolding_all rfl)) (fun _ _ _ _ _ => (gN 4 nd)) (fun _ _ _ _ _ => (ptsr_one (tNe hu (wR 4) (wR 3)))) (fun _ _ _ _ _ => (wIn hu (wE (wIx hu (wR 3) (wE px_int))) (wE (wIx hu (wE (wFld (clsOk T.m_Web T.cl_Web T.na_Web_reach) (wR 0))) (wE (wIx hu (wR 4) (wE px_int)))))))))))))) (fun _ _ _ _ _ => (wV 3)))))) : PSts _ _ m_Web_upper_from)
theorem ok_upper (T : Tx K mg) : FnOk P w K mg base CX0 5 T.a_upper T.d_upper ["book", "heap"] (spF K mg [false, false] f_upper) :=
  fn_ok T.F_upper sc_upper rfl fun cdv A outer s H E hr => (have hu := room64 hr; have nd := sc_upper.nd; (ss_cons (sDrop (wCall (ok_look_in T) (hr.mono (by decide)) T.m_look_in T.F_look_in.kp T.b_look_in (pac (wE (wV 0)) (pac (wE (wV 1)) par_nil)))) (ss_one (s_ret (wMeth (wMake T.mk_Web (ok_Web_init T) (hr.mono (by decide)) T.m_Web T.b_Web_init (pac (wE (wV 0)) par_nil)) T.m_Web T.cl_Web T.t_Web_upper_from (ok_Web_upper_from T) (hr.mono (by decide)) T.b_Web_upper_from (pac (wE (wV 1)) par_nil))))) : PSts _ _ m_upper)
theorem ok_law (T : Tx K mg) : FnOk P w K mg base CX0 8 T.a_law T.d_law ["_law_script"] (spF K mg [false] f_law) :=
  fn_ok T.F_law sc_law rfl fun cdv A outer s H E hr => (have hu := room64 hr; have nd := sc_law.nd; (ss_cons (sFor PassesOwn.never (pi_it (wAdd (wE (wLst (pac (wE (wCall (ok__law_cell_at T) (hr.mono (by decide)) T.m__law_cell_at T.F__law_cell_at.kp T.b__law_cell_at (pac (wE (wV 0)) (pac (wE px_int) par_nil)))) par_nil))) (wE (px_slice (wR 0) (por_some px_int) (por_some px_int))))) (gN 1 nd) (a := m_law_3) (ss_kill (ss_cons (sSet 2 nd (wCall (ok__law_source_of T) (hr.mono (by decide)) T.m__law_source_of T.F__law_source_of.kp T.b__law_source_of (pac (wE (wV 1)) par_nil))) (ss_cons (sSet 3 nd (px_fr (wCall (ok__law_twelve T) (hr.mono (by decide)) T.m__law_twelve T.F__law_twelve.kp T.b__law_twelve (pac (wR 2) par_nil)))) (ss_cons (sSetT (wCall (ok__law_turned_2 T) (hr.mono (by decide)) T.m__law_turned_2 T.F__law_turned_2.kp T.b__law_turned_2 (pac (wR 2) (pac (wE (wV 3)) par_nil))) (gT (gC (gN 4 nd) (gC (gN 5 nd) pgsr_nil)))) (ss_cons (sSet 6 nd (px_fr (wDict T.n_dict (wE (wLc [("_law_kind", 16), ("_law_its", 17)] nd (pi_it (wV 4)) (blkOk_by (N := N_law) (sc := defScope s_law) (own := [("_law_kind", 16), ("_law_its", 17)]) (by decide +kernel)) (fun _ _ _ _ _ => (gT (gC (gN 16 nd) (gC (gN 17 nd) pgsr_nil)))) (fun _ _ _ _ _ => PV.ptsr_nil) (fun _ _ _ _ _ => (wTup (pac (wE (wV 16)) (pac (wE (wV 16)) par_nil))))))))) (ss_cons (sPar nd (pac (wE (wMake T.mk_Book (ok_Book_init T) (hr.mono (by decide)) T.m_Book T.b_Book_init (pac (wE (wV 3)) par_nil))) (pac (wE (wMake T.mk_Book (ok_Book_init T) (hr.mono (by decide)) T.m_Book T.b_Book_init (pac (wE (wV 4)) par_nil))) par_nil)) (by decide)) (ss_cons (sFor PassesOwn.never (pi_it (wLst (pac (wE px_str) (pac (wE px_str) par_nil)))) (gN 9 nd) (a := m_law_1) (ss_kill (ss_cons (sLc 10 [("_law_lot", 18), ("_law_its", 17)] nd (pi_it (wCall (ok_lots T) (hr.mono (by decide)) T.m_lots T.F_lots.kp T.b_lots (pac (wE (wV 7)) par_nil))) (blkOk_by (N := N_law) (sc := defScope s_law) (own := [("_law_lot", 18), ("_law_its", 17)]) (by decide +kernel)) (fun _ _ _ _ _ => (gT (gC (gN 18 nd) (gC (gN 17 nd) pgsr_nil)))) (fun _ _ _ _ _ => (ptsr_one (tEq hu (wR 17) (wR 9)))) (fun _ _ _ _ _ => (wV 18)) (hsw := sw_true rfl rfl rfl (by decide +kernel))) (ss_one (s_if (tNe hu (wE (wCall (ok__law_sets T) (hr.mono (by decide)) T.m__law_sets T.F__law_sets.kp T.b__law_sets (pac (wE (wV 10)) (pac (wE (wV 5)) par_nil)))) (wE (wCall (ok__law_sets T) (hr.mono (by decide)) T.m__law_sets T.F__law_sets.kp T.b__law_sets (pac (wE (wLc [("_law_lot", 18), ("_law_its", 17)] nd (pi_it (wCall (ok_lots T) (hr.mono (by decide)) T.m_lots T.F_lots.kp T.b_lots (pac (wE (wV 8)) par_nil))) (blkOk_by (N := N_law) (sc := defScope s_law) (own := [("_law_lot", 18), ("_law_its", 17)]) (by decide +kernel)) (fun _ _ _ _ _ => (gT (gC (gN 18 nd) (gC (gN 17 nd) pgsr_nil)))) (fun _ _ _ _ _ => (ptsr_one (tEq hu (wR 17) (wR 9)))) (fun _ _ _ _ _ => (wV 18)))) (pac (wE (wV 6)) par_nil))))) (ss_one (s_ret px_bl)) ss_nil))))) (ss_cons (sSet 11 nd (px_fr (wLc [("_law_kind", 16), ("_law_its", 17)] nd (pi_it (wV 4)) (blkOk_by (N := N_law) (sc := defScope s_law) (own := [("_law_kind", 16), ("_law_its", 17)]) (by decide +kernel)) (fun _ _ _ _ _ => (gT (gC (gN 16 nd) (gC (gN 17 nd) pgsr_nil)))) (fun _ _ _ _ _ => PV.ptsr_nil) (fun _ _ _ _ _ => (wV 16))))) (ss_cons (sLc 12 [("_law_lot", 18), ("_law_its", 17)] nd (pi_it (wCall (ok_lots T) (hr.mono (by decide)) T.m_lots T.F_lots.kp T.b_lots (pac (wE (wV 8)) par_nil))) (blkOk_by (N := N_law) (sc := defScope s_law) (own := [("_law_lot", 18), ("_law_its", 17)]) (by decide +kernel)) (fun _ _ _ _ _ => (gT (gC (gN 18 nd) (gC (gN 17 nd) pgsr_nil)))) (fun _ _ _ _ _ => PV.ptsr_nil) (fun _ _ _ _ _ => (wMin T.n_min (wE (wLc [("_law_kind", 16)] nd (pi_it (wV 18)) (blkOk_by (own := [("_law_kind", 16)]) (by with_unfolding_all rfl)) (fun _ _ _ _ _ => (gN 16 nd)) (fun _ _ _ _ _ => PV.ptsr_nil) (fun _ _ _ _ _ => (wIdx (wR 11) (wR 16))))))) (hsw := sw_true rfl rfl rfl (by decide +kernel))) (ss_cons (s_if (tNe hu (wR 12) (wE (wSortedG T.n_sorted hu (wR 12)))) (ss_one (s_ret px_bl)) ss_nil) (ss_one (sFor PassesOwn.never (iRng T.n_range (wE px_int)) (gN 13 nd) (a := m_law_2) (ss_kill (ss_cons (sSet 14 nd (px_fr (wCall (ok__law_heap_2 T) (hr.mono (by decide)) T.m__law_heap_2 T.F__law_heap_2.kp T.b__law_heap_2 (pac (wR 2) (pac (wE (wV 3)) par_nil))))) (ss_cons (sSet 15 nd (px_fr (wCall (ok__law_by_names_c T) (hr.mono (by decide)) T.m__law_by_names_c T.F__law_by_names_c.kp T.b__law_by_names_c (pac (wE (wV 14)) (pac (wE (wV 5)) par_nil))))) (ss_cons (s_if (tNe hu (wE (wSortedG T.n_sorted hu (wE (wLc [("_law_kind", 16)] nd (pi_it (wCall (ok_reached T) (hr.mono (by decide)) T.m_reached T.F_reached.kp T.b_reached (pac (wE (wV 7)) (pac (wE (wV 14)) par_nil)))) (blkOk_by (N := N_law) (sc := defScope s_law) (own := [("_law_kind", 16)]) (by decide +kernel)) (fun _ _ _ _ _ => (gN 16 nd)) (fun _ _ _ _ _ => PV.ptsr_nil) (fun _ _ _ _ _ => (wIx hu (wR 5) (wR 16))))))) (wE (wSortedG T.n_sorted hu (wE (wCall (ok_reached T) (hr.mono (by decide)) T.m_reached T.F_reached.kp T.b_reached (pac (wE (wV 8)) (pac (wE (wV 15)) par_nil))))))) (ss_one (s_ret px_bl)) ss_nil) (ss_cons (s_if (tNe hu (wE (wCall (ok__law_sets T) (hr.mono (by decide)) T.m__law_sets T.F__law_sets.kp T.b__law_sets (pac (wE (wCall (ok_comes T) (hr.mono (by decide)) T.m_comes T.F_comes.kp T.b_comes (pac (wE (wV 7)) (pac (wE (wV 14)) par_nil)))) (pac (wE (wV 5)) par_nil)))) (wE (wCall (ok__law_sets T) (hr.mono (by decide)) T.m__law_sets T.F__law_sets.kp T.b__law_sets (pac (wE (wCall (ok_comes T) (hr.mono (by decide)) T.m_comes T.F_comes.kp T.b_comes (pac (wE (wV 8)) (pac (wE (wV 15)) par_nil)))) (pac (wE (wV 6)) par_nil))))) (ss_one (s_ret px_bl)) ss_nil) (ss_one (s_if (tNe hu (wE (wCall (ok__law_sets T) (hr.mono (by decide)) T.m__law_sets T.F__law_sets.kp T.b__law_sets (pac (wE (wCall (ok_upper T) (hr.mono (by decide)) T.m_upper T.F_upper.kp T.b_upper (pac (wE (wV 7)) (pac (wE (wV 14)) par_nil)))) (pac (wE (wV 5)) par_nil)))) (wE (wCall (ok__law_sets T) (hr.mono (by decide)) T.m__law_sets T.F__law_sets.kp T.b__law_sets (pac (wE (wCall (ok_upper T) (hr.mono (by decide)) T.m_upper T.F_upper.kp T.b_upper (pac (wE (wV 8)) (pac (wE (wV 15)) par_nil)))) (pac (wE (wV 6)) par_nil))))) (ss_one (s_ret px_bl)) ss_nil)))))))))))))))))))) (ss_one (s_ret px_bl))) : PSts _ _ m_law)
end
def spLaw (K : PySem.W.Frag) : Sp := fun vs H Q _ => ∃ (a : Addr) (ns : List Int), vs = [.ref a] ∧ SqL K H a (ns.map V.int) ∧ ns.length ≤ 63 ∧ ∀ H', Q (.bl true) H'
theorem law_sp (plain : ∀ ns : List Int, ns.length ≤ 63 → f_law [.scr ns] = some (.fz (.bl true), [.non])) {K : PySem.W.Frag} {mg : Str → Option Value} {vs : List V} {H : Hp} {Q : VK} {E : XK} (h : spLaw K vs H Q E) : spF K mg [false] f_law vs H Q E := by
  obtain ⟨a, ns, rfl, hS, hl, q⟩ := h
  refine ⟨⟨fun _ => none, []⟩, H, [.scr ns], .fz (.bl true), [.non], rfl, rfl, rfl, rfl, ⟨fun _ _ z => z, fun _ _ z => (nomatch z), fun _ _ z => (nomatch z), rfl, fun i b e => ?_, fun i p m => (nomatch m), fun i j b c p e1 e2 o1 => ?_⟩, plain ns hl, fun v F H' k st av => ?_⟩
  · cases i with
    | zero =>
      have e : SV.fz (.scr ns) = b := Option.some.inj e
      subst e
      exact ⟨_, rfl, .ref a, rfl, by unfold Rep; exact ⟨a, rfl, hS⟩⟩
    | succ i => exact nomatch e
  · cases i with
    | zero =>
      have e : SV.fz (.scr ns) = b := Option.some.inj e1
      subst e
      cases o1
    | succ i => exact nomatch e1
  · rw [av_bl' av]
    exact q H'
set_option maxHeartbeats 0 in
theorem all_mk (plain : ∀ ns : List Int, ns.length ≤ 63 → f_law [.scr ns] = some (.fz (.bl true), [.non])) {l : PySem.W.OpenLaw} {w : World} {K : PySem.W.Frag} {h : Heap} {mg : Str → Option Value} {fa : Addr}
    {f1 : Addr} {od1 an1 : Option Addr} {sl1 : Array (Option Value)} {oc1 kV1 dc1 pm1 cd1 ct1 : Value}
    {f2 : Addr} {od2 an2 : Option Addr} {sl2 : Array (Option Value)} {oc2 kV2 dc2 pm2 cd2 ct2 : Value}
    {f3 : Addr} {od3 an3 : Option Addr} {sl3 : Array (Option Value)} {oc3 kV3 dc3 pm3 cd3 ct3 : Value}
    {f4 : Addr} {od4 an4 : Option Addr} {sl4 : Array (Option Value)} {oc4 kV4 dc4 pm4 cd4 ct4 : Value}
    {f5 : Addr} {od5 an5 : Option Addr} {sl5 : Array (Option Value)} {oc5 kV5 dc5 pm5 cd5 ct5 : Value}
    {f6 : Addr} {od6 an6 : Option Addr} {sl6 : Array (Option Value)} {oc6 kV6 dc6 pm6 cd6 ct6 : Value}
    {f7 : Addr} {od7 an7 : Option Addr} {sl7 : Array (Option Value)} {oc7 kV7 dc7 pm7 cd7 ct7 : Value}
    {f8 : Addr} {od8 an8 : Option Addr} {sl8 : Array (Option Value)} {oc8 kV8 dc8 pm8 cd8 ct8 : Value}
    {f9 : Addr} {od9 an9 : Option Addr} {sl9 : Array (Option Value)} {oc9 kV9 dc9 pm9 cd9 ct9 : Value}
    {f10 : Addr} {od10 an10 : Option Addr} {sl10 : Array (Option Value)} {oc10 kV10 dc10 pm10 cd10 ct10 : Value}
    {f11 : Addr} {od11 an11 : Option Addr} {sl11 : Array (Option Value)} {oc11 kV11 dc11 pm11 cd11 ct11 : Value}
    {f12 : Addr} {od12 an12 : Option Addr} {sl12 : Array (Option Value)} {oc12 kV12 dc12 pm12 cd12 ct12 : Value}
    {f13 : Addr} {od13 an13 : Option Addr} {sl13 : Array (Option Value)} {oc13 kV13 dc13 pm13 cd13 ct13 : Value}
    {f14 : Addr} {od14 an14 : Option Addr} {sl14 : Array (Option Value)} {oc14 kV14 dc14 pm14 cd14 ct14 : Value}
    {f15 : Addr} {od15 an15 : Option Addr} {sl15 : Array (Option Value)} {oc15 kV15 dc15 pm15 cd15 ct15 : Value}
    {f16 : Addr} {od16 an16 : Option Addr} {sl16 : Array (Option Value)} {oc16 kV16 dc16 pm16 cd16 ct16 : Value}
    {f17 : Addr} {od17 an17 : Option Addr} {sl17 : Array (Option Value)} {oc17 kV17 dc17 pm17 cd17 ct17 : Value}
    {f18 : Addr} {od18 an18 : Option Addr} {sl18 : Array (Option Value)} {oc18 kV18 dc18 pm18 cd18 ct18 : Value}
    {f19 : Addr} {od19 an19 : Option Addr} {sl19 : Array (Option Value)} {oc19 kV19 dc19 pm19 cd19 ct19 : Value}
    {f20 : Addr} {od20 an20 : Option Addr} {sl20 : Array (Option Value)} {oc20 kV20 dc20 pm20 cd20 ct20 : Value}
    {f21 : Addr} {od21 an21 : Option Addr} {sl21 : Array (Option Value)} {oc21 kV21 dc21 pm21 cd21 ct21 : Value}
    {f22 : Addr} {od22 an22 : Option Addr} {sl22 : Array (Option Value)} {oc22 kV22 dc22 pm22 cd22 ct22 : Value}
    {f23 : Addr} {od23 an23 : Option Addr} {sl23 : Array (Option Value)} {oc23 kV23 dc23 pm23 cd23 ct23 : Value}
    {f24 : Addr} {od24 an24 : Option Addr} {sl24 : Array (Option Value)} {oc24 kV24 dc24 pm24 cd24 ct24 : Value}
    {f25 : Addr} {od25 an25 : Option Addr} {sl25 : Array (Option Value)} {oc25 kV25 dc25 pm25 cd25 ct25 : Value}
    {f26 : Addr} {od26 an26 : Option Addr} {sl26 : Array (Option Value)} {oc26 kV26 dc26 pm26 cd26 ct26 : Value}
    {f27 : Addr} {od27 an27 : Option Addr} {sl27 : Array (Option Value)} {oc27 kV27 dc27 pm27 cd27 ct27 : Value}
    {f28 : Addr} {od28 an28 : Option Addr} {sl28 : Array (Option Value)} {oc28 kV28 dc28 pm28 cd28 ct28 : Value}
    {f29 : Addr} {od29 an29 : Option Addr} {sl29 : Array (Option Value)} {oc29 kV29 dc29 pm29 cd29 ct29 : Value}
    {f30 : Addr} {od30 an30 : Option Addr} {sl30 : Array (Option Value)} {oc30 kV30 dc30 pm30 cd30 ct30 : Value}
    {f31 : Addr} {od31 an31 : Option Addr} {sl31 : Array (Option Value)} {oc31 kV31 dc31 pm31 cd31 ct31 : Value}
    {f32 : Addr} {od32 an32 : Option Addr} {sl32 : Array (Option Value)} {oc32 kV32 dc32 pm32 cd32 ct32 : Value}
    {C_Book : Addr}
    {C_Web : Addr}
    {t_LETTERS : Tok}
    {t_LONGEST : Tok}
    {t_MOST_KINDS : Tok}
    {t_MOST_OF_A_KIND : Tok}
    (X : K.In h) (G : h.Ns mainGlobals mg) (hfa : mg "law" = some (.ref fa))
    (g_Book : PySem.W.nsIn K mainGlobals "Book" = some (some (.ref C_Book)))
    (g_Web : PySem.W.nsIn K mainGlobals "Web" = some (some (.ref C_Web)))
    (a1 : PySem.W.nsIn K mainGlobals "_law_cell_at" = some (some (.ref f1)))
    (l1 : K.lookup f1 = some ⟨oc1, od1, .func (PySem.W.fnOf "_law_cell_at" "_law_cell_at" (defArgs s__law_cell_at) (defBody s__law_cell_at) (defScope s__law_cell_at) .none kV1 dc1 pm1 an1 cd1 ct1), sl1⟩)
    (c1 : PySem.W.codeIn K cd1 "_law_cell_at" = true)
    (k1 : PySem.W.keepIn K (.ref f1) = true)
    (a2 : PySem.W.nsIn K mainGlobals "_law_source_of" = some (some (.ref f2)))
    (l2 : K.lookup f2 = some ⟨oc2, od2, .func (PySem.W.fnOf "_law_source_of" "_law_source_of" (defArgs s__law_source_of) (defBody s__law_source_of) (defScope s__law_source_of) .none kV2 dc2 pm2 an2 cd2 ct2), sl2⟩)
    (c2 : PySem.W.codeIn K cd2 "_law_source_of" = true)
    (k2 : PySem.W.keepIn K (.ref f2) = true)
    (a3 : PySem.W.nsIn K mainGlobals "_law_next" = some (some (.ref f3)))
    (l3 : K.lookup f3 = some ⟨oc3, od3, .func (PySem.W.fnOf "_law_next" "_law_next" (defArgs s__law_next) (defBody s__law_next) (defScope s__law_next) .none kV3 dc3 pm3 an3 cd3 ct3), sl3⟩)
    (c3 : PySem.W.codeIn K cd3 "_law_next" = true)
    (k3 : PySem.W.keepIn K (.ref f3) = true)
    (a4 : PySem.W.nsIn K mainGlobals "_law_mixed" = some (some (.ref f4)))
    (l4 : K.lookup f4 = some ⟨oc4, od4, .func (PySem.W.fnOf "_law_mixed" "_law_mixed" (defArgs s__law_mixed) (defBody s__law_mixed) (defScope s__law_mixed) .none kV4 dc4 pm4 an4 cd4 ct4), sl4⟩)
    (c4 : PySem.W.codeIn K cd4 "_law_mixed" = true)
    (k4 : PySem.W.keepIn K (.ref f4) = true)
    (a5 : PySem.W.nsIn K mainGlobals "_law_one" = some (some (.ref f5)))
    (l5 : K.lookup f5 = some ⟨oc5, od5, .func (PySem.W.fnOf "_law_one" "_law_one" (defArgs s__law_one) (defBody s__law_one) (defScope s__law_one) .none kV5 dc5 pm5 an5 cd5 ct5), sl5⟩)
    (c5 : PySem.W.codeIn K cd5 "_law_one" = true)
    (k5 : PySem.W.keepIn K (.ref f5) = true)
    (a6 : PySem.W.nsIn K mainGlobals "_law_twelve" = some (some (.ref f6)))
    (l6 : K.lookup f6 = some ⟨oc6, od6, .func (PySem.W.fnOf "_law_twelve" "_law_twelve" (defArgs s__law_twelve) (defBody s__law_twelve) (defScope s__law_twelve) .none kV6 dc6 pm6 an6 cd6 ct6), sl6⟩)
    (c6 : PySem.W.codeIn K cd6 "_law_twelve" = true)
    (k6 : PySem.W.keepIn K (.ref f6) = true)
    (a7 : PySem.W.nsIn K mainGlobals "_law_turned" = some (some (.ref f7)))
    (l7 : K.lookup f7 = some ⟨oc7, od7, .func (PySem.W.fnOf "_law_turned" "_law_turned" (defArgs s__law_turned_2) (defBody s__law_turned_2) (defScope s__law_turned_2) .none kV7 dc7 pm7 an7 cd7 ct7), sl7⟩)
    (c7 : PySem.W.codeIn K cd7 "_law_turned" = true)
    (k7 : PySem.W.keepIn K (.ref f7) = true)
    (a8 : PySem.W.nsIn K mainGlobals "is_row" = some (some (.ref f8)))
    (l8 : K.lookup f8 = some ⟨oc8, od8, .func (PySem.W.fnOf "is_row" "is_row" (defArgs s_is_row) (defBody s_is_row) (defScope s_is_row) .none kV8 dc8 pm8 an8 cd8 ct8), sl8⟩)
    (c8 : PySem.W.codeIn K cd8 "is_row" = true)
    (k8 : PySem.W.keepIn K (.ref f8) = true)
    (a9 : PySem.W.nsIn K mainGlobals "is_name" = some (some (.ref f9)))
    (l9 : K.lookup f9 = some ⟨oc9, od9, .func (PySem.W.fnOf "is_name" "is_name" (defArgs s_is_name) (defBody s_is_name) (defScope s_is_name) .none kV9 dc9 pm9 an9 cd9 ct9), sl9⟩)
    (c9 : PySem.W.codeIn K cd9 "is_name" = true)
    (k9 : PySem.W.keepIn K (.ref f9) = true)
    (a10 : PySem.W.nsIn K mainGlobals "row_amiss" = some (some (.ref f10)))
    (l10 : K.lookup f10 = some ⟨oc10, od10, .func (PySem.W.fnOf "row_amiss" "row_amiss" (defArgs s_row_amiss) (defBody s_row_amiss) (defScope s_row_amiss) .none kV10 dc10 pm10 an10 cd10 ct10), sl10⟩)
    (c10 : PySem.W.codeIn K cd10 "row_amiss" = true)
    (k10 : PySem.W.keepIn K (.ref f10) = true)
    (a11 : PySem.W.nsIn K mainGlobals "is_whole" = some (some (.ref f11)))
    (l11 : K.lookup f11 = some ⟨oc11, od11, .func (PySem.W.fnOf "is_whole" "is_whole" (defArgs s_is_whole) (defBody s_is_whole) (defScope s_is_whole) .none kV11 dc11 pm11 an11 cd11 ct11), sl11⟩)
    (c11 : PySem.W.codeIn K cd11 "is_whole" = true)
    (k11 : PySem.W.keepIn K (.ref f11) = true)
    (a12 : PySem.W.nsIn K mainGlobals "look_heap" = some (some (.ref f12)))
    (l12 : K.lookup f12 = some ⟨oc12, od12, .func (PySem.W.fnOf "look_heap" "look_heap" (defArgs s_look_heap) (defBody s_look_heap) (defScope s_look_heap) .none kV12 dc12 pm12 an12 cd12 ct12), sl12⟩)
    (c12 : PySem.W.codeIn K cd12 "look_heap" = true)
    (k12 : PySem.W.keepIn K (.ref f12) = true)
    (a13 : PySem.W.nsIn K mainGlobals "is_heap" = some (some (.ref f13)))
    (l13 : K.lookup f13 = some ⟨oc13, od13, .func (PySem.W.fnOf "is_heap" "is_heap" (defArgs s_is_heap) (defBody s_is_heap) (defScope s_is_heap) .none kV13 dc13 pm13 an13 cd13 ct13), sl13⟩)
    (c13 : PySem.W.codeIn K cd13 "is_heap" = true)
    (k13 : PySem.W.keepIn K (.ref f13) = true)
    (a14 : PySem.W.nsIn K mainGlobals "law_amiss" = some (some (.ref f14)))
    (l14 : K.lookup f14 = some ⟨oc14, od14, .func (PySem.W.fnOf "law_amiss" "law_amiss" (defArgs s_law_amiss) (defBody s_law_amiss) (defScope s_law_amiss) .none kV14 dc14 pm14 an14 cd14 ct14), sl14⟩)
    (c14 : PySem.W.codeIn K cd14 "law_amiss" = true)
    (k14 : PySem.W.keepIn K (.ref f14) = true)
    (a15 : PySem.W.nsIn K mainGlobals "look_rows" = some (some (.ref f15)))
    (l15 : K.lookup f15 = some ⟨oc15, od15, .func (PySem.W.fnOf "look_rows" "look_rows" (defArgs s_look_rows) (defBody s_look_rows) (defScope s_look_rows) .none kV15 dc15 pm15 an15 cd15 ct15), sl15⟩)
    (c15 : PySem.W.codeIn K cd15 "look_rows" = true)
    (k15 : PySem.W.keepIn K (.ref f15) = true)
    (a16 : PySem.W.findIn K (.ref C_Book) "__init__" = some (some (.ref f16)))
    (i16 : PySem.W.isFn K (.ref f16) = true)
    (l16 : K.lookup f16 = some ⟨oc16, od16, .func (PySem.W.fnOf "__init__" "Book.__init__" (defArgs s_Book_init) (defBody s_Book_init) (defScope s_Book_init) .none kV16 dc16 pm16 an16 cd16 ct16), sl16⟩)
    (c16 : PySem.W.codeIn K cd16 "Book.__init__" = true)
    (k16 : PySem.W.keepIn K (.ref f16) = true)
    (a17 : PySem.W.nsIn K mainGlobals "kinds_from" = some (some (.ref f17)))
    (l17 : K.lookup f17 = some ⟨oc17, od17, .func (PySem.W.fnOf "kinds_from" "kinds_from" (defArgs s_kinds_from) (defBody s_kinds_from) (defScope s_kinds_from) .none kV17 dc17 pm17 an17 cd17 ct17), sl17⟩)
    (c17 : PySem.W.codeIn K cd17 "kinds_from" = true)
    (k17 : PySem.W.keepIn K (.ref f17) = true)
    (a18 : PySem.W.nsIn K mainGlobals "things_of" = some (some (.ref f18)))
    (l18 : K.lookup f18 = some ⟨oc18, od18, .func (PySem.W.fnOf "things_of" "things_of" (defArgs s_things_of) (defBody s_things_of) (defScope s_things_of) .none kV18 dc18 pm18 an18 cd18 ct18), sl18⟩)
    (c18 : PySem.W.codeIn K cd18 "things_of" = true)
    (k18 : PySem.W.keepIn K (.ref f18) = true)
    (a19 : PySem.W.findIn K (.ref C_Web) "look_at" = some (some (.ref f19)))
    (i19 : PySem.W.isFn K (.ref f19) = true)
    (l19 : K.lookup f19 = some ⟨oc19, od19, .func (PySem.W.fnOf "look_at" "Web.look_at" (defArgs s_Web_look_at) (defBody s_Web_look_at) (defScope s_Web_look_at) .none kV19 dc19 pm19 an19 cd19 ct19), sl19⟩)
    (c19 : PySem.W.codeIn K cd19 "Web.look_at" = true)
    (k19 : PySem.W.keepIn K (.ref f19) = true)
    (a20 : PySem.W.findIn K (.ref C_Web) "__init__" = some (some (.ref f20)))
    (i20 : PySem.W.isFn K (.ref f20) = true)
    (l20 : K.lookup f20 = some ⟨oc20, od20, .func (PySem.W.fnOf "__init__" "Web.__init__" (defArgs s_Web_init) (defBody s_Web_init) (defScope s_Web_init) .none kV20 dc20 pm20 an20 cd20 ct20), sl20⟩)
    (c20 : PySem.W.codeIn K cd20 "Web.__init__" = true)
    (k20 : PySem.W.keepIn K (.ref f20) = true)
    (a21 : PySem.W.nsIn K mainGlobals "lots" = some (some (.ref f21)))
    (l21 : K.lookup f21 = some ⟨oc21, od21, .func (PySem.W.fnOf "lots" "lots" (defArgs s_lots) (defBody s_lots) (defScope s_lots) .none kV21 dc21 pm21 an21 cd21 ct21), sl21⟩)
    (c21 : PySem.W.codeIn K cd21 "lots" = true)
    (k21 : PySem.W.keepIn K (.ref f21) = true)
    (a22 : PySem.W.nsIn K mainGlobals "_law_sets" = some (some (.ref f22)))
    (l22 : K.lookup f22 = some ⟨oc22, od22, .func (PySem.W.fnOf "_law_sets" "_law_sets" (defArgs s__law_sets) (defBody s__law_sets) (defScope s__law_sets) .none kV22 dc22 pm22 an22 cd22 ct22), sl22⟩)
    (c22 : PySem.W.codeIn K cd22 "_law_sets" = true)
    (k22 : PySem.W.keepIn K (.ref f22) = true)
    (a23 : PySem.W.nsIn K mainGlobals "_law_heap" = some (some (.ref f23)))
    (l23 : K.lookup f23 = some ⟨oc23, od23, .func (PySem.W.fnOf "_law_heap" "_law_heap" (defArgs s__law_heap_2) (defBody s__law_heap_2) (defScope s__law_heap_2) .none kV23 dc23 pm23 an23 cd23 ct23), sl23⟩)
    (c23 : PySem.W.codeIn K cd23 "_law_heap" = true)
    (k23 : PySem.W.keepIn K (.ref f23) = true)
    (a24 : PySem.W.nsIn K mainGlobals "_law_by_names" = some (some (.ref f24)))
    (l24 : K.lookup f24 = some ⟨oc24, od24, .func (PySem.W.fnOf "_law_by_names" "_law_by_names" (defArgs s__law_by_names_c) (defBody s__law_by_names_c) (defScope s__law_by_names_c) .none kV24 dc24 pm24 an24 cd24 ct24), sl24⟩)
    (c24 : PySem.W.codeIn K cd24 "_law_by_names" = true)
    (k24 : PySem.W.keepIn K (.ref f24) = true)
    (a25 : PySem.W.findIn K (.ref C_Book) "has" = some (some (.ref f25)))
    (i25 : PySem.W.isFn K (.ref f25) = true)
    (l25 : K.lookup f25 = some ⟨oc25, od25, .func (PySem.W.fnOf "has" "Book.has" (defArgs s_Book_has) (defBody s_Book_has) (defScope s_Book_has) .none kV25 dc25 pm25 an25 cd25 ct25), sl25⟩)
    (c25 : PySem.W.codeIn K cd25 "Book.has" = true)
    (k25 : PySem.W.keepIn K (.ref f25) = true)
    (a26 : PySem.W.nsIn K mainGlobals "look_in" = some (some (.ref f26)))
    (l26 : K.lookup f26 = some ⟨oc26, od26, .func (PySem.W.fnOf "look_in" "look_in" (defArgs s_look_in) (defBody s_look_in) (defScope s_look_in) .none kV26 dc26 pm26 an26 cd26 ct26), sl26⟩)
    (c26 : PySem.W.codeIn K cd26 "look_in" = true)
    (k26 : PySem.W.keepIn K (.ref f26) = true)
    (a27 : PySem.W.nsIn K mainGlobals "reached" = some (some (.ref f27)))
    (l27 : K.lookup f27 = some ⟨oc27, od27, .func (PySem.W.fnOf "reached" "reached" (defArgs s_reached) (defBody s_reached) (defScope s_reached) .none kV27 dc27 pm27 an27 cd27 ct27), sl27⟩)
    (c27 : PySem.W.codeIn K cd27 "reached" = true)
    (k27 : PySem.W.keepIn K (.ref f27) = true)
    (a28 : PySem.W.findIn K (.ref C_Web) "lots_from" = some (some (.ref f28)))
    (i28 : PySem.W.isFn K (.ref f28) = true)
    (l28 : K.lookup f28 = some ⟨oc28, od28, .func (PySem.W.fnOf "lots_from" "Web.lots_from" (defArgs s_Web_lots_from) (defBody s_Web_lots_from) (defScope s_Web_lots_from) .none kV28 dc28 pm28 an28 cd28 ct28), sl28⟩)
    (c28 : PySem.W.codeIn K cd28 "Web.lots_from" = true)
    (k28 : PySem.W.keepIn K (.ref f28) = true)
    (a29 : PySem.W.nsIn K mainGlobals "comes" = some (some (.ref f29)))
    (l29 : K.lookup f29 = some ⟨oc29, od29, .func (PySem.W.fnOf "comes" "comes" (defArgs s_comes) (defBody s_comes) (defScope s_comes) .none kV29 dc29 pm29 an29 cd29 ct29), sl29⟩)
    (c29 : PySem.W.codeIn K cd29 "comes" = true)
    (k29 : PySem.W.keepIn K (.ref f29) = true)
    (a30 : PySem.W.findIn K (.ref C_Web) "upper_from" = some (some (.ref f30)))
    (i30 : PySem.W.isFn K (.ref f30) = true)
    (l30 : K.lookup f30 = some ⟨oc30, od30, .func (PySem.W.fnOf "upper_from" "Web.upper_from" (defArgs s_Web_upper_from) (defBody s_Web_upper_from) (defScope s_Web_upper_from) .none kV30 dc30 pm30 an30 cd30 ct30), sl30⟩)
    (c30 : PySem.W.codeIn K cd30 "Web.upper_from" = true)
    (k30 : PySem.W.keepIn K (.ref f30) = true)
    (a31 : PySem.W.nsIn K mainGlobals "upper" = some (some (.ref f31)))
    (l31 : K.lookup f31 = some ⟨oc31, od31, .func (PySem.W.fnOf "upper" "upper" (defArgs s_upper) (defBody s_upper) (defScope s_upper) .none kV31 dc31 pm31 an31 cd31 ct31), sl31⟩)
    (c31 : PySem.W.codeIn K cd31 "upper" = true)
    (k31 : PySem.W.keepIn K (.ref f31) = true)
    (a32 : PySem.W.nsIn K mainGlobals "law" = some (some (.ref f32)))
    (l32 : K.lookup f32 = some ⟨oc32, od32, .func (PySem.W.fnOf "law" "law" (defArgs s_law) (defBody s_law) (defScope s_law) .none kV32 dc32 pm32 an32 cd32 ct32), sl32⟩)
    (c32 : PySem.W.codeIn K cd32 "law" = true)
    (k32 : PySem.W.keepIn K (.ref f32) = true)
    (pg_Book : PySem.W.plainGet K C_Book Str.empty = true)
    (hd_Book : PySem.W.hasDictIn K C_Book = true)
    (po_Book : PySem.W.plainOver K C_Book = true)
    (sa_Book : PySem.W.findIn K (.ref C_Book) "__setattr__" = some (some (.builtin "object.__setattr__")))
    (mk_Book : PySem.W.makesIn K C_Book = true)
    (kc_Book : PySem.W.keepIn K (.ref C_Book) = true)
    (pg_Web : PySem.W.plainGet K C_Web Str.empty = true)
    (hd_Web : PySem.W.hasDictIn K C_Web = true)
    (po_Web : PySem.W.plainOver K C_Web = true)
    (sa_Web : PySem.W.findIn K (.ref C_Web) "__setattr__" = some (some (.builtin "object.__setattr__")))
    (mk_Web : PySem.W.makesIn K C_Web = true)
    (kc_Web : PySem.W.keepIn K (.ref C_Web) = true)
    (na_Book_laws : PySem.W.findIn K (.ref C_Book) "laws" = some none)
    (na_Book_order : PySem.W.findIn K (.ref C_Book) "order" = some none)
    (na_Book_rows : PySem.W.findIn K (.ref C_Book) "rows" = some none)
    (na_Web_below : PySem.W.findIn K (.ref C_Web) "below" = some none)
    (na_Web_book : PySem.W.findIn K (.ref C_Web) "book" = some none)
    (na_Web_lot_of : PySem.W.findIn K (.ref C_Web) "lot_of" = some none)
    (na_Web_lots : PySem.W.findIn K (.ref C_Web) "lots" = some none)
    (na_Web_reach : PySem.W.findIn K (.ref C_Web) "reach" = some none)
    (na_Web_word_of : PySem.W.findIn K (.ref C_Web) "word_of" = some none)
    (m_LETTERS : PySem.W.nsIn K mainGlobals "LETTERS" = some (some (.str "abcdefghijklmnopqrstuvwxyz" t_LETTERS)))
    (m_LONGEST : PySem.W.nsIn K mainGlobals "LONGEST" = some (some (.int 8 t_LONGEST)))
    (m_MOST_KINDS : PySem.W.nsIn K mainGlobals "MOST_KINDS" = some (some (.int 12 t_MOST_KINDS)))
    (m_MOST_OF_A_KIND : PySem.W.nsIn K mainGlobals "MOST_OF_A_KIND" = some (some (.int 99 t_MOST_OF_A_KIND)))
    (n_all : PySem.W.nsIn K mainGlobals "all" = some none)
    (n_any : PySem.W.nsIn K mainGlobals "any" = some none)
    (n_bool : PySem.W.nsIn K mainGlobals "bool" = some none)
    (n_dict : PySem.W.nsIn K mainGlobals "dict" = some none)
    (n_enumerate : PySem.W.nsIn K mainGlobals "enumerate" = some none)
    (n_int : PySem.W.nsIn K mainGlobals "int" = some none)
    (n_isinstance : PySem.W.nsIn K mainGlobals "isinstance" = some none)
    (n_len : PySem.W.nsIn K mainGlobals "len" = some none)
    (n_list : PySem.W.nsIn K mainGlobals "list" = some none)
    (n_max : PySem.W.nsIn K mainGlobals "max" = some none)
    (n_min : PySem.W.nsIn K mainGlobals "min" = some none)
    (n_range : PySem.W.nsIn K mainGlobals "range" = some none)
    (n_sorted : PySem.W.nsIn K mainGlobals "sorted" = some none)
    (n_str : PySem.W.nsIn K mainGlobals "str" = some none)
    (n_sum : PySem.W.nsIn K mainGlobals "sum" = some none)
    (n_tuple : PySem.W.nsIn K mainGlobals "tuple" = some none)
    : ∃ fd : FuncData, (∀ (s : Shared) (v : Value), BindsTo s fd ⟨[v], []⟩ [("_law_script", v)]) ∧ ∀ base : Heap, K.In base → base.Ns mainGlobals mg → FnOk l.prog w K mg base CX0 8 fa fd ["_law_script"] (spLaw K) := by
  have e := hfa.symm.trans (PySem.W.mg_of X G a32)
  cases e
  exact ⟨_, fun s v => .of_eq rfl, fun base _ _ => (ok_law (P := l.prog) (w := w) (base := base) {
    a__law_cell_at := f1,
    d__law_cell_at := _,
    F__law_cell_at := fun_mk (st := s__law_cell_at) l1 c1 k1,
    b__law_cell_at := (fun_mk (st := s__law_cell_at) l1 c1 k1).binds (ps := ["_law_script", "_law_k"]) fun _ _ _ _ _ _ us hl => match us, hl with | [_, _], _ => rfl,
    m__law_cell_at := PySem.W.mg_of X G a1,
    a__law_source_of := f2,
    d__law_source_of := _,
    F__law_source_of := fun_mk (st := s__law_source_of) l2 c2 k2,
    b__law_source_of := (fun_mk (st := s__law_source_of) l2 c2 k2).binds (ps := ["_law_cell"]) fun _ _ _ _ _ _ us hl => match us, hl with | [_], _ => rfl,
    m__law_source_of := PySem.W.mg_of X G a2,
    a__law_next := f3,
    d__law_next := _,
    F__law_next := fun_mk (st := s__law_next) l3 c3 k3,
    b__law_next := (fun_mk (st := s__law_next) l3 c3 k3).binds (ps := ["_law_source", "_law_many"]) fun _ _ _ _ _ _ us hl => match us, hl with | [_, _], _ => rfl,
    m__law_next := PySem.W.mg_of X G a3,
    a__law_mixed := f4,
    d__law_mixed := _,
    F__law_mixed := fun_mk (st := s__law_mixed) l4 c4 k4,
    b__law_mixed := (fun_mk (st := s__law_mixed) l4 c4 k4).binds (ps := ["_law_source", "_law_some"]) fun _ _ _ _ _ _ us hl => match us, hl with | [_, _], _ => rfl,
    m__law_mixed := PySem.W.mg_of X G a4,
    a__law_one := f5,
    d__law_one := _,
    F__law_one := fun_mk (st := s__law_one) l5 c5 k5,
    b__law_one := (fun_mk (st := s__law_one) l5 c5 k5).binds (ps := ["_law_source", "_law_some"]) fun _ _ _ _ _ _ us hl => match us, hl with | [_, _], _ => rfl,
    m__law_one := PySem.W.mg_of X G a5,
    a__law_twelve := f6,
    d__law_twelve := _,
    F__law_twelve := fun_mk (st := s__law_twelve) l6 c6 k6,
    b__law_twelve := (fun_mk (st := s__law_twelve) l6 c6 k6).binds (ps := ["_law_source"]) fun _ _ _ _ _ _ us hl => match us, hl with | [_], _ => rfl,
    m__law_twelve := PySem.W.mg_of X G a6,
    a__law_turned_2 := f7,
    d__law_turned_2 := _,
    F__law_turned_2 := fun_mk (st := s__law_turned_2) l7 c7 k7,
    b__law_turned_2 := (fun_mk (st := s__law_turned_2) l7 c7 k7).binds (ps := ["_law_source", "_law_rows"]) fun _ _ _ _ _ _ us hl => match us, hl with | [_, _], _ => rfl,
    m__law_turned_2 := PySem.W.mg_of X G a7,
    a_is_row := f8,
    d_is_row := _,
    F_is_row := fun_mk (st := s_is_row) l8 c8 k8,
    b_is_row := (fun_mk (st := s_is_row) l8 c8 k8).binds (ps := ["thing"]) fun _ _ _ _ _ _ us hl => match us, hl with | [_], _ => rfl,
    m_is_row := PySem.W.mg_of X G a8,
    a_is_name := f9,
    d_is_name := _,
    F_is_name := fun_mk (st := s_is_name) l9 c9 k9,
    b_is_name := (fun_mk (st := s_is_name) l9 c9 k9).binds (ps := ["thing"]) fun _ _ _ _ _ _ us hl => match us, hl with | [_], _ => rfl,
    m_is_name := PySem.W.mg_of X G a9,
    a_row_amiss := f10,
    d_row_amiss := _,
    F_row_amiss := fun_mk (st := s_row_amiss) l10 c10 k10,
    b_row_amiss := (fun_mk (st := s_row_amiss) l10 c10 k10).binds (ps := ["row", "known"]) fun _ _ _ _ _ _ us hl => match us, hl with | [_, _], _ => rfl,
    m_row_amiss := PySem.W.mg_of X G a10,
    a_is_whole := f11,
    d_is_whole := _,
    F_is_whole := fun_mk (st := s_is_whole) l11 c11 k11,
    b_is_whole := (fun_mk (st := s_is_whole) l11 c11 k11).binds (ps := ["thing", "least"]) fun _ _ _ _ _ _ us hl => match us, hl with | [_, _], _ => rfl,
    m_is_whole := PySem.W.mg_of X G a11,
    a_look_heap := f12,
    d_look_heap := _,
    F_look_heap := fun_mk (st := s_look_heap) l12 c12 k12,
    b_look_heap := (fun_mk (st := s_look_heap) l12 c12 k12).binds (ps := ["heap"]) fun _ _ _ _ _ _ us hl => match us, hl with | [_], _ => rfl,
    m_look_heap := PySem.W.mg_of X G a12,
    a_is_heap := f13,
    d_is_heap := _,
    F_is_heap := fun_mk (st := s_is_heap) l13 c13 k13,
    b_is_heap := (fun_mk (st := s_is_heap) l13 c13 k13).binds (ps := ["thing"]) fun _ _ _ _ _ _ us hl => match us, hl with | [_], _ => rfl,
    m_is_heap := PySem.W.mg_of X G a13,
    a_law_amiss := f14,
    d_law_amiss := _,
    F_law_amiss := fun_mk (st := s_law_amiss) l14 c14 k14,
    b_law_amiss := (fun_mk (st := s_law_amiss) l14 c14 k14).binds (ps := ["its", "known"]) fun _ _ _ _ _ _ us hl => match us, hl with | [_, _], _ => rfl,
    m_law_amiss := PySem.W.mg_of X G a14,
    a_look_rows := f15,
    d_look_rows := _,
    F_look_rows := fun_mk (st := s_look_rows) l15 c15 k15,
    b_look_rows := (fun_mk (st := s_look_rows) l15 c15 k15).binds (ps := ["rows"]) fun _ _ _ _ _ _ us hl => match us, hl with | [_], _ => rfl,
    m_look_rows := PySem.W.mg_of X G a15,
    a_Book_init := f16,
    d_Book_init := _,
    F_Book_init := fun_mk (st := s_Book_init) l16 c16 k16,
    b_Book_init := (fun_mk (st := s_Book_init) l16 c16 k16).binds (ps := ["self", "rows"]) fun _ _ _ _ _ _ us hl => match us, hl with | [_, _], _ => rfl,
    a_kinds_from := f17,
    d_kinds_from := _,
    F_kinds_from := fun_mk (st := s_kinds_from) l17 c17 k17,
    b_kinds_from := (fun_mk (st := s_kinds_from) l17 c17 k17).binds (ps := ["book", "kinds"]) fun _ _ _ _ _ _ us hl => match us, hl with | [_, _], _ => rfl,
    m_kinds_from := PySem.W.mg_of X G a17,
    a_things_of := f18,
    d_things_of := _,
    F_things_of := fun_mk (st := s_things_of) l18 c18 k18,
    b_things_of := (fun_mk (st := s_things_of) l18 c18 k18).binds (ps := ["book", "kind", "lot"]) fun _ _ _ _ _ _ us hl => match us, hl with | [_, _, _], _ => rfl,
    m_things_of := PySem.W.mg_of X G a18,
    a_Web_look_at := f19,
    d_Web_look_at := _,
    F_Web_look_at := fun_mk (st := s_Web_look_at) l19 c19 k19,
    b_Web_look_at := (fun_mk (st := s_Web_look_at) l19 c19 k19).binds (ps := ["self", "kind"]) fun _ _ _ _ _ _ us hl => match us, hl with | [_, _], _ => rfl,
    a_Web_init := f20,
    d_Web_init := _,
    F_Web_init := fun_mk (st := s_Web_init) l20 c20 k20,
    b_Web_init := (fun_mk (st := s_Web_init) l20 c20 k20).binds (ps := ["self", "book"]) fun _ _ _ _ _ _ us hl => match us, hl with | [_, _], _ => rfl,
    a_lots := f21,
    d_lots := _,
    F_lots := fun_mk (st := s_lots) l21 c21 k21,
    b_lots := (fun_mk (st := s_lots) l21 c21 k21).binds (ps := ["book"]) fun _ _ _ _ _ _ us hl => match us, hl with | [_], _ => rfl,
    m_lots := PySem.W.mg_of X G a21,
    a__law_sets := f22,
    d__law_sets := _,
    F__law_sets := fun_mk (st := s__law_sets) l22 c22 k22,
    b__law_sets := (fun_mk (st := s__law_sets) l22 c22 k22).binds (ps := ["_law_told", "_law_new"]) fun _ _ _ _ _ _ us hl => match us, hl with | [_, _], _ => rfl,
    m__law_sets := PySem.W.mg_of X G a22,
    a__law_heap_2 := f23,
    d__law_heap_2 := _,
    F__law_heap_2 := fun_mk (st := s__law_heap_2) l23 c23 k23,
    b__law_heap_2 := (fun_mk (st := s__law_heap_2) l23 c23 k23).binds (ps := ["_law_source", "_law_rows"]) fun _ _ _ _ _ _ us hl => match us, hl with | [_, _], _ => rfl,
    m__law_heap_2 := PySem.W.mg_of X G a23,
    a__law_by_names_c := f24,
    d__law_by_names_c := _,
    F__law_by_names_c := fun_mk (st := s__law_by_names_c) l24 c24 k24,
    b__law_by_names_c := (fun_mk (st := s__law_by_names_c) l24 c24 k24).binds (ps := ["_law_heap_here", "_law_new"]) fun _ _ _ _ _ _ us hl => match us, hl with | [_, _], _ => rfl,
    m__law_by_names_c := PySem.W.mg_of X G a24,
    a_Book_has := f25,
    d_Book_has := _,
    F_Book_has := fun_mk (st := s_Book_has) l25 c25 k25,
    b_Book_has := (fun_mk (st := s_Book_has) l25 c25 k25).binds (ps := ["self", "thing"]) fun _ _ _ _ _ _ us hl => match us, hl with | [_, _], _ => rfl,
    a_look_in := f26,
    d_look_in := _,
    F_look_in := fun_mk (st := s_look_in) l26 c26 k26,
    b_look_in := (fun_mk (st := s_look_in) l26 c26 k26).binds (ps := ["book", "heap"]) fun _ _ _ _ _ _ us hl => match us, hl with | [_, _], _ => rfl,
    m_look_in := PySem.W.mg_of X G a26,
    a_reached := f27,
    d_reached := _,
    F_reached := fun_mk (st := s_reached) l27 c27 k27,
    b_reached := (fun_mk (st := s_reached) l27 c27 k27).binds (ps := ["book", "heap"]) fun _ _ _ _ _ _ us hl => match us, hl with | [_, _], _ => rfl,
    m_reached := PySem.W.mg_of X G a27,
    a_Web_lots_from := f28,
    d_Web_lots_from := _,
    F_Web_lots_from := fun_mk (st := s_Web_lots_from) l28 c28 k28,
    b_Web_lots_from := (fun_mk (st := s_Web_lots_from) l28 c28 k28).binds (ps := ["self", "kinds"]) fun _ _ _ _ _ _ us hl => match us, hl with | [_, _], _ => rfl,
    a_comes := f29,
    d_comes := _,
    F_comes := fun_mk (st := s_comes) l29 c29 k29,
    b_comes := (fun_mk (st := s_comes) l29 c29 k29).binds (ps := ["book", "heap"]) fun _ _ _ _ _ _ us hl => match us, hl with | [_, _], _ => rfl,
    m_comes := PySem.W.mg_of X G a29,
    a_Web_upper_from := f30,
    d_Web_upper_from := _,
    F_Web_upper_from := fun_mk (st := s_Web_upper_from) l30 c30 k30,
    b_Web_upper_from := (fun_mk (st := s_Web_upper_from) l30 c30 k30).binds (ps := ["self", "kinds"]) fun _ _ _ _ _ _ us hl => match us, hl with | [_, _], _ => rfl,
    a_upper := f31,
    d_upper := _,
    F_upper := fun_mk (st := s_upper) l31 c31 k31,
    b_upper := (fun_mk (st := s_upper) l31 c31 k31).binds (ps := ["book", "heap"]) fun _ _ _ _ _ _ us hl => match us, hl with | [_, _], _ => rfl,
    m_upper := PySem.W.mg_of X G a31,
    a_law := fa,
    d_law := _,
    F_law := fun_mk (st := s_law) l32 c32 k32,
    b_law := (fun_mk (st := s_law) l32 c32 k32).binds (ps := ["_law_script"]) fun _ _ _ _ _ _ us hl => match us, hl with | [_], _ => rfl,
    m_law := PySem.W.mg_of X G a32,
    a_Book := C_Book,
    m_Book := PySem.W.mg_of X G g_Book,
    cl_Book := ⟨pg_Book, hd_Book, po_Book, sa_Book⟩,
    a_Web := C_Web,
    m_Web := PySem.W.mg_of X G g_Web,
    cl_Web := ⟨pg_Web, hd_Web, po_Web, sa_Web⟩,
    na_Book_laws := na_Book_laws,
    na_Book_order := na_Book_order,
    na_Book_rows := na_Book_rows,
    na_Web_below := na_Web_below,
    na_Web_book := na_Web_book,
    na_Web_lot_of := na_Web_lot_of,
    na_Web_lots := na_Web_lots,
    na_Web_reach := na_Web_reach,
    na_Web_word_of := na_Web_word_of,
    mk_Book := ⟨mk_Book, a16, i16, kc_Book⟩,
    t_Web_look_at := ⟨a19, i19, k19⟩,
    mk_Web := ⟨mk_Web, a20, i20, kc_Web⟩,
    t_Book_has := ⟨a25, i25, k25⟩,
    t_Web_lots_from := ⟨a28, i28, k28⟩,
    t_Web_upper_from := ⟨a30, i30, k30⟩,
    k_LETTERS := t_LETTERS,
    m_LETTERS := PySem.W.mg_of X G m_LETTERS,
    k_LONGEST := t_LONGEST,
    m_LONGEST := PySem.W.mg_of X G m_LONGEST,
    k_MOST_KINDS := t_MOST_KINDS,
    m_MOST_KINDS := PySem.W.mg_of X G m_MOST_KINDS,
    k_MOST_OF_A_KIND := t_MOST_OF_A_KIND,
    m_MOST_OF_A_KIND := PySem.W.mg_of X G m_MOST_OF_A_KIND,
    n_all := PySem.W.mg_none_of X G n_all,
    n_any := PySem.W.mg_none_of X G n_any,
    n_bool := PySem.W.mg_none_of X G n_bool,
    n_dict := PySem.W.mg_none_of X G n_dict,
    n_enumerate := PySem.W.mg_none_of X G n_enumerate,
    n_int := PySem.W.mg_none_of X G n_int,
    n_isinstance := PySem.W.mg_none_of X G n_isinstance,
    n_len := PySem.W.mg_none_of X G n_len,
    n_list := PySem.W.mg_none_of X G n_list,
    n_max := PySem.W.mg_none_of X G n_max,
    n_min := PySem.W.mg_none_of X G n_min,
    n_range := PySem.W.mg_none_of X G n_range,
    n_sorted := PySem.W.mg_none_of X G n_sorted,
    n_str := PySem.W.mg_none_of X G n_str,
    n_sum := PySem.W.mg_none_of X G n_sum,
    n_tuple := PySem.W.mg_none_of X G n_tuple
  }).imp fun vs H Q E z => law_sp plain z⟩
theorem walk {l : PySem.W.OpenLaw} {q : Program} {loose : List Str} {XP : (Str → Option Value) → Heap → Prop} {YP : World → Heap → Prop} {d : DefRec} {K : Params → PySem.W.Frag} (hn : l.most = some 63) (hdf : d.params.defaults = [])
    (hY : ∀ (w : World) (h : Heap), YP w h → (K w.params).In h)
    (F : ∀ (w : World) (mg : Str → Option Value) (fa : Addr) (h : Heap), (K w.params).In h → h.Ns mainGlobals mg → mg d.name = some (.ref fa) →
      ∃ fd : FuncData, (∀ (s : Shared) (u : Value), BindsTo s fd ⟨[u], []⟩ [("_law_script", u)]) ∧ ∀ base : Heap, (K w.params).In base → base.Ns mainGlobals mg → FnOk l.prog w (K w.params) mg base CX0 8 fa fd ["_law_script"] (spLaw (K w.params))) :
    PySem.W.WalkO q loose XP YP l.row.toRowW d [] (fun f vs => PySem.call f vs) :=
  L2.walk_of (n := 63) (k := 8) (x := "_law_script") (CX := fun _ => CX0) (sp := fun w => spLaw (K w.params)) hn (by decide) hdf ⟨rfl, by decide, by decide⟩ hY F (fun _ _ a ns hl _ hS => ⟨a, ns, rfl, hS, hl, fun _ => rfl⟩) fun _ _ _ _ _ z => z
end Wk
open PySem PySem.W PyProof.Rows
set_option maxRecDepth 100000 in
set_option maxHeartbeats 0 in
theorem PySem.Challenge.cw_twoscales_k46_whole_lots_by_other_names_holds : PySem.Challenge.rw_twoscales_k46_whole_lots_by_other_names.Holds := by
  w_on; o_law; k_head; (case hw => w_witness2)
  k_fill
  refine Wk.walk (l := PySem.Challenge.rw_twoscales_k46_whole_lots_by_other_names) rfl rfl (fun w h Y => PySem.W.kIn_of Y) ?F
  case F =>
    intro w mg fa h KX G hmg
    refine' Wk.all_mk Wk.plain KX G hmg ?g_Book ?g_Web ?a1 ?l1 ?c1 ?k1 ?a2 ?l2 ?c2 ?k2 ?a3 ?l3 ?c3 ?k3 ?a4 ?l4 ?c4 ?k4 ?a5 ?l5 ?c5 ?k5 ?a6 ?l6 ?c6 ?k6 ?a7 ?l7 ?c7 ?k7 ?a8 ?l8 ?c8 ?k8 ?a9 ?l9 ?c9 ?k9 ?a10 ?l10 ?c10 ?k10 ?a11 ?l11 ?c11 ?k11 ?a12 ?l12 ?c12 ?k12 ?a13 ?l13 ?c13 ?k13 ?a14 ?l14 ?c14 ?k14 ?a15 ?l15 ?c15 ?k15 ?a16 ?i16 ?l16 ?c16 ?k16 ?a17 ?l17 ?c17 ?k17 ?a18 ?l18 ?c18 ?k18 ?a19 ?i19 ?l19 ?c19 ?k19 ?a20 ?i20 ?l20 ?c20 ?k20 ?a21 ?l21 ?c21 ?k21 ?a22 ?l22 ?c22 ?k22 ?a23 ?l23 ?c23 ?k23 ?a24 ?l24 ?c24 ?k24 ?a25 ?i25 ?l25 ?c25 ?k25 ?a26 ?l26 ?c26 ?k26 ?a27 ?l27 ?c27 ?k27 ?a28 ?i28 ?l28 ?c28 ?k28 ?a29 ?l29 ?c29 ?k29 ?a30 ?i30 ?l30 ?c30 ?k30 ?a31 ?l31 ?c31 ?k31 ?a32 ?l32 ?c32 ?k32 ?pg_Book ?hd_Book ?po_Book ?sa_Book ?mk_Book ?kc_Book ?pg_Web ?hd_Web ?po_Web ?sa_Web ?mk_Web ?kc_Web ?na_Book_laws ?na_Book_order ?na_Book_rows ?na_Web_below ?na_Web_book ?na_Web_lot_of ?na_Web_lots ?na_Web_reach ?na_Web_word_of ?m_LETTERS ?m_LONGEST ?m_MOST_KINDS ?m_MOST_OF_A_KIND ?n_all ?n_any ?n_bool ?n_dict ?n_enumerate ?n_int ?n_isinstance ?n_len ?n_list ?n_max ?n_min ?n_range ?n_sorted ?n_str ?n_sum ?n_tuple
    (case g_Book => k_is)
    (case g_Web => k_is)
    (case a1 => k_is)
    (case l1 => k_is)
    (case c1 => k_is)
    (case k1 => k_is)
    (case a2 => k_is)
    (case l2 => k_is)
    (case c2 => k_is)
    (case k2 => k_is)
    (case a3 => k_is)
    (case l3 => k_is)
    (case c3 => k_is)
    (case k3 => k_is)
    (case a4 => k_is)
    (case l4 => k_is)
    (case c4 => k_is)
    (case k4 => k_is)
    (case a5 => k_is)
    (case l5 => k_is)
    (case c5 => k_is)
    (case k5 => k_is)
    (case a6 => k_is)
    (case l6 => k_is)
    (case c6 => k_is)
    (case k6 => k_is)
    (case a7 => k_is)
    (case l7 => k_is)
    (case c7 => k_is)
    (case k7 => k_is)
    (case a8 => k_is)
    (case l8 => k_is)
    (case c8 => k_is)
    (case k8 => k_is)
    (case a9 => k_is)
    (case l9 => k_is)
    (case c9 => k_is)
    (case k9 => k_is)
    (case a10 => k_is)
    (case l10 => k_is)
    (case c10 => k_is)
    (case k10 => k_is)
    (case a11 => k_is)
    (case l11 => k_is)
    (case c11 => k_is)
    (case k11 => k_is)
    (case a12 => k_is)
    (case l12 => k_is)
    (case c12 => k_is)
    (case k12 => k_is)
    (case a13 => k_is)
    (case l13 => k_is)
    (case c13 => k_is)
    (case k13 => k_is)
    (case a14 => k_is)
    (case l14 => k_is)
    (case c14 => k_is)
    (case k14 => k_is)
    (case a15 => k_is)
    (case l15 => k_is)
    (case c15 => k_is)
    (case k15 => k_is)
    (case a16 => k_is)
    (case i16 => k_is)
    (case l16 => k_is)
    (case c16 => k_is)
    (case k16 => k_is)
    (case a17 => k_is)
    (case l17 => k_is)
    (case c17 => k_is)
    (case k17 => k_is)
    (case a18 => k_is)
    (case l18 => k_is)
    (case c18 => k_is)
    (case k18 => k_is)
    (case a19 => k_is)
    (case i19 => k_is)
    (case l19 => k_is)
    (case c19 => k_is)
    (case k19 => k_is)
    (case a20 => k_is)
    (case i20 => k_is)
    (case l20 => k_is)
    (case c20 => k_is)
    (case k20 => k_is)
    (case a21 => k_is)
    (case l21 => k_is)
    (case c21 => k_is)
    (case k21 => k_is)
    (case a22 => k_is)
    (case l22 => k_is)
    (case c22 => k_is)
    (case k22 => k_is)
    (case a23 => k_is)
    (case l23 => k_is)
    (case c23 => k_is)
    (case k23 => k_is)
    (case a24 => k_is)
    (case l24 => k_is)
    (case c24 => k_is)
    (case k24 => k_is)
    (case a25 => k_is)
    (case i25 => k_is)
    (case l25 => k_is)
    (case c25 => k_is)
    (case k25 => k_is)
    (case a26 => k_is)
    (case l26 => k_is)
    (case c26 => k_is)
    (case k26 => k_is)
    (case a27 => k_is)
    (case l27 => k_is)
    (case c27 => k_is)
    (case k27 => k_is)
    (case a28 => k_is)
    (case i28 => k_is)
    (case l28 => k_is)
    (case c28 => k_is)
    (case k28 => k_is)
    (case a29 => k_is)
    (case l29 => k_is)
    (case c29 => k_is)
    (case k29 => k_is)
    (case a30 => k_is)
    (case i30 => k_is)
    (case l30 => k_is)
    (case c30 => k_is)
    (case k30 => k_is)
    (case a31 => k_is)
    (case l31 => k_is)
    (case c31 => k_is)
    (case k31 => k_is)
    (case a32 => k_is)
    (case l32 => k_is)
    (case c32 => k_is)
    (case k32 => k_is)
    (case pg_Book => k_is)
    (case hd_Book => k_is)
    (case po_Book => k_is)
    (case sa_Book => k_is)
    (case mk_Book => k_is)
    (case kc_Book => k_is)
    (case pg_Web => k_is)
    (case hd_Web => k_is)
    (case po_Web => k_is)
    (case sa_Web => k_is)
    (case mk_Web => k_is)
    (case kc_Web => k_is)
    (case na_Book_laws => k_is)
    (case na_Book_order => k_is)
    (case na_Book_rows => k_is)
    (case na_Web_below => k_is)
    (case na_Web_book => k_is)
    (case na_Web_lot_of => k_is)
    (case na_Web_lots => k_is)
    (case na_Web_reach => k_is)
    (case na_Web_word_of => k_is)
    (case m_LETTERS => k_is)
    (case m_LONGEST => k_is)
    (case m_MOST_KINDS => k_is)
    (case m_MOST_OF_A_KIND => k_is)
    (case n_all => k_is)
    (case n_any => k_is)
    (case n_bool => k_is)
    (case n_dict => k_is)
    (case n_enumerate => k_is)
    (case n_int => k_is)
    (case n_isinstance => k_is)
    (case n_len => k_is)
    (case n_list => k_is)
    (case n_max => k_is)
    (case n_min => k_is)
    (case n_range => k_is)
    (case n_sorted => k_is)
    (case n_str => k_is)
    (case n_sum => k_is)
    (case n_tuple => k_is)
