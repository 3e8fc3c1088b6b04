import PyProof.Rows.All
import Wide.All
import OpenK.AllK
import Wide.FinOn
import HandS.Codes
import HandS.Conv
import HandS.Deep
import HandS.Dict
import HandS.EndBits
import HandS.Exc
import HandS.ExcField
import HandS.ExcInit
import HandS.ExcOwn
import HandS.ForMost
import HandS.Head0
import HandS.Head1
import HandS.Head2
import HandS.HeadEnd
import HandS.HeadHook1
import HandS.HeadHook2
import HandS.IsInst
import HandS.MakeKw
import HandS.More
import HandS.Property
import HandS.Star
import HandS.Strs
import HandS.Style
import HandS.Text
import HandS.TryMany
import HandS.TupAny
import HandS.TupLen
import HandS.TupMul
import HandS.Walk
import HandS.Wide
import HandS.Words
import KE.GoesEnum
import KE.KExcSuper
import KE.KSuper
import KE.KUnpack
import PyProof.FactsAll.tuple_2
import PyProof.NeData
import PyProof.P3Eq
import PyProof.ReprLen
import PyProof.ReprReads
import PyProof.RowDictHeap
import PyProof.Rows.RuleB_pow
import PyProof.Rows.SortShellAny
import PyProof.TableCode
import PySem.PyData
import PySem.Challenge.RW_farhandles_k03_books_refused
section
set_option linter.all false
/-! FA: values, cells, the core language and its evaluator. Pure Lean. -/
namespace PV
open PySem
/-- a tree: data that never changes any more -/
inductive T where
  | non | bl (b : Bool) | int (i : Int) | str (s : Str)
  | tup (ts : List T) | lst (ts : List T) | dct (tk : Bool) (kvs : List (T × T)) | obj (c : Nat) (fs : List (Str × T)) | scr (ns : List Int)
/-- a value: a tree, a cell of the store, a tuple or a list (never changed) that holds cells, a caught exception, a lambda -/
inductive D where
  | v (t : T) | ref (n : Nat) | tp (ds : List D) | lp (ds : List D) | exv (c : Nat) (fs : List (Str × D)) | lam (k : Nat) (cap : List (Option D))
inductive Cell where
  | lst (ds : List D) | dct (tk : Bool) (kvs : List (T × D)) | ins (c : Nat) (fs : List (Str × D))
abbrev Sto := List (Option Cell)
abbrev Env := List (Option D)
inductive Res (α : Type) where
  | ok (a : α) (s : Sto) | ex (c : Nat) (fs : List (Str × D)) (s : Sto) | bad
abbrev M (α : Type) := Sto → Res α
def Res.bind {α β : Type} (r : Res α) (f : α → M β) : Res β := match r with
  | .ok a s => f a s
  | .ex c fs s => .ex c fs s
  | .bad => .bad
abbrev M.ret {α : Type} (a : α) : M α := fun s => .ok a s
abbrev M.bind {α β : Type} (m : M α) (f : α → M β) : M β := fun s => (m s).bind f
def M.bad {α : Type} : M α := fun _ => .bad
def M.opt {α : Type} (o : Option α) : M α := fun s => match o with
  | some a => .ok a s
  | none => .bad
def guardM (b : Bool) : M Unit := fun s => match b with
  | true => .ok () s
  | false => .bad
/-- an exception here is out of the language -/
def nox {α : Type} (m : M α) : M α := fun s => match m s with
  | .ok a s => .ok a s
  | _ => .bad
/-- the largest length of what is made -/
abbrev LIM : Nat := 16000000

/-- a text of the model: its signs are signs, its length has a bound -/
def okS (x : Str) : Bool := PyData.strOk x && decide (x.cps.size ≤ 16777216)

/-! ### syntax -/
inductive Bop where | add | sub | mul | fdiv | mod | pow
inductive Cop where | eq | ne | lt | le | gt | ge | isin | nin | is_ | isnt
inductive Bi where | len | int | abs | list | tuple | dict | str | repr | sorted | sum | min | max | dict0 | list0 | dict0T
inductive Tm where | append | pop | popi | extend | clear | get | get2 | update | join | split | startswith | index | count | remove | values
/-- built-in classes -/
inductive Ty where | bool | int | str | tuple | list | dict
inductive Pt where
  | nm (i : Nat) | tp (ps : List Pt)
inductive C where
  | var (i : Nat) | int (i : Int) | str (s : Str) | bl (b : Bool) | non | glob (x : Str)
  | bin (m : Bool) (o : Bop) (a b : C) | neg (a : C) | not (a : C) | and (a b : C) | or (a b : C)
  | cmp (o : Cop) (a b : C) | chain (a : C) (o : Cop) (b : C) (p : Cop) (c : C) | ite (c a b : C)
  | lst (m : Bool) (es : List (Bool × C)) | tup (es : List (Bool × C)) | dct (m tk : Bool) (kvs : List (C × C))
  | ix (a i : C) | sl (m : Bool) (a : C) (lo hi : Option C) | rev (m : Bool) (a : C)
  | attr (a : C) (f : Str) | call (z : Bool) (f : Nat) (es : List C) (ix : List Nat) (ks : List C)
  | meth (z : Bool) (o : C) (m : Str) (es : List C) (ix : List Nat) (ks : List C) | make (c : Nat) (es : List C) (ix : List Nat) (ks : List C)
  | bi (m : Bool) (b : Bi) (es : List C) | isi (a : C) (cs : List (Sum Ty Nat)) | lenset (a : C) | tm (m : Bool) (o : C) (b : Tm) (es : List C)
  | comp (m : Bool) (e : C) (own : List Nat) (g : Pt) (it : C) (cond : Option C)
  | dcomp (m tk : Bool) (k v : C) (own : List Nat) (g : Pt) (it : C) (cond : Option C)
  | it (a : C) | rng (es : List C) | enum (a : C) | zip (a b : C) | items (a : C) | vals (a : C)
  | frz (a : C) | lam (k : Nat) (cap : List Nat) | calv (a : C)
inductive Tg where
  | pt (p : Pt) | six (o i : C) | fld (o : C) (f : Str) | tpl (ts : List Tg)
inductive S where
  | asg (g : Tg) (e : C) | aug (i : Nat) (o : Bop) (e : C) | augs (a i : C) (o : Bop) (e : C)
  | ife (c : C) (a b : List S) | for_ (g : Pt) (it : C) (body : List S) | while_ (c : C) (body : List S)
  | ret (e : C) | retn | ex (e : C) | raise (c : Nat) (es : List C) | try_ (body : List S) (hs : List (Nat × Option Nat × List S))
  | pass | cont | brk
/-- a def: how many parameters, how many slots, whether its value is frozen, its body -/
structure Fn where
  np : Nat
  ns : Nat
  z : Bool
  body : List S
/-- a class: its properties and methods by name, __init__, __eq__; an exception's field; whether an instance is frozen when made -/
structure Cl where
  props : List (Str × Nat) := []
  meths : List (Str × Nat) := []
  init : Option Nat := none
  eqm : Option Nat := none
  exc : Option (Option Str) := none
  fz : Bool := true
structure Pr where
  fn : Nat → Option Fn
  cl : Nat → Option Cl
  glob : Str → Option T
  own : List Nat
  fuel : Nat

/-! ### trees -/
mutual
/-- Python's ==, of data without dicts and instances -/
def T.eqv : T → T → Bool
  | .non, .non => true
  | .bl a, .bl b => a == b
  | .bl a, .int j => (if a then 1 else 0) == j
  | .int i, .bl b => i == (if b then 1 else 0)
  | .int i, .int j => decide (i = j)
  | .str x, .str y => decide (x = y)
  | .lst xs, .lst ys => T.eqvs xs ys
  | .tup xs, .tup ys => T.eqvs xs ys
  | _, _ => false
def T.eqvs : List T → List T → Bool
  | [], [] => true
  | x :: xs, y :: ys => T.eqv x y && T.eqvs xs ys
  | _, _ => false
end
/-- data without dicts and instances, at most k deep -/
def T.shape : Nat → T → Bool
  | k + 1, .tup ts => ts.all (T.shape k)
  | k + 1, .lst ts => ts.all (T.shape k)
  | 0, .tup _ => false
  | 0, .lst _ => false
  | _, .dct _ _ => false
  | _, .obj _ _ => false
  | _, .scr _ => false
  | _, _ => true
abbrev T.flat (t : T) : Bool := T.shape 40 t
mutual
def T.py : T → Option PyData
  | .non => some .none
  | .bl b => some (.bool b)
  | .int i => some (.int i)
  | .str s => some (.str s)
  | .tup ts => (T.pys ts).map .tuple
  | .lst ts => (T.pys ts).map .list
  | .dct tk kvs => (if tk then none else T.pyk kvs).map .dict
  | .obj _ _ => none
  | .scr _ => none
def T.pys : List T → Option (List PyData)
  | [] => some []
  | t :: r => match t.py, T.pys r with
    | some a, some b => some (a :: b)
    | _, _ => none
def T.pyk : List (T × T) → Option (List (PyData × PyData))
  | [] => some []
  | (k, t) :: r => match k.py, t.py, T.pyk r with
    | some q, some a, some b => some ((q, a) :: b)
    | _, _, _ => none
end
/-- a key: an int, a text, or a tuple of such -/
def T.key1 : T → Bool
  | .int _ => true
  | .str _ => true
  | _ => false
def T.key : T → Bool
  | .tup ts => ts.all T.key1
  | t => t.key1
def T.keq1 : T → T → Bool
  | .int i, .int j => decide (i = j)
  | .str x, .str y => decide (x = y)
  | _, _ => false
def T.keqs : List T → List T → Bool
  | [], [] => true
  | x :: xs, y :: ys => T.keq1 x y && T.keqs xs ys
  | _, _ => false
def T.keq : T → T → Bool
  | .tup xs, .tup ys => T.keqs xs ys
  | a, b => T.keq1 a b
section
variable {α : Type}
def kget (kvs : List (T × α)) (k : T) : Option α := match kvs with
  | [] => none
  | (j, x) :: r => match T.keq j k with
    | true => some x
    | false => kget r k
def kset (k : T) (x : α) (kvs : List (T × α)) : List (T × α) := match kvs.any fun p => T.keq p.1 k with
  | true => kvs.map fun p => match T.keq p.1 k with
    | true => (p.1, x)
    | false => p
  | false => kvs ++ [(k, x)]
/-- may this key stand in a dict of tuple keys | of others -/
def kfit (tk : Bool) (k : T) : Bool := match tk, k with
  | true, .tup ts => ts.all T.key1
  | false, k => k.key1
  | _, _ => false
def kput (tk : Bool) (kvs : List (T × α)) (k : T) (x : α) : Option (List (T × α)) := match kfit tk k with
  | true => some (kset k x kvs)
  | false => none
def kputs (tk : Bool) : List (T × α) → List (T × α) → Option (List (T × α))
  | kvs, [] => some kvs
  | kvs, (k, x) :: r => (kput tk kvs k x).bind fun m => kputs tk m r
end
/-- the text's signs, in order -/
def ltS (a b : List Nat) : Bool := decide (a < b)
mutual
/-- Python's <, where it is told: ints, texts, tuples of such -/
def T.lt : T → T → Option Bool
  | .int i, .int j => some (decide (i < j))
  | .str x, .str y => some (ltS x.cps.toList y.cps.toList)
  | .tup xs, .tup ys => T.lts xs ys
  | _, _ => none
def T.lts : List T → List T → Option Bool
  | [], [] => some false
  | [], _ :: _ => some true
  | _ :: _, [] => some false
  | x :: xs, y :: ys => if T.eqv x y then T.lts xs ys else T.lt x y
end
def insS (x : Str) : List Str → List Str
  | [] => [x]
  | y :: r => match ltS x.cps.toList y.cps.toList with
    | true => x :: y :: r
    | false => y :: insS x r
def sortS : List Str → List Str
  | [] => []
  | x :: r => insS x (sortS r)
def ltAll (x : T) (l : List T) : Bool := l.all fun y => (T.lt x y).isSome && (T.lt y x).isSome
def ltPairs : List T → Bool
  | [] => true
  | x :: r => ltAll x r && ltPairs r
def asInt : T → Option Int
  | .int i => some i
  | _ => none
def asStr : T → Option Str
  | .str s => some s
  | _ => none
def asPair : T → Option (T × T)
  | .tup [a, b] => some (a, b)
  | _ => none
def allD : List D → Option (List T)
  | [] => some []
  | .v t :: r => (allD r).map fun ts => t :: ts
  | _ :: _ => none
def allV (ds : List (T × D)) : Option (List (T × T)) := ds.mapM fun p => match p.2 with
  | .v t => some (p.1, t)
  | _ => none

/-! ### cells and values -/
mutual
def D.closed (L : Nat) : D → Bool
  | .v _ => true
  | .ref n => decide (n < L)
  | .tp ds => D.closeds L ds
  | .lp ds => D.closeds L ds
  | .exv _ _ => false
  | .lam _ _ => false
def D.closeds (L : Nat) : List D → Bool
  | [] => true
  | d :: r => d.closed L && D.closeds L r
end
def Cell.closed (L : Nat) : Cell → Bool
  | .lst ds => D.closeds L ds
  | .dct _ kvs => kvs.all fun p => p.2.closed L
  | .ins _ fs => fs.all fun p => p.2.closed L
def Sto.closed (L : Nat) (s : Sto) : Bool := s.all fun o => match o with
  | some c => c.closed L
  | none => true
/-- every cell that is named stands -/
abbrev Sto.wf (s : Sto) : Bool := Sto.closed s.length s
def cellAt (s : Sto) (n : Nat) : Option Cell := match s[n]? with
  | some (some c) => some c
  | _ => none
def alloc (c : Cell) : M D := fun s => .ok (.ref s.length) (s ++ [some c])
def setCell (n : Nat) (c : Cell) : M Unit := fun s => .ok () (s.set n (some c))
/-- the tree that stands at a value -/
def rd (s : Sto) : Nat → D → Option T
  | _, .v t => some t
  | 0, _ => none
  | k + 1, .ref n => match cellAt s n with
    | some (.lst ds) => (ds.mapM (rd s k)).map .lst
    | some (.dct tk kvs) => (kvs.mapM fun p => (rd s k p.2).map fun t => (p.1, t)).map (.dct tk)
    | some (.ins c fs) => (fs.mapM fun p => (rd s k p.2).map fun t => (p.1, t)).map (.obj c)
    | none => none
  | k + 1, .tp ds => (ds.mapM (rd s k)).map .tup
  | k + 1, .lp ds => (ds.mapM (rd s k)).map .lst
  | _, _ => none
/-- what a value's cells are, all of them from L on -/
def freshAbove (s : Sto) (L : Nat) : Nat → D → Bool
  | _, .v _ => true
  | 0, _ => false
  | k + 1, .ref n => decide (L ≤ n) && match cellAt s n with
    | some (.lst ds) => ds.all (freshAbove s L k)
    | some (.dct _ kvs) => kvs.all fun p => freshAbove s L k p.2
    | some (.ins _ fs) => fs.all fun p => freshAbove s L k p.2
    | none => false
  | k + 1, .tp ds => ds.all (freshAbove s L k)
  | k + 1, .lp ds => ds.all (freshAbove s L k)
  | _, _ => false
abbrev DEEP : Nat := 6
/-- a call's end: its value d, the store s; L cells stood ahead of it -/
def trim (L : Nat) (d : D) (s : Sto) : Res D := match d.closed L && Sto.closed L (s.take L) with
  | true => .ok d (s.take L)
  | false => match d with
    | .ref n => match decide (L ≤ n), cellAt s n with
      | true, some c => match c.closed L && Sto.closed L (s.take L) with
        | true => .ok (.ref L) (s.take L ++ [some c])
        | false => .ok d s
      | _, _ => .ok d s
    | _ => .ok d s
/-- .. where the value is frozen -/
def trimZ (L : Nat) (d : D) (s : Sto) : Res D := match freshAbove s L DEEP d && Sto.closed L (s.take L), rd s DEEP d with
  | true, some t => .ok (.v t) (s.take L)
  | _, _ => .bad
def trimX (L : Nat) (c : Nat) (fs : List (Str × D)) (s : Sto) : Res D := match (fs.all fun p => p.2.closed L) && Sto.closed L (s.take L) with
  | true => .ex c fs (s.take L)
  | false => .ex c fs s
/-- a frozen list, a tuple of values -/
def mkL (m : Bool) (ds : List D) : M D := match m with
  | true => alloc (.lst ds)
  | false => match allD ds with
    | some ts => .ret (.v (.lst ts))
    | none => .ret (.lp ds)
def mkT (ds : List D) : D := match allD ds with
  | some ts => .v (.tup ts)
  | none => .tp ds
def mkK (m tk : Bool) (kvs : List (T × D)) : M D := match m with
  | true => alloc (.dct tk kvs)
  | false => match allV kvs with
    | some ts => .ret (.v (.dct tk ts))
    | none => M.bad
def mk2 (a b : D) : D := mkT [a, b]
def asList (s : Sto) : D → Option (List D)
  | .v (.lst ts) => some (ts.map .v)
  | .lp ds => some ds
  | .ref n => match cellAt s n with
    | some (.lst ds) => some ds
    | _ => none
  | _ => none
def asTup : D → Option (List D)
  | .v (.tup ts) => some (ts.map .v)
  | .tp ds => some ds
  | _ => none
def asSeq (s : Sto) (d : D) : Option (List D) := match asTup d with
  | some ds => some ds
  | none => asList s d
def asDct (s : Sto) : D → Option (Bool × List (T × D))
  | .v (.dct tk kvs) => some (tk, kvs.map fun p => (p.1, .v p.2))
  | .ref n => match cellAt s n with
    | some (.dct tk kvs) => some (tk, kvs)
    | _ => none
  | _ => none
def asIns (s : Sto) : D → Option (Nat × List (Str × D))
  | .v (.obj c fs) => some (c, fs.map fun p => (p.1, .v p.2))
  | .ref n => match cellAt s n with
    | some (.ins c fs) => some (c, fs)
    | _ => none
  | _ => none
def asB : D → Option Bool
  | .v (.bl b) => some b
  | _ => none
def asI : D → Option Int
  | .v (.int i) => some i
  | _ => none
def asX : D → Option Str
  | .v (.str x) => some x
  | _ => none
def asT : D → Option T
  | .v t => some t
  | _ => none
def signs (x : Str) : List T := x.cps.toList.map fun c => .str ⟨#[c]⟩
/-- what a loop or a comprehension walks over a value: a list, tuple, dict that never changes, a text -/
def walked : D → Option (List D)
  | .v (.scr ns) => some (ns.map fun i => .v (.int i))
  | .v (.lst ts) => some (ts.map .v)
  | .v (.tup ts) => some (ts.map .v)
  | .v (.dct _ kvs) => some (kvs.map fun p => .v p.1)
  | .v (.str x) => some ((signs x).map .v)
  | .lp ds => some ds
  | .tp ds => some ds
  | _ => none
/-- .. a list, a tuple only -/
def walked2 (d : D) : Option (List D) := match d with
  | .v (.str _) => none
  | .v (.dct _ _) => none
  | d => walked d
def setNth {α : Type} (i : Nat) (x : α) : List α → List α
  | [] => []
  | y :: r => match i with
    | 0 => x :: r
    | j + 1 => y :: setNth j x r
def wipeE (env : Env) : List Nat → Env
  | [] => env
  | i :: r => (wipeE env r).set i none
mutual
/-- names stored from a value -/
def bindP (s : Sto) : Pt → D → Env → Option Env
  | .nm i, d, env => match decide (i < env.length) with
    | true => some (env.set i (some d))
    | false => none
  | .tp ps, d, env => match asSeq s d with
    | some ds => bindPs s ps ds env
    | none => none
def bindPs (s : Sto) : List Pt → List D → Env → Option Env
  | [], [], env => some env
  | p :: ps, d :: ds, env => match bindP s p d env with
    | some e => bindPs s ps ds e
    | none => none
  | _, _, _ => none
end

/-! ### operators -/
def okMul (i j : Int) : Bool := (decide (-18446744073709551616 < i) && decide (i < 18446744073709551616)) || (decide (-18446744073709551616 < j) && decide (j < 18446744073709551616)) || decide (i.natAbs.log2 + j.natAbs.log2 < 60000000)
def okPow (i j : Int) : Bool := decide (0 ≤ j) && decide ((i.natAbs.log2 + 1) * j.toNat < 60000000)
/-- a place in n, counted from behind if below 0 -/
def place (n : Nat) (i : Int) : Option Nat := if 0 ≤ i then (if i < n then some i.toNat else none) else (if -(n : Int) ≤ i then some (i + n).toNat else none)
def cutIx (n d : Nat) : Option Int → Nat
  | none => d
  | some v => if v < 0 then (v + n).toNat else min v.toNat n
def cut {α : Type} (xs : List α) (lo hi : Option Int) : List α := (xs.drop (cutIx xs.length 0 lo)).take (cutIx xs.length xs.length hi - cutIx xs.length 0 lo)
def strOf (l : List Nat) : Str := ⟨l.toArray⟩
def binop (m : Bool) (o : Bop) (x y : D) : M D := fun s => match o, x, y with
  | .add, .v (.int i), .v (.int j) => .ok (.v (.int (i + j))) s
  | .sub, .v (.int i), .v (.int j) => .ok (.v (.int (i - j))) s
  | .mul, .v (.int i), .v (.int j) => (guardM (okMul i j) s).bind fun _ => .ret (.v (.int (i * j)))
  | .fdiv, .v (.int i), .v (.int j) => (guardM (decide (0 < j) && decide (j < 1073741824)) s).bind fun _ => .ret (.v (.int (i / j)))
  | .mod, .v (.int i), .v (.int j) => (guardM (decide (0 < j)) s).bind fun _ => .ret (.v (.int (i % j)))
  | .pow, .v (.int i), .v (.int j) => (guardM (okPow i j) s).bind fun _ => .ret (.v (.int (i ^ j.toNat)))
  | .add, .v (.str a), .v (.str b) => (guardM (decide (a.cps.size + b.cps.size ≤ LIM)) s).bind fun _ => .ret (.v (.str (strOf (a.cps.toList ++ b.cps.toList))))
  | .add, x, y => match asTup x, asTup y with
    | some a, some b => (guardM (decide (a.length + b.length ≤ LIM)) s).bind fun _ => .ret (mkT (a ++ b))
    | _, _ => match asList s x, asList s y with
      | some a, some b => (guardM (decide (a.length + b.length ≤ LIM)) s).bind fun _ => mkL m (a ++ b)
      | _, _ => .bad
  | .mul, x, .v (.int k) => match asTup x with
    | some a => (guardM (decide (2 ≤ k) && decide (k ≤ 1000) && decide (a.length ≤ 1000)) s).bind fun _ => .ret (mkT ((List.replicate k.toNat a).flatten))
    | none => match asList s x with
      | some a => (guardM (decide (0 ≤ k) && decide (k ≤ 1000) && decide (a.length * k.toNat ≤ LIM)) s).bind fun _ => mkL m ((List.replicate k.toNat a).flatten)
      | none => .bad
  | _, _, _ => .bad
def eqD (x y : D) : M Bool := fun s => match rd s DEEP x, rd s DEEP y with
  | some a, some b => (guardM (a.flat && b.flat) s).bind fun _ => .ret (T.eqv a b)
  | _, _ => .bad
def anyEq (x : T) : List T → Bool
  | [] => false
  | y :: r => T.eqv y x || anyEq x r
def strIn (x y : Str) : Bool := !(Builtin.Str.occurrences y x 0 y.length 1).isEmpty
def inD (x y : D) : M Bool := fun s => match asDct s y with
  | some (tk, kvs) => match x with
    | .v k => (guardM (kfit tk k) s).bind fun _ => .ret (kget kvs k).isSome
    | _ => .bad
  | none => match x, y with
    | .v (.str a), .v (.str b) => .ok (strIn a b) s
    | x, y => match rd s DEEP x, (asSeq s y).bind fun ds => ds.mapM (rd s DEEP) with
      | some a, some bs => (guardM (a.flat && bs.all T.flat) s).bind fun _ => .ret (anyEq a bs)
      | _, _ => .bad
def isD (s : Sto) (x y : D) : Option Bool := match y with
  | .v .non => match x with
    | .v .non => some true
    | .ref n => (cellAt s n).map fun _ => false
    | _ => some false
  | .v (.bl b) => match x with
    | .v (.bl a) => some (decide (a = b))
    | _ => none
  | _ => none
def cmpop (P : Pr) (F : Bool → Nat → List D → M D) (o : Cop) (x y : D) : M D := fun s => match o with
  | .eq => match (asIns s x).bind fun p => (P.cl p.1).bind fun c => c.eqm with
    | some f => F false f [x, y] s
    | none => (eqD x y s).bind fun b => .ret (.v (.bl b))
  | .ne => (eqD x y s).bind fun b => .ret (.v (.bl (!b)))
  | .isin => (inD x y s).bind fun b => .ret (.v (.bl b))
  | .nin => (inD x y s).bind fun b => .ret (.v (.bl (!b)))
  | .is_ => (M.opt (isD s x y) s).bind fun b => .ret (.v (.bl b))
  | .isnt => (M.opt (isD s x y) s).bind fun b => .ret (.v (.bl (!b)))
  | .lt => match x, y with
    | .v (.int i), .v (.int j) => .ok (.v (.bl (decide (i < j)))) s
    | .v (.str i), .v (.str j) => .ok (.v (.bl (ltS i.cps.toList j.cps.toList))) s
    | _, _ => .bad
  | .le => match x, y with
    | .v (.int i), .v (.int j) => .ok (.v (.bl (decide (i ≤ j)))) s
    | .v (.str i), .v (.str j) => .ok (.v (.bl (!ltS j.cps.toList i.cps.toList))) s
    | _, _ => .bad
  | .gt => match x, y with
    | .v (.int i), .v (.int j) => .ok (.v (.bl (decide (j < i)))) s
    | _, _ => .bad
  | .ge => match x, y with
    | .v (.int i), .v (.int j) => .ok (.v (.bl (decide (j ≤ i)))) s
    | _, _ => .bad
def item (x y : D) : M D := fun s => match asDct s x with
  | some (tk, kvs) => match y with
    | .v k => (guardM (kfit tk k) s).bind fun _ => M.opt (kget kvs k)
    | _ => .bad
  | none => match y with
    | .v (.int i) => match x with
      | .v (.scr ns) => M.opt (((place ns.length i).bind fun j => ns[j]?).map fun i => .v (.int i)) s
      | .v (.str z) => match (place z.cps.size i).bind fun j => z.cps.toList[j]? with
        | some c => .ok (.v (.str ⟨#[c]⟩)) s
        | none => .bad
      | x => match asSeq s x with
        | some ds => M.opt ((place ds.length i).bind fun j => ds[j]?) s
        | none => .bad
    | _ => .bad
/-- x[y] = d -/
def putIx (x y d : D) : M Unit := fun s => match x with
  | .ref n => match cellAt s n with
    | some (.lst xs) => match (asI y).bind (place xs.length) with
      | some j => .ok () (s.set n (some (.lst (xs.set j d))))
      | none => .bad
    | some (.dct tk kvs) => match y with
      | .v k => match kput tk kvs k d, decide (kvs.length < LIM) with
        | some q, true => .ok () (s.set n (some (.dct tk q)))
        | _, _ => .bad
      | _ => .bad
    | _ => .bad
  | _ => .bad
def fset {α : Type} (f : Str) (x : α) : List (Str × α) → List (Str × α)
  | [] => [(f, x)]
  | (g, y) :: r => if g = f then (g, x) :: r else (g, y) :: fset f x r
/-- x.f = d -/
def putFld (own : List Nat) (x : D) (f : Str) (d : D) : M Unit := fun s => match x with
  | .ref n => match cellAt s n with
    | some (.ins c fs) => match decide (fs.length < 900) && own.contains c with
      | true => .ok () (s.set n (some (.ins c (fset f d fs))))
      | false => .bad
    | _ => .bad
  | _ => .bad
def slice (m : Bool) (x : D) (lo hi : Option Int) : M D := fun s => match x with
  | .v (.str z) => .ok (.v (.str (strOf (cut z.cps.toList lo hi)))) s
  | x => match asTup x with
    | some ds => .ok (mkT (cut ds lo hi)) s
    | none => match asList s x with
      | some ds => mkL m (cut ds lo hi) s
      | none => .bad
def fget {α : Type} (fs : List (Str × α)) (f : Str) : Option α := match fs with
  | [] => none
  | (g, x) :: r => if f = g then some x else fget r f
def getattr (P : Pr) (F : Bool → Nat → List D → M D) (x : D) (f : Str) : M D := fun s => match x with
  | .exv _ fs => M.opt (fget fs f) s
  | x => match asIns s x with
    | some (c, fs) => match P.cl c with
      | some k => match k.exc, fget k.props f with
        | none, some p => nox (F false p [x]) s
        | none, none => M.opt (fget fs f) s
        | _, _ => .bad
      | none => .bad
    | none => .bad
/-- the arguments by place: the first ones, then those by name at their places -/
def placed (n : Nat) (ds : List D) (ix : List Nat) (ks : List D) : List D := match ix with
  | [] => ds
  | ix => (List.range n).filterMap fun i => if i < ds.length then ds[i]? else ((ix.zip ks).find? fun p => p.1 == i).map (·.2)
def joinS (z : List Nat) : List Str → List Nat
  | [] => []
  | [x] => x.cps.toList
  | x :: r => x.cps.toList ++ z ++ joinS z r
def iotaD (lo : Int) : Nat → List D
  | 0 => []
  | n + 1 => .v (.int lo) :: iotaD (lo + 1) n
def ranged : List D → Option (List D)
  | [.v (.int j)] => if -(LIM : Int) ≤ j ∧ j ≤ LIM then some (iotaD 0 j.toNat) else none
  | [.v (.int i), .v (.int j)] => if -(LIM : Int) ≤ i ∧ i ≤ LIM ∧ -(LIM : Int) ≤ j ∧ j ≤ LIM ∧ j - i ≤ LIM then some (iotaD i (j - i).toNat) else none
  | _ => none
def enumD : Nat → List D → List D
  | _, [] => []
  | i, d :: r => mk2 (.v (.int i)) d :: enumD (i + 1) r
def zipD : List D → List D → List D
  | a :: r, b :: q => mk2 a b :: zipD r q
  | _, _ => []
/-- each text once, those of seen ahead -/
def uniq (seen : List Str) : List Str → List Str
  | [] => seen
  | x :: r => match seen.any fun y => decide (y = x) with
    | true => uniq seen r
    | false => uniq (seen ++ [x]) r
def minI : List Int → Option Int
  | [] => none
  | [x] => some x
  | x :: r => (minI r).map fun y => if y < x then y else x
def maxI : List Int → Option Int
  | [] => none
  | [x] => some x
  | x :: r => (maxI r).map fun y => if x < y then y else x
/-- what list(..), sorted(..) walk: any sequence, a dict by its keys, a text -/
def seqOf (s : Sto) (d : D) : Option (List D) := match asSeq s d with
  | some ds => some ds
  | none => match asDct s d with
    | some (_, kvs) => some (kvs.map fun p => .v p.1)
    | none => match d with
      | .v (.str x) => some ((signs x).map .v)
      | _ => none
def asPairs1 : List D → Option (List (T × D))
  | [] => some []
  | x :: r => match asTup x with
    | some [.v k, y] => (asPairs1 r).map fun ps => (k, y) :: ps
    | _ => none
def asPairs (s : Sto) (d : D) : Option (List (T × D)) := (asList s d).bind asPairs1
/-- dict(d): of a dict, of a list of pairs -/
def dictOf (m : Bool) (d : D) : M D := fun s => match asDct s d with
  | some (false, kvs) => mkK m false kvs s
  | some (true, _) => .bad
  | none => match asPairs s d with
    | some kvs => (M.opt (kputs false [] kvs) s).bind fun kvs => mkK m false kvs
    | none => .bad
/-- one value is wanted -/
def one1 (f : D → M D) : List D → M D
  | [d] => f d
  | _ => M.bad
def biLen (d : D) : M D := fun s => match asSeq s d with
  | some xs => .ok (.v (.int xs.length)) s
  | none => match asDct s d with
    | some (_, kvs) => .ok (.v (.int kvs.length)) s
    | none => match d with
      | .v (.str x) => .ok (.v (.int x.cps.size)) s
      | .v (.scr ns) => .ok (.v (.int ns.length)) s
      | _ => .bad
def biInt (d : D) : M D := fun s => match d with
  | .v (.int i) => .ok (.v (.int i)) s
  | .v (.bl b) => .ok (.v (.int (if b then 1 else 0))) s
  | _ => .bad
def biAbs (d : D) : M D := fun s => match d with
  | .v (.int i) => .ok (.v (.int (if i < 0 then -i else i))) s
  | _ => .bad
def biList (m : Bool) (d : D) : M D := fun s => match seqOf s d with
  | some xs => mkL m xs s
  | none => .bad
def biTuple (d : D) : M D := fun s => match asTup d with
  | some _ => .ok d s
  | none => match asList s d with
    | some xs => .ok (mkT xs) s
    | none => .bad
def biStr (d : D) : M D := fun s => match d with
  | .v (.int i) => (guardM (decide (i.natAbs.log2 < 1920) && okS (toString i)) s).bind fun _ => .ret (.v (.str (toString i)))
  | _ => .bad
def biRepr (d : D) : M D := fun s => match (rd s DEEP d).bind T.py with
  | some p => (guardM (p.showable && okS p.shown && decide (p.depth ≤ 50)) s).bind fun _ => .ret (.v (.str p.shown))
  | none => .bad
def biSorted (m : Bool) (d : D) : M D := fun s => match (asList s d).bind allD with
  | some ts => match ts.mapM asStr with
    | some xs => mkL m ((sortS xs).map fun x => .v (.str x)) s
    | none => .bad
  | none => .bad
def intsOf (s : Sto) (d : D) : Option (List Int) := ((asList s d).bind allD).bind fun ts => ts.mapM asInt
def sumI : List Int → Int
  | [] => 0
  | i :: r => i + sumI r
def biSum (d : D) : M D := fun s => match intsOf s d with
  | some is => .ok (.v (.int (sumI is))) s
  | none => .bad
def biOf (g : List Int → Option Int) (d : D) : M D := fun s => match (intsOf s d).bind g with
  | some i => .ok (.v (.int i)) s
  | none => .bad
def biMin : List D → M D
  | [d] => biOf minI d
  | [.v (.int i), .v (.int j)] => .ret (.v (.int (if j < i then j else i)))
  | _ => M.bad
def biMax : List D → M D
  | [d] => biOf maxI d
  | [.v (.int i), .v (.int j)] => .ret (.v (.int (if i < j then j else i)))
  | _ => M.bad
def biNew (d : M D) : List D → M D
  | [] => d
  | _ => M.bad
def builtin (m : Bool) (b : Bi) (ds : List D) : M D := match b with
  | .len => one1 biLen ds
  | .int => one1 biInt ds
  | .abs => one1 biAbs ds
  | .list => one1 (biList m) ds
  | .list0 => biNew (mkL m []) ds
  | .dict0 => biNew (mkK m false []) ds
  | .dict0T => biNew (mkK m true []) ds
  | .tuple => one1 biTuple ds
  | .dict => one1 (dictOf m) ds
  | .str => one1 biStr ds
  | .repr => one1 biRepr ds
  | .sorted => one1 (biSorted m) ds
  | .sum => one1 biSum ds
  | .min => biMin ds
  | .max => biMax ds
/-- a value's type -/
inductive Kd where | non | bool | int | str | tuple | list | dict | own (c : Nat)
def kindOf (s : Sto) (d : D) : Option Kd := match d with
  | .v .non => some .non
  | .v (.bl _) => some .bool
  | .v (.int _) => some .int
  | .v (.str _) => some .str
  | d => match asTup d with
    | some _ => some .tuple
    | none => match asList s d with
      | some _ => some .list
      | none => match asDct s d with
        | some _ => some .dict
        | none => (asIns s d).map fun p => .own p.1
/-- isinstance, by a built-in class or an own one -/
def Kd.is : Kd → Sum Ty Nat → Bool
  | .bool, .inl .bool => true
  | .bool, .inl .int => true
  | .int, .inl .int => true
  | .str, .inl .str => true
  | .tuple, .inl .tuple => true
  | .list, .inl .list => true
  | .dict, .inl .dict => true
  | .own k, .inr c => decide (k = c)
  | _, _ => false
def ownIn (own : List Nat) : Kd → Bool
  | .own c => own.contains c
  | _ => true
def clsIn (own : List Nat) : Sum Ty Nat → Bool
  | .inr c => own.contains c
  | _ => true
def cutFirst (x : T) : List T → Option (List T)
  | [] => none
  | y :: r => if T.eqv y x then some r else (cutFirst x r).map fun q => y :: q
def lstAt (s : Sto) (o : D) : Option (Nat × List D) := match o with
  | .ref n => match cellAt s n with
    | some (.lst xs) => some (n, xs)
    | _ => none
  | _ => none
def tmAppend (o x : D) : M D := fun s => match lstAt s o with
  | some (n, xs) => (guardM (decide (xs.length < LIM)) s).bind fun _ s => .ok (.v .non) (s.set n (some (.lst (xs ++ [x]))))
  | _ => .bad
def tmPop (o : D) : M D := fun s => match lstAt s o with
  | some (n, xs) => match xs.getLast? with
    | some x => .ok x (s.set n (some (.lst xs.dropLast)))
    | none => .bad
  | _ => .bad
def tmPopi (o i : D) : M D := fun s => match lstAt s o, asI i with
  | some (n, xs), some i => match place xs.length i with
    | some j => match xs[j]? with
      | some x => .ok x (s.set n (some (.lst (xs.eraseIdx j))))
      | none => .bad
    | none => .bad
  | _, _ => .bad
def tmExtend (o y : D) : M D := fun s => match lstAt s o, asList s y with
  | some (n, xs), some ys => (guardM (decide (xs.length + ys.length ≤ LIM)) s).bind fun _ s => .ok (.v .non) (s.set n (some (.lst (xs ++ ys))))
  | _, _ => .bad
def tmClear (o : D) : M D := fun s => match lstAt s o with
  | some (n, _) => .ok (.v .non) (s.set n (some (.lst [])))
  | _ => .bad
def tmGet (o k d : D) : M D := fun s => match asDct s o, k with
  | some (tk, kvs), .v k => (guardM (kfit tk k) s).bind fun _ => .ret ((kget kvs k).getD d)
  | _, _ => .bad
def tmUpdate (o y : D) : M D := fun s => match o with
  | .ref n => match cellAt s n, asDct s y with
    | some (.dct tk kvs), some (_, more) => (guardM (decide (kvs.length + more.length ≤ LIM)) s).bind fun _ => (M.opt (kputs tk kvs more)).bind fun q s => .ok (.v .non) (s.set n (some (.dct tk q)))
    | _, _ => .bad
  | _ => .bad
def tmJoin (o y : D) : M D := fun s => match o with
  | .v (.str z) => match ((asList s y).bind allD).bind fun ts => ts.mapM asStr with
    | some xs => (guardM (decide ((joinS z.cps.toList xs).length ≤ LIM)) s).bind fun _ => .ret (.v (.str (strOf (joinS z.cps.toList xs))))
    | none => .bad
  | _ => .bad
def tmRemove (o x : D) : M D := fun s => match lstAt s o, x with
  | some (n, xs), .v x => match (allD xs).bind (cutFirst x) with
    | some ys => (guardM (x.flat && (xs.all fun y => match y with
        | .v t => t.flat
        | _ => false)) s).bind fun _ s => .ok (.v .non) (s.set n (some (.lst (ys.map .v))))
    | none => .bad
  | _, _ => .bad
/-- whose method it is -/
def okRecv : Tm → Option Kd → Bool
  | .append, some .list => true
  | .pop, some .list => true
  | .popi, some .list => true
  | .extend, some .list => true
  | .clear, some .list => true
  | .remove, some .list => true
  | .get, some .dict => true
  | .get2, some .dict => true
  | .update, some .dict => true
  | .join, some .str => true
  | _, _ => false
def tmeth (m : Bool) (o : D) (b : Tm) (ds : List D) : M D := match b, ds with
  | .append, [x] => tmAppend o x
  | .pop, [] => tmPop o
  | .popi, [i] => tmPopi o i
  | .extend, [y] => tmExtend o y
  | .clear, [] => tmClear o
  | .get, [k] => tmGet o k (.v .non)
  | .get2, [k, d] => tmGet o k d
  | .update, [y] => tmUpdate o y
  | .join, [y] => tmJoin o y
  | .remove, [x] => tmRemove o x
  | _, _ => M.bad
def isaK (own : List Nat) (k : Kd) (cs : List (Sum Ty Nat)) : Option Bool := match ownIn own k && cs.all (clsIn own) with
  | true => some (cs.any k.is)
  | false => none
def isinst (own : List Nat) (s : Sto) (d : D) (cs : List (Sum Ty Nat)) : Option Bool := match kindOf s d with
  | some k => isaK own k cs
  | none => none
def isiK (own : List Nat) (cs : List (Sum Ty Nat)) (x : D) : M D := fun s => (M.opt (isinst own s x cs) s).bind fun b => .ret (.v (.bl b))

/-! ### the evaluator -/
inductive Flow where
  | nx | br | co | rt (d : D)
inductive SRes where
  | ok (f : Flow) (e : Env) (s : Sto) | ex (c : Nat) (fs : List (Str × D)) (e : Env) (s : Sto) | bad
section
variable (P : Pr) (F : Bool → Nat → List D → M D) (FL : Nat → Env → M D)
def testOf (d : D) : M Bool := M.opt (asB d)
/-- the turns of a comprehension: what it has, the values that are left -/
def turns (g : Pt) (env : Env) (cond : Env → M Bool) (elt : Env → M D) : List D → List D → M (List D)
  | [], acc => .ret acc
  | x :: r, acc => fun s => match bindP s g x env with
    | some e => (cond e s).bind fun b => match b with
      | true => (elt e).bind fun y => turns g env cond elt r (acc ++ [y])
      | false => turns g env cond elt r acc
    | none => .bad
def turnsK (tk : Bool) (g : Pt) (env : Env) (cond : Env → M Bool) (ke ve : Env → M D) : List D → List (T × D) → M (List (T × D))
  | [], acc => .ret acc
  | x :: r, acc => fun s => match bindP s g x env with
    | some e => (cond e s).bind fun b => match b with
      | true => (ke e).bind fun k => (ve e).bind fun y => match k with
        | .v k => (M.opt (kput tk acc k y)).bind fun acc => turnsK tk g env cond ke ve r acc
        | _ => M.bad
      | false => turnsK tk g env cond ke ve r acc
    | none => .bad
def makeI (c : Nat) (ds : List D) : M D := fun s => match (P.cl c).bind fun k => k.init.map fun i => (i, k.fz) with
  | some (i, fz) => ((F false i (.ref s.length :: ds)) (s ++ [some (.ins c [])])).bind fun r s' => match r with
    | .v .non => match fz with
      | true => trimZ s.length (.ref s.length) s'
      | false => trim s.length (.ref s.length) s'
    | _ => .bad
  | none => .bad
/-- an exception's fields -/
def excFs (c : Nat) (ds : List D) : Option (List (Str × D)) := match (P.cl c).bind Cl.exc, ds with
  | some (some f), [d] => some [(f, d)]
  | some none, [] => some []
  | _, _ => none
def isExc (c : Nat) : Bool := ((P.cl c).bind Cl.exc).isSome
def methF (z : Bool) (o : D) (m : Str) (ds : List D) : M D := fun s => match (asIns s o).bind fun p => (P.cl p.1).bind fun k => fget k.meths m with
  | some f => F z f (o :: ds) s
  | none => .bad
def npOf (f : Nat) : Nat := match P.fn f with
  | some d => d.np
  | none => 0
def npM (s : Sto) (o : D) (m : Str) : Nat := match (asIns s o).bind fun p => (P.cl p.1).bind fun k => fget k.meths m with
  | some f => npOf P f - 1
  | none => 0
def npC (c : Nat) : Nat := match (P.cl c).bind Cl.init with
  | some f => npOf P f - 1
  | none => 0
/-- without stars there are as many as are written -/
def fewS (es : List (Bool × C)) (ds : List D) : Bool := !(es.any fun p => p.1) || decide (ds.length ≤ LIM)
mutual
def ev (env : Env) : C → M D
  | .var i => M.opt ((env[i]?).bind id)
  | .int i => .ret (.v (.int i))
  | .str x => .ret (.v (.str x))
  | .bl b => .ret (.v (.bl b))
  | .non => .ret (.v .non)
  | .glob x => M.opt ((P.glob x).map .v)
  | .bin m o a b => (ev env a).bind fun x => (ev env b).bind fun y => binop m o x y
  | .neg a => (ev env a).bind fun x => (M.opt (asI x)).bind fun i => .ret (.v (.int (-i)))
  | .not a => (ev env a).bind fun x => (testOf x).bind fun b => .ret (.v (.bl (!b)))
  | .and a b => (ev env a).bind fun x => (testOf x).bind fun c => match c with
    | true => ev env b
    | false => .ret (.v (.bl false))
  | .or a b => (ev env a).bind fun x => (testOf x).bind fun c => match c with
    | true => .ret (.v (.bl true))
    | false => ev env b
  | .cmp o a b => (ev env a).bind fun x => (ev env b).bind fun y => cmpop P F o x y
  | .chain a o b p c => (ev env a).bind fun x => (ev env b).bind fun y => (cmpop P F o x y).bind fun r => (testOf r).bind fun k => match k with
    | true => (ev env c).bind fun z => cmpop P F p y z
    | false => .ret (.v (.bl false))
  | .ite c a b => (ev env c).bind fun x => (testOf x).bind fun k => match k with
    | true => ev env a
    | false => ev env b
  | .lst m es => (evst env es).bind fun ds => (guardM (fewS es ds)).bind fun _ => mkL m ds
  | .tup es => (evst env es).bind fun ds => (guardM (fewS es ds)).bind fun _ => .ret (mkT ds)
  | .dct m tk kvs => (nox (evk env kvs)).bind fun ps => (M.opt (kputs tk [] ps)).bind fun qs => mkK m tk qs
  | .ix a i => (ev env a).bind fun x => (ev env i).bind fun y => item x y
  | .sl m a lo hi => (ev env a).bind fun x => (evo env lo).bind fun l => (evo env hi).bind fun h => slice m x l h
  | .rev m a => (ev env a).bind fun x s => match asTup x with
    | some ds => .ok (mkT ds.reverse) s
    | none => match asList s x with
      | some ds => mkL m ds.reverse s
      | none => .bad
  | .attr a f => (ev env a).bind fun x => getattr P F x f
  | .call z f es ix ks => (evs env es).bind fun ds => (evs env ks).bind fun kd => F z f (placed (npOf P f) ds ix kd)
  | .meth z o m es ix ks => (ev env o).bind fun x => (evs env es).bind fun ds => (evs env ks).bind fun kd s => methF P F z x m (placed (npM P s x m) ds ix kd) s
  | .make c es ix ks => (evs env es).bind fun ds => (evs env ks).bind fun kd => makeI P F c (placed (npC P c) ds ix kd)
  | .bi m b es => (evs env es).bind fun ds => builtin m b ds
  | .isi a cs => (ev env a).bind (isiK P.own cs)
  | .lenset a => (ev env a).bind fun x s => match ((asSeq s x).bind allD).bind fun ts => ts.mapM asStr with
    | some xs => (guardM (decide (xs.length ≤ 4000)) s).bind fun _ => .ret (.v (.int (uniq [] xs).length))
    | none => .bad
  | .tm m o b es => (ev env o).bind fun x s => (guardM (okRecv b (kindOf s x)) s).bind fun _ => (evs env es).bind fun ds => tmeth m x b ds
  | .comp m e own g it cond => (evi env it).bind fun xs => (nox (turns g (wipeE env own) (fun en => evc en cond) (fun en => ev en e) xs [])).bind fun ys => mkL m ys
  | .dcomp m tk k e own g it cond => (evi env it).bind fun xs => (nox (turnsK tk g (wipeE env own) (fun en => evc en cond) (fun en => ev en k) (fun en => ev en e) xs [])).bind fun ys => mkK m tk ys
  | .frz a => (ev env a).bind fun x s => match x with
    | .ref n => match cellAt s n with
      | some (.lst ds) => match allD ds with
        | some ts => .ok (.v (.lst ts)) (s.set n none)
        | none => .bad
      | some (.dct tk kvs) => match allV kvs with
        | some ts => .ok (.v (.dct tk ts)) (s.set n none)
        | none => .bad
      | _ => .bad
    | x => .ok x s
  | .lam k _ => .ret (.lam k env)
  | .calv a => (ev env a).bind fun x => match x with
    | .lam k e => FL k e
    | _ => M.bad
  | .rng _ => M.bad
  | .enum _ => M.bad
  | .zip _ _ => M.bad
  | .items _ => M.bad
  | .vals _ => M.bad
  | .it _ => M.bad
def evs (env : Env) : List C → M (List D)
  | [] => .ret []
  | e :: r => (ev env e).bind fun x => (evs env r).bind fun xs => .ret (x :: xs)
/-- a tuple's items, some of them starred -/
def evst (env : Env) : List (Bool × C) → M (List D)
  | [] => .ret []
  | (b, e) :: r => (ev env e).bind fun x s => match b with
    | true => match asSeq s x with
      | some ds => ((evst env r) s).bind fun xs => .ret (ds ++ xs)
      | none => .bad
    | false => ((evst env r) s).bind fun xs => .ret (x :: xs)
def evk (env : Env) : List (C × C) → M (List (T × D))
  | [] => .ret []
  | (k, e) :: r => (ev env k).bind fun x => (ev env e).bind fun y => match x with
    | .v q => (evk env r).bind fun ps => .ret ((q, y) :: ps)
    | _ => M.bad
def evo (env : Env) : Option C → M (Option Int)
  | none => .ret none
  | some e => (ev env e).bind fun x => (M.opt (asI x)).bind fun i => .ret (some i)
/-- a test -/
def evc (env : Env) : Option C → M Bool
  | none => .ret true
  | some e => (ev env e).bind testOf
/-- what is walked -/
def evi (env : Env) : C → M (List D)
  | .rng es => (evs env es).bind fun ds => M.opt (ranged ds)
  | .enum a => (ev env a).bind fun x => (M.opt (walked2 x)).bind fun xs => .ret (enumD 0 xs)
  | .zip a b => (ev env a).bind fun x => (ev env b).bind fun y => (M.opt (walked2 x)).bind fun xs => (M.opt (walked2 y)).bind fun ys => .ret (zipD xs ys)
  | .items a => (ev env a).bind fun x s => match x with
    | .v (.dct _ kvs) => .ok (kvs.map fun p => .v (.tup [p.1, p.2])) s
    | _ => .bad
  | .vals a => (ev env a).bind fun x s => match x with
    | .v (.dct _ kvs) => .ok (kvs.map fun p => .v p.2) s
    | _ => .bad
  | .it a => (ev env a).bind fun x => M.opt (walked x)
  | _ => M.bad
end
def SRes.bind (r : SRes) (f : Env → Sto → SRes) : SRes := match r with
  | .ok .nx e s => f e s
  | r => r
/-- an expression in a statement -/
def withE {α : Type} (env : Env) (r : Res α) (f : α → Sto → SRes) : SRes := match r with
  | .ok a s => f a s
  | .ex c fs s => .ex c fs env s
  | .bad => .bad
def forL (g : Pt) (body : Env → Sto → SRes) : List D → Env → Sto → SRes
  | [], env, s => .ok .nx env s
  | x :: r, env, s => match bindP s g x env with
    | some e => match body e s with
      | .ok .nx e s => forL g body r e s
      | .ok .co e s => forL g body r e s
      | .ok .br e s => .ok .nx e s
      | q => q
    | none => .bad
def whileL (test : Env → M Bool) (body : Env → Sto → SRes) : Nat → Env → Sto → SRes
  | 0, _, _ => .bad
  | n + 1, env, s => withE env (test env s) fun b s => match b with
    | true => match body env s with
      | .ok .nx e s => whileL test body n e s
      | .ok .co e s => whileL test body n e s
      | .ok .br e s => .ok .nx e s
      | q => q
    | false => .ok .nx env s
mutual
/-- a target stored -/
def store (env : Env) : Tg → D → M Env
  | .pt p, d => fun s => M.opt (bindP s p d env) s
  | .six o i, d => (ev P F FL env o).bind fun x => (ev P F FL env i).bind fun y => (putIx x y d).bind fun _ => .ret env
  | .fld o f, d => (ev P F FL env o).bind fun x => (putFld P.own x f d).bind fun _ => .ret env
  | .tpl ts, d => fun s => match asTup d with
    | some ds => nox (stores env ts ds) s
    | none => .bad
def stores (env : Env) : List Tg → List D → M Env
  | [], [] => .ret env
  | t :: ts, d :: ds => (store env t d).bind fun e => stores e ts ds
  | _, _ => M.bad
end
mutual
def exS (env : Env) : S → Sto → SRes
  | .asg g e, s => withE env ((ev P F FL env e) s) fun d s => withE env (store P F FL env g d s) fun en s => .ok .nx en s
  | .aug i o e, s => withE env ((M.opt (((env[i]?).bind id).bind asI)).bind (fun x => (ev P F FL env e).bind fun y => binop true o (.v (.int x)) y) s) fun d s => .ok .nx (env.set i (some d)) s
  | .augs a i o e, s => withE env (((ev P F FL env a).bind fun x => (ev P F FL env i).bind fun y => (item x y).bind fun old => (ev P F FL env e).bind fun z => (M.opt (asI old)).bind fun old => (binop true o (.v (.int old)) z).bind fun d => putIx x y d) s) fun _ s => .ok .nx env s
  | .ife c a b, s => withE env (((ev P F FL env c).bind testOf) s) fun k s => match k with
    | true => exSs env a s
    | false => exSs env b s
  | .for_ g it body, s => withE env (evi P F FL env it s) fun xs s => forL g (fun e s => exSs e body s) xs env s
  | .while_ c body, s => whileL (fun e => (ev P F FL e c).bind testOf) (fun e s => exSs e body s) P.fuel env s
  | .ret e, s => withE env ((ev P F FL env e) s) fun d s => .ok (.rt d) env s
  | .retn, s => .ok (.rt (.v .non)) env s
  | .ex e, s => withE env ((ev P F FL env e) s) fun _ s => .ok .nx env s
  | .raise c es, s => withE env ((evs P F FL env es) s) fun ds s => match excFs P c ds with
    | some fs => .ex c fs env s
    | none => .bad
  | .try_ body hs, s => match exSs env body s with
    | .ex c fs e s => exH c fs e hs s
    | r => r
  | .pass, s => .ok .nx env s
  | .cont, s => .ok .co env s
  | .brk, s => .ok .br env s
def exSs (env : Env) : List S → Sto → SRes
  | [], s => .ok .nx env s
  | x :: r, s => (exS env x s).bind fun e s => exSs e r s
/-- the first clause that takes it; a suite that raises is out of the language -/
def exH (c : Nat) (fs : List (Str × D)) (env : Env) : List (Nat × Option Nat × List S) → Sto → SRes
  | [], s => .ex c fs env s
  | (k, i, body) :: r, s => match isExc P c && isExc P k with
    | true => match decide (k = c) with
      | true => match i with
        | none => match exSs env body s with
          | .ok f e s => .ok f e s
          | _ => .bad
        | some i => match decide (i < env.length) with
          | true => match exSs (env.set i (some (.exv c fs))) body s with
            | .ok f e s => .ok f (e.set i none) s
            | _ => .bad
          | false => .bad
      | false => exH c fs env r s
    | false => .bad
end
end
/-- a call at level n -/
def run (P : Pr) (LM : Nat → Option C) : Nat → Bool → Nat → List D → M D
  | 0, _, _, _ => M.bad
  | n + 1, z, f, ds => fun s => match P.fn f with
    | none => .bad
    | some d => match decide (ds.length = d.np) with
      | false => .bad
      | true => match exSs P (run P LM n) (fun k e => match LM k with
          | some c => ev P (run P LM n) (fun _ _ => M.bad) e c
          | none => M.bad) (ds.map some ++ List.replicate (d.ns - d.np) none) d.body s with
        | .ok (.rt r) _ s' => match d.z || z with
          | true => trimZ s.length r s'
          | false => trim s.length r s'
        | .ok .nx _ s' => trim s.length (.v .non) s'
        | .ex c fs _ s' => trimX s.length c fs s'
        | _ => .bad
end PV
end
section
set_option Elab.async false
set_option linter.all false
set_option maxRecDepth 100000
set_option maxHeartbeats 1000000
/-! FB1: how the evaluator's values and store lie in the hand layer's abstract heap. -/
namespace PV
open PySem PySem.Spec PyProof.Rows L2
theorem okS.ok {x : Str} (h : okS x = true) : PyData.strOk x = true := (Bool.and_eq_true_iff.mp h).1
theorem okS.len {x : Str} (h : okS x = true) : x.length ≤ sizeLine := by
  rw [sizeLine_eq]
  exact of_decide_eq_true (Bool.and_eq_true_iff.mp h).2
/-- where the store's cells stand; none: a cell that is frozen by now -/
structure Mp where
  l : List (Option Addr)
  /-- what nobody may see: a comprehension's own list -/
  h : List Addr
def Mp.push (m : Mp) (p : Addr) : Mp := ⟨m.l ++ [some p], m.h⟩
def Mp.cut (m : Mp) (n : Nat) : Mp := ⟨m.l.take n, m.h⟩
def Mp.hide (m : Mp) (p : Addr) : Mp := ⟨m.l, p :: m.h⟩
structure Out (m : Mp) (a : Addr) : Prop where
  c : ∀ n : Nat, m.l[n]? ≠ some (some a)
  h : a ∉ m.h
def tKey : T → Option Key
  | .int i => some (.inl i)
  | .str x => if okS x then some (.inr x) else none
  | _ => none
def tKeys : List T → Option (List Key)
  | [] => some []
  | t :: r => match tKey t, tKeys r with
    | some k, some ks => some (k :: ks)
    | _, _ => none
section
variable (K : PySem.W.Frag) (ca : Nat → Addr) (m : Mp) (H : Hp)
mutual
inductive RT : T → V → Prop
  | non : RT .non .non
  | bl (b : Bool) : RT (.bl b) (.bl b)
  | int (i : Int) : RT (.int i) (.int i)
  | str (x : Str) : okS x = true → RT (.str x) (.str x)
  | tup {ts : List T} {a : Addr} {vs : List V} : H a = some (.tup vs) → Out m a → ts.length ≤ sizeLine → RTs ts vs → RT (.tup ts) (.ref a)
  | lst {ts : List T} {a : Addr} {vs : List V} : H a = some (.lst vs) → Out m a → ts.length ≤ sizeLine → RTs ts vs → RT (.lst ts) (.ref a)
  | dctK {kvs : List (T × T)} {a : Addr} {ps : List (Key × V)} : Rd H a (.dK ps) → Out m a → kvs.length ≤ sizeLine → RTk kvs ps → RT (.dct false kvs) (.ref a)
  | dctT {kvs : List (T × T)} {a : Addr} {ps : List (List Key × V)} : Rd H a (.dT ps) → Out m a → kvs.length ≤ sizeLine → RTt kvs ps → RT (.dct true kvs) (.ref a)
  | scr {ns : List Int} {a : Addr} : ((∃ o, H a = some (.frz o (.lst (ns.map V.int)))) ∨ ∀ H', SqL K H' a (ns.map V.int)) → RT (.scr ns) (.ref a)
  | obj {c : Nat} {fs : List (Str × T)} {a dx : Addr} {gs : List (Str × V)} : H a = some (.ins (ca c) dx gs) → Out m a → RTf fs gs → RT (.obj c fs) (.ref a)
inductive RTs : List T → List V → Prop
  | nil : RTs [] []
  | cons {t : T} {v : V} {ts : List T} {vs : List V} : RT t v → RTs ts vs → RTs (t :: ts) (v :: vs)
inductive RTk : List (T × T) → List (Key × V) → Prop
  | nil : RTk [] []
  | cons {k t : T} {q : Key} {v : V} {r : List (T × T)} {ps : List (Key × V)} : tKey k = some q → RT t v → RTk r ps → RTk ((k, t) :: r) ((q, v) :: ps)
inductive RTt : List (T × T) → List (List Key × V) → Prop
  | nil : RTt [] []
  | cons {ks : List T} {t : T} {q : List Key} {v : V} {r : List (T × T)} {ps : List (List Key × V)} : tKeys ks = some q → RT t v → RTt r ps → RTt ((.tup ks, t) :: r) ((q, v) :: ps)
inductive RTf : List (Str × T) → List (Str × V) → Prop
  | nil : RTf [] []
  | cons {f : Str} {t : T} {v : V} {r : List (Str × T)} {gs : List (Str × V)} : RT t v → RTf r gs → RTf ((f, t) :: r) ((f, v) :: gs)
end
end
/-- the heap and the map grow: cells may be frozen, all that is not a cell stays -/
structure Ext (m : Mp) (H : Hp) (m' : Mp) (H' : Hp) : Prop where
  le : ∀ (n : Nat) o, m.l[n]? = some o → m'.l[n]? = some o ∨ m'.l[n]? = some none
  keep : ∀ a u, Rd H a u → Out m a → Rd H' a u
  keepE : ∀ a u, H a = some u → Out m a → (∀ ps, u ≠ .dK ps) → (∀ ps, u ≠ .dT ps) → H' a = some u
  frz : ∀ a o u, H a = some (.frz o u) → H' a = some (.frz o u)
  out : ∀ a u, H a = some u → Out m a → Out m' a
  hid : ∀ a u, a ∈ m.h → H a = some u → H' a = some u
  hh : m'.h = m.h
/-- .. without a word on what is hidden -/
structure ExtW (m : Mp) (H : Hp) (m' : Mp) (H' : Hp) : Prop where
  le : ∀ (n : Nat) o, m.l[n]? = some o → m'.l[n]? = some o ∨ m'.l[n]? = some none
  keep : ∀ a u, Rd H a u → Out m a → Rd H' a u
  keepE : ∀ a u, H a = some u → Out m a → (∀ ps, u ≠ .dK ps) → (∀ ps, u ≠ .dT ps) → H' a = some u
  frz : ∀ a o u, H a = some (.frz o u) → H' a = some (.frz o u)
  out : ∀ a u, H a = some u → Out m a → Out m' a
theorem Rd.tr {H : Hp} {a : Addr} {u : HO} (r : Rd H a u) : ∃ o, H a = some o := by
  rcases r with r | ⟨o, r⟩ <;> exact ⟨_, r⟩
theorem Ext.refl (m : Mp) (H : Hp) : Ext m H m H := ⟨fun _ _ h => .inl h, fun _ _ h _ => h, fun _ _ h _ _ _ => h, fun _ _ _ h => h, fun _ _ _ h => h, fun _ _ _ h => h, rfl⟩
section
variable {m m1 m2 m' : Mp} {H H1 H2 H' : Hp} {K : PySem.W.Frag} {ca : Nat → Addr}
theorem Ext.trans (a : Ext m H m1 H1) (b : Ext m1 H1 m2 H2) : Ext m H m2 H2 := by
  refine ⟨fun n o h => ?_, fun x u h o => ?_, fun x u h o h1 h2 => b.keepE x u (a.keepE x u h o h1 h2) (a.out x _ h o) h1 h2, fun x o u h => b.frz x o u (a.frz x o u h), fun x u h o => ?_, fun x u h q => b.hid x u (by rw [a.hh]; exact h) (a.hid x u h q), b.hh.trans a.hh⟩
  · rcases a.le n o h with h1 | h1
    · exact b.le n o h1
    · rcases b.le n none h1 with h2 | h2 <;> exact .inr h2
  · obtain ⟨w, q⟩ := Rd.tr h
    exact b.keep x u (a.keep x u h o) (a.out x w q o)
  · have h1 := a.keep x u (.inl h) o
    obtain ⟨w, q⟩ := Rd.tr h1
    exact b.out x w q (a.out x u h o)
theorem ExtW.lst (e : ExtW m H m' H') {a : Addr} {xs : List V} (h : H a = some (.lst xs)) (o : Out m a) : H' a = some (.lst xs) := e.keepE a _ h o (fun _ z => nomatch z) (fun _ z => nomatch z)
theorem ExtW.tup (e : ExtW m H m' H') {a : Addr} {xs : List V} (h : H a = some (.tup xs)) (o : Out m a) : H' a = some (.tup xs) := e.keepE a _ h o (fun _ z => nomatch z) (fun _ z => nomatch z)
theorem ExtW.ins (e : ExtW m H m' H') {a C dx : Addr} {xs : List (Str × V)} (h : H a = some (.ins C dx xs)) (o : Out m a) : H' a = some (.ins C dx xs) := e.keepE a _ h o (fun _ z => nomatch z) (fun _ z => nomatch z)
theorem ExtW.tupl (e : ExtW m H m' H') {a : Addr} {u : HO} (h : Rd H a u) (o : Out m a) : Rd H' a u ∧ Out m' a := by
  obtain ⟨w, q⟩ := Rd.tr h
  exact ⟨e.keep a _ h o, e.out a w q o⟩
mutual
theorem RT.extW (e : ExtW m H m' H') : ∀ {t : T} {v : V}, RT K ca m H t v → RT K ca m' H' t v
  | _, _, .non => .non
  | _, _, .bl b => .bl b
  | _, _, .int i => .int i
  | _, _, .str x h => .str x h
  | _, _, .tup h o l r => .tup (e.tup h o) (e.out _ _ h o) l (RTs.extW e r)
  | _, _, .lst h o l r => .lst (e.lst h o) (e.out _ _ h o) l (RTs.extW e r)
  | _, _, .scr h => .scr (h.elim (fun ⟨o, z⟩ => .inl ⟨o, e.frz _ o _ z⟩) .inr)
  | _, _, .dctK h o l r => .dctK (e.tupl h o).1 (e.tupl h o).2 l (RTk.extW e r)
  | _, _, .dctT h o l r => .dctT (e.tupl h o).1 (e.tupl h o).2 l (RTt.extW e r)
  | _, _, .obj h o r => .obj (e.ins h o) (e.out _ _ h o) (RTf.extW e r)
theorem RTs.extW (e : ExtW m H m' H') : ∀ {ts : List T} {vs : List V}, RTs K ca m H ts vs → RTs K ca m' H' ts vs
  | _, _, .nil => .nil
  | _, _, .cons h r => .cons (RT.extW e h) (RTs.extW e r)
theorem RTk.extW (e : ExtW m H m' H') : ∀ {ts : List (T × T)} {vs : List (Key × V)}, RTk K ca m H ts vs → RTk K ca m' H' ts vs
  | _, _, .nil => .nil
  | _, _, .cons k h r => .cons k (RT.extW e h) (RTk.extW e r)
theorem RTt.extW (e : ExtW m H m' H') : ∀ {ts : List (T × T)} {vs : List (List Key × V)}, RTt K ca m H ts vs → RTt K ca m' H' ts vs
  | _, _, .nil => .nil
  | _, _, .cons k h r => .cons k (RT.extW e h) (RTt.extW e r)
theorem RTf.extW (e : ExtW m H m' H') : ∀ {ts : List (Str × T)} {vs : List (Str × V)}, RTf K ca m H ts vs → RTf K ca m' H' ts vs
  | _, _, .nil => .nil
  | _, _, .cons h r => .cons (RT.extW e h) (RTf.extW e r)
end
end
section
variable (K : PySem.W.Frag) (ca : Nat → Addr) (m : Mp) (H : Hp)
mutual
/-- a value; of a cell that is frozen by now nothing is said -/
inductive RD : D → V → Prop
  | v {t : T} {x : V} : RT K ca m H t x → RD (.v t) x
  | ref {n : Nat} {a : Addr} : m.l[n]? = some (some a) → RD (.ref n) (.ref a)
  | dead {n : Nat} {x : V} : m.l[n]? = some none → RD (.ref n) x
  | tp {ds : List D} {a : Addr} {vs : List V} : H a = some (.tup vs) → Out m a → ds.length ≤ sizeLine → RDs ds vs → RD (.tp ds) (.ref a)
  | lp {ds : List D} {a : Addr} {vs : List V} : H a = some (.lst vs) → Out m a → ds.length ≤ sizeLine → RDs ds vs → RD (.lp ds) (.ref a)
inductive RDs : List D → List V → Prop
  | nil : RDs [] []
  | cons {d : D} {v : V} {ds : List D} {vs : List V} : RD d v → RDs ds vs → RDs (d :: ds) (v :: vs)
end
inductive RDk : List (T × D) → List (Key × V) → Prop
  | nil : RDk [] []
  | cons {k : T} {t : D} {q : Key} {v : V} {r : List (T × D)} {ps : List (Key × V)} : tKey k = some q → RD K ca m H t v → RDk r ps → RDk ((k, t) :: r) ((q, v) :: ps)
inductive RDt : List (T × D) → List (List Key × V) → Prop
  | nil : RDt [] []
  | cons {ks : List T} {t : D} {q : List Key} {v : V} {r : List (T × D)} {ps : List (List Key × V)} : tKeys ks = some q → RD K ca m H t v → RDt r ps → RDt ((.tup ks, t) :: r) ((q, v) :: ps)
inductive RDf : List (Str × D) → List (Str × V) → Prop
  | nil : RDf [] []
  | cons {f : Str} {t : D} {v : V} {r : List (Str × D)} {gs : List (Str × V)} : RD K ca m H t v → RDf r gs → RDf ((f, t) :: r) ((f, v) :: gs)
/-- a cell's content, at its address -/
inductive RC : Cell → Addr → Prop
  | lst {ds : List D} {a : Addr} {vs : List V} : H a = some (.lst vs) → ds.length ≤ sizeLine → RDs K ca m H ds vs → RC (.lst ds) a
  | dctK {kvs : List (T × D)} {a : Addr} {ps : List (Key × V)} : H a = some (.dK ps) → kvs.length ≤ sizeLine → RDk K ca m H kvs ps → RC (.dct false kvs) a
  | dctT {kvs : List (T × D)} {a : Addr} {ps : List (List Key × V)} : H a = some (.dT ps) → kvs.length ≤ sizeLine → RDt K ca m H kvs ps → RC (.dct true kvs) a
  | ins {c : Nat} {fs : List (Str × D)} {a dx : Addr} {gs : List (Str × V)} : H a = some (.ins (ca c) dx gs) → RDf K ca m H fs gs → RC (.ins c fs) a
/-- the store -/
structure RS (st : Sto) : Prop where
  len : m.l.length = st.length
  inj : ∀ (i j : Nat) (a : Addr), m.l[i]? = some (some a) → m.l[j]? = some (some a) → i = j
  cells : ∀ (n : Nat) (a : Addr), m.l[n]? = some (some a) → ∃ c, cellAt st n = some c ∧ RC K ca m H c a
  dead : ∀ (n : Nat), m.l[n]? = some none → st[n]? = some none
  apart : ∀ (n : Nat) (a : Addr), m.l[n]? = some (some a) → a ∉ m.h
  hs : ∀ a, a ∈ m.h → (∃ xs, H a = some (.lst xs)) ∨ (∃ ps, H a = some (.dK ps)) ∨ ∃ ps, H a = some (.dT ps)
/-- the slots -/
def RE (env : Env) (σ : L2.St) : Prop := env.length = σ.length ∧ ∀ (i : Nat) (d : D), env[i]? = some (some d) → ∃ v, σ[i]? = some (some v) ∧ RD K ca m H d v
end
section
variable {m m1 m2 m' : Mp} {H H1 H2 H' : Hp} {K : PySem.W.Frag} {ca : Nat → Addr}
mutual
theorem RD.extW (e : ExtW m H m' H') : ∀ {t : D} {v : V}, RD K ca m H t v → RD K ca m' H' t v
  | _, _, .v h => .v (h.extW e)
  | _, _, .ref (n := n) h => match e.le n _ h with
    | .inl q => .ref q
    | .inr q => .dead q
  | _, _, .dead (n := n) h => match e.le n _ h with
    | .inl q => .dead q
    | .inr q => .dead q
  | _, _, .tp h o l r => .tp (e.tup h o) (e.out _ _ h o) l (RDs.extW e r)
  | _, _, .lp h o l r => .lp (e.lst h o) (e.out _ _ h o) l (RDs.extW e r)
theorem RDs.extW (e : ExtW m H m' H') : ∀ {ts : List D} {vs : List V}, RDs K ca m H ts vs → RDs K ca m' H' ts vs
  | _, _, .nil => .nil
  | _, _, .cons h r => .cons (RD.extW e h) (RDs.extW e r)
end
theorem Ext.w (e : Ext m H m' H') : ExtW m H m' H' := ⟨e.le, e.keep, e.keepE, e.frz, e.out⟩
theorem Ext.lst (e : Ext m H m' H') {a : Addr} {xs : List V} (h : H a = some (.lst xs)) (o : Out m a) : H' a = some (.lst xs) := e.w.lst h o
theorem Ext.tup (e : Ext m H m' H') {a : Addr} {xs : List V} (h : H a = some (.tup xs)) (o : Out m a) : H' a = some (.tup xs) := e.w.tup h o
theorem Ext.ins (e : Ext m H m' H') {a C dx : Addr} {xs : List (Str × V)} (h : H a = some (.ins C dx xs)) (o : Out m a) : H' a = some (.ins C dx xs) := e.w.ins h o
theorem Ext.tupl (e : Ext m H m' H') {a : Addr} {u : HO} (h : Rd H a u) (o : Out m a) : Rd H' a u ∧ Out m' a := e.w.tupl h o
theorem RT.ext (e : Ext m H m' H') {t : T} {v : V} (h : RT K ca m H t v) : RT K ca m' H' t v := RT.extW e.w h
theorem RTs.ext (e : Ext m H m' H') {t : List T} {v : List V} (h : RTs K ca m H t v) : RTs K ca m' H' t v := RTs.extW e.w h
theorem RTk.ext (e : Ext m H m' H') {t : List (T × T)} {v : List (Key × V)} (h : RTk K ca m H t v) : RTk K ca m' H' t v := RTk.extW e.w h
theorem RTt.ext (e : Ext m H m' H') {t : List (T × T)} {v : List (List Key × V)} (h : RTt K ca m H t v) : RTt K ca m' H' t v := RTt.extW e.w h
theorem RTf.ext (e : Ext m H m' H') {t : List (Str × T)} {v : List (Str × V)} (h : RTf K ca m H t v) : RTf K ca m' H' t v := RTf.extW e.w h
theorem RD.ext (e : Ext m H m' H') {t : D} {v : V} (h : RD K ca m H t v) : RD K ca m' H' t v := RD.extW e.w h
theorem RDs.ext (e : Ext m H m' H') {t : List D} {v : List V} (h : RDs K ca m H t v) : RDs K ca m' H' t v := RDs.extW e.w h
theorem RE.extW (e : ExtW m H m' H') {env : Env} {σ : L2.St} (h : RE K ca m H env σ) : RE K ca m' H' env σ := by
  refine ⟨h.1, fun i d hd => ?_⟩
  obtain ⟨v, q, r⟩ := h.2 i d hd
  exact ⟨v, q, r.extW e⟩
theorem RE.ext (e : Ext m H m' H') {env : Env} {σ : L2.St} (h : RE K ca m H env σ) : RE K ca m' H' env σ := by
  refine ⟨h.1, fun i d hd => ?_⟩
  obtain ⟨v, q, r⟩ := h.2 i d hd
  exact ⟨v, q, r.ext e⟩
/-- the script's list -/
theorem scr_at {a : Addr} {ns : List Int} (h : (∃ o, H a = some (.frz o (.lst (ns.map V.int)))) ∨ ∀ H', SqL K H' a (ns.map V.int)) : SqL K H a (ns.map V.int) := h.elim (fun ⟨o, z⟩ => .inl (.inr ⟨o, z⟩)) fun z => z H
theorem RDs.len {ds : List D} {vs : List V} (h : RDs K ca m H ds vs) : ds.length = vs.length := by
  induction ds generalizing vs with
  | nil => cases h; rfl
  | cons d r ih => cases h with
    | cons _ q => simp [ih q]
theorem RTs.len {ds : List T} {vs : List V} (h : RTs K ca m H ds vs) : ds.length = vs.length := by
  induction ds generalizing vs with
  | nil => cases h; rfl
  | cons d r ih => cases h with
    | cons _ q => simp [ih q]
end
end PV
end
section
set_option Elab.async false
set_option linter.all false
set_option maxRecDepth 100000
set_option maxHeartbeats 1000000
/-! FB2: readings by the evaluator. -/
namespace PV
open PySem PySem.Spec PyProof.Rows L2
section
variable (K : PySem.W.Frag) (ca : Nat → Addr) (W : WX)
/-- an exception's own dict -/
def RX (m : Mp) (H : Hp) (fs : List (Str × D)) (dd : Option Addr) : Prop :=
  ∃ d gs, dd = some d ∧ H d = some (.xd gs) ∧ RDf K ca m H fs gs
def Post (σ : L2.St) (m : Mp) (H : Hp) (r : Res D) (Q : VK) : Prop := match r with
  | .ok d st => ∀ m' H' v, RS K ca m' H' st → RD K ca m' H' d v → Ext m H m' H' → Q v H'
  | .ex c fs st => ∀ m' H' dd, RS K ca m' H' st → RX K ca m' H' fs dd → Ext m H m' H' → W (.ref (ca c)) dd σ H'
  | .bad => False
def PostL (σ : L2.St) (m : Mp) (H : Hp) (r : Res (List D)) (Q : List V → Hp → Prop) : Prop := match r with
  | .ok d st => ∀ m' H' vs, RS K ca m' H' st → RDs K ca m' H' d vs → Ext m H m' H' → Q vs H'
  | .ex c fs st => ∀ m' H' dd, RS K ca m' H' st → RX K ca m' H' fs dd → Ext m H m' H' → W (.ref (ca c)) dd σ H'
  | .bad => False
/-- a result that is not a value of the program -/
def PostG {α : Type} (σ : L2.St) (m : Mp) (H : Hp) (r : Res α) (Q : α → Mp → Hp → Sto → Prop) : Prop := match r with
  | .ok a st => ∀ m' H', RS K ca m' H' st → Ext m H m' H' → Q a m' H' st
  | .ex c fs st => ∀ m' H' dd, RS K ca m' H' st → RX K ca m' H' fs dd → Ext m H m' H' → W (.ref (ca c)) dd σ H'
  | .bad => False
def rdE (f : Env → M D) : TE := fun σ H Q => ∃ m st env, RS K ca m H st ∧ RE K ca m H env σ ∧ Post K ca W σ m H (f env st) Q
def rdL (f : Env → M (List D)) : TA := fun σ H Q => ∃ m st env, RS K ca m H st ∧ RE K ca m H env σ ∧ PostL K ca W σ m H (f env st) Q
def rdT (f : Env → M Bool) : TT := fun σ H Q => ∃ m st env, RS K ca m H st ∧ RE K ca m H env σ ∧ PostG K ca W σ m H (f env st) fun b _ H' _ => Q b H'
end
theorem _root_.L2.PE.imp {X : Cx} {e : Expr} {t t' : TE} (h : PE X e t) (i : ∀ σ H Q, t' σ H Q → t σ H Q) : PE X e t' := ⟨fun pins s σ H Q I q => h.run pins s σ H Q I (i σ H Q q)⟩
theorem _root_.L2.PT.imp {X : Cx} {e : Expr} {t t' : TT} (h : PT X e t) (i : ∀ σ H Q, t' σ H Q → t σ H Q) : PT X e t' := ⟨fun pins s σ H Q I q => h.run pins s σ H Q I (i σ H Q q)⟩
theorem _root_.L2.PA.imp {X : Cx} {e : List Expr} {t t' : TA} (h : PA X e t) (i : ∀ σ H Q, t' σ H Q → t σ H Q) : PA X e t' := ⟨fun pos pins s σ H Q I q => h.run pos pins s σ H Q I (i σ H Q q)⟩
theorem _root_.L2.PS.imp {X : Cx} {e : Stmt} {t t' : TS} (h : PS X e t) (i : ∀ D σ H, t' D σ H → t D σ H) : PS X e t' := ⟨fun pins s σ H Q I q => h.run pins s σ H Q I (i Q σ H q)⟩
theorem _root_.L2.PSs.imp {X : Cx} {e : List Stmt} {t t' : TS} (h : PSs X e t) (i : ∀ D σ H, t' D σ H → t D σ H) : PSs X e t' := ⟨fun pins s σ H Q I q => h.run pins s σ H Q I (i Q σ H q)⟩
section
variable {K : PySem.W.Frag} {ca : Nat → Addr} {W : WX} {σ : L2.St} {m m1 : Mp} {H H1 : Hp} {Q : VK}
theorem Post.at {r : Res D} (p : Post K ca W σ m H r Q) (e : Ext m H m1 H1) : Post K ca W σ m1 H1 r Q := by
  cases r with
  | ok d st => exact fun m' H' v a b c => p m' H' v a b (e.trans c)
  | ex c fs st => exact fun m' H' v a b c => p m' H' v a b (e.trans c)
  | bad => exact p
theorem PostL.at {r : Res (List D)} {Q : List V → Hp → Prop} (p : PostL K ca W σ m H r Q) (e : Ext m H m1 H1) : PostL K ca W σ m1 H1 r Q := by
  cases r with
  | ok d st => exact fun m' H' v a b c => p m' H' v a b (e.trans c)
  | ex c fs st => exact fun m' H' v a b c => p m' H' v a b (e.trans c)
  | bad => exact p
theorem PostG.at {α : Type} {r : Res α} {Q : α → Mp → Hp → Sto → Prop} (p : PostG K ca W σ m H r Q) (e : Ext m H m1 H1) : PostG K ca W σ m1 H1 r Q := by
  cases r with
  | ok d st => exact fun m' H' a c => p m' H' a (e.trans c)
  | ex c fs st => exact fun m' H' v a b c => p m' H' v a b (e.trans c)
  | bad => exact p
/-- the first part of a bind: a value -/
theorem Post.bind {f : M D} {g : D → M D} {st : Sto} (p : Post K ca W σ m H ((f.bind g) st) Q) :
    Post K ca W σ m H (f st) fun v H1 => ∃ m1 st1 d, RS K ca m1 H1 st1 ∧ RD K ca m1 H1 d v ∧ Ext m H m1 H1 ∧ Post K ca W σ m1 H1 (g d st1) Q := by
  unfold M.bind at p
  cases h : f st with
  | ok d st1 =>
    rw [h] at p
    exact fun m' H' v a b c => ⟨m', st1, d, a, b, c, p.at c⟩
  | ex c fs st1 => rw [h] at p; exact p
  | bad => rw [h] at p; exact p
theorem Post.bindL {f : M (List D)} {g : List D → M D} {st : Sto} (p : Post K ca W σ m H ((f.bind g) st) Q) :
    PostL K ca W σ m H (f st) fun vs H1 => ∃ m1 st1 d, RS K ca m1 H1 st1 ∧ RDs K ca m1 H1 d vs ∧ Ext m H m1 H1 ∧ Post K ca W σ m1 H1 (g d st1) Q := by
  unfold M.bind at p
  cases h : f st with
  | ok d st1 =>
    rw [h] at p
    exact fun m' H' v a b c => ⟨m', st1, d, a, b, c, p.at c⟩
  | ex c fs st1 => rw [h] at p; exact p
  | bad => rw [h] at p; exact p
theorem PostL.bind {f : M D} {g : D → M (List D)} {st : Sto} {Q : List V → Hp → Prop} (p : PostL K ca W σ m H ((f.bind g) st) Q) :
    Post K ca W σ m H (f st) fun v H1 => ∃ m1 st1 d, RS K ca m1 H1 st1 ∧ RD K ca m1 H1 d v ∧ Ext m H m1 H1 ∧ PostL K ca W σ m1 H1 (g d st1) Q := by
  unfold M.bind at p
  cases h : f st with
  | ok d st1 =>
    rw [h] at p
    exact fun m' H' v a b c => ⟨m', st1, d, a, b, c, p.at c⟩
  | ex c fs st1 => rw [h] at p; exact p
  | bad => rw [h] at p; exact p
theorem PostL.bindL {f : M (List D)} {g : List D → M (List D)} {st : Sto} {Q : List V → Hp → Prop} (p : PostL K ca W σ m H ((f.bind g) st) Q) :
    PostL K ca W σ m H (f st) fun v H1 => ∃ m1 st1 d, RS K ca m1 H1 st1 ∧ RDs K ca m1 H1 d v ∧ Ext m H m1 H1 ∧ PostL K ca W σ m1 H1 (g d st1) Q := by
  unfold M.bind at p
  cases h : f st with
  | ok d st1 =>
    rw [h] at p
    exact fun m' H' v a b c => ⟨m', st1, d, a, b, c, p.at c⟩
  | ex c fs st1 => rw [h] at p; exact p
  | bad => rw [h] at p; exact p
theorem PostG.bind {α : Type} {f : M D} {g : D → M α} {st : Sto} {Q : α → Mp → Hp → Sto → Prop} (p : PostG K ca W σ m H ((f.bind g) st) Q) :
    Post K ca W σ m H (f st) fun v H1 => ∃ m1 st1 d, RS K ca m1 H1 st1 ∧ RD K ca m1 H1 d v ∧ Ext m H m1 H1 ∧ PostG K ca W σ m1 H1 (g d st1) Q := by
  unfold M.bind at p
  cases h : f st with
  | ok d st1 =>
    rw [h] at p
    exact fun m' H' v a b c => ⟨m', st1, d, a, b, c, p.at c⟩
  | ex c fs st1 => rw [h] at p; exact p
  | bad => rw [h] at p; exact p
theorem Post.bindG {α : Type} {f : M α} {g : α → M D} {st : Sto} (p : Post K ca W σ m H ((f.bind g) st) Q) :
    PostG K ca W σ m H (f st) fun a m1 H1 st1 => RS K ca m1 H1 st1 ∧ Ext m H m1 H1 ∧ Post K ca W σ m1 H1 (g a st1) Q := by
  unfold M.bind at p
  cases h : f st with
  | ok d st1 =>
    rw [h] at p
    exact fun m' H' a c => ⟨a, c, p.at c⟩
  | ex c fs st1 => rw [h] at p; exact p
  | bad => rw [h] at p; exact p
theorem Post.mono {r : Res D} {Q Q' : VK} (p : Post K ca W σ m H r Q) (i : ∀ v H', Q v H' → Q' v H') : Post K ca W σ m H r Q' := by
  cases r with
  | ok d st => exact fun m' H' v a b c => i v H' (p m' H' v a b c)
  | ex c fs st => exact p
  | bad => exact p
theorem PostL.mono {r : Res (List D)} {Q Q' : List V → Hp → Prop} (p : PostL K ca W σ m H r Q) (i : ∀ v H', Q v H' → Q' v H') : PostL K ca W σ m H r Q' := by
  cases r with
  | ok d st => exact fun m' H' v a b c => i v H' (p m' H' v a b c)
  | ex c fs st => exact p
  | bad => exact p
theorem PostG.mono {α : Type} {r : Res α} {Q Q' : α → Mp → Hp → Sto → Prop} (p : PostG K ca W σ m H r Q) (i : ∀ v m' H' s', Q v m' H' s' → Q' v m' H' s') : PostG K ca W σ m H r Q' := by
  cases r with
  | ok d st => exact fun m' H' a b => i d m' H' st (p m' H' a b)
  | ex c fs st => exact p
  | bad => exact p
/-- a value at once -/
theorem Post.here {d : D} {v : V} {st : Sto} (p : Post K ca W σ m H (.ok d st) Q) (a : RS K ca m H st) (b : RD K ca m H d v) : Q v H := p m H v a b (Ext.refl m H)
/-! ### expressions of several parts -/
theorem rdE.one {f : Env → M D} {g : Env → D → M D} (h : rdE K ca W (fun env => (f env).bind (g env)) σ H Q) :
    rdE K ca W f σ H fun v H1 => ∃ m1 st1 env d, RS K ca m1 H1 st1 ∧ RE K ca m1 H1 env σ ∧ RD K ca m1 H1 d v ∧ Post K ca W σ m1 H1 (g env d st1) Q := by
  obtain ⟨m, st, env, a, b, p⟩ := h
  exact ⟨m, st, env, a, b, p.bind.mono fun v H1 ⟨m1, st1, d, a1, b1, e, p1⟩ => ⟨m1, st1, env, d, a1, b.ext e, b1, p1⟩⟩
/-- two parts, then an operation on both -/
theorem rdE.two {f f2 : Env → M D} {g : D → D → M D} (h : rdE K ca W (fun env => (f env).bind fun x => (f2 env).bind fun y => g x y) σ H Q) :
    rdE K ca W f σ H fun v H1 => rdE K ca W f2 σ H1 fun w H2 => ∃ m2 st2 x y, RS K ca m2 H2 st2 ∧ RD K ca m2 H2 x v ∧ RD K ca m2 H2 y w ∧ Post K ca W σ m2 H2 (g x y st2) Q := by
  obtain ⟨m, st, env, a, b, p⟩ := h
  refine ⟨m, st, env, a, b, p.bind.mono fun v H1 ⟨m1, st1, x, a1, b1, e, p1⟩ => ?_⟩
  exact ⟨m1, st1, env, a1, b.ext e, p1.bind.mono fun w H2 ⟨m2, st2, y, a2, b2, e2, p2⟩ => ⟨m2, st2, x, y, a2, b1.ext e2, b2, p2⟩⟩
/-- an operation on two values -/
def rOp (K : PySem.W.Frag) (ca : Nat → Addr) (W : WX) (σ : L2.St) (g : D → D → M D) : R2 := fun v w H Q => ∃ m st x y, RS K ca m H st ∧ RD K ca m H x v ∧ RD K ca m H y w ∧ Post K ca W σ m H (g x y st) Q
end
end PV
end
section
set_option Elab.async false
set_option linter.all false
set_option maxRecDepth 100000
set_option maxHeartbeats 1000000
/-! FB3: the store is grown, written, frozen, cut. -/
namespace PV
open PySem PySem.Spec PyProof.Rows L2
section
variable {K : PySem.W.Frag} {ca : Nat → Addr} {W : WX} {σ : L2.St} {m m' : Mp} {H H' : Hp} {Q : VK} {st : Sto} {a p : Addr} {u : HO}
theorem cellAt_some {st : Sto} {n : Nat} {c : Cell} : cellAt st n = some c ↔ st[n]? = some (some c) := by
  unfold cellAt
  constructor
  · intro h
    split at h
    · rename_i e; rw [e]; cases h; rfl
    · cases h
  · intro h; rw [h]
theorem RDk.extW (e : ExtW m H m' H') : ∀ {ts : List (T × D)} {vs : List (Key × V)}, RDk K ca m H ts vs → RDk K ca m' H' ts vs
  | _, _, .nil => .nil
  | _, _, .cons k h r => .cons k (h.extW e) (RDk.extW e r)
theorem RDt.extW (e : ExtW m H m' H') : ∀ {ts : List (T × D)} {vs : List (List Key × V)}, RDt K ca m H ts vs → RDt K ca m' H' ts vs
  | _, _, .nil => .nil
  | _, _, .cons k h r => .cons k (h.extW e) (RDt.extW e r)
theorem RDf.extW (e : ExtW m H m' H') : ∀ {ts : List (Str × D)} {vs : List (Str × V)}, RDf K ca m H ts vs → RDf K ca m' H' ts vs
  | _, _, .nil => .nil
  | _, _, .cons h r => .cons (h.extW e) (RDf.extW e r)
theorem RC.extW {c : Cell} (e : ExtW m H m' H') (q : H' a = H a) (r : RC K ca m H c a) : RC K ca m' H' c a := by
  cases r with
  | lst h l r => exact .lst (q.trans h) l (RDs.extW e r)
  | dctK h l r => exact .dctK (q.trans h) l (RDk.extW e r)
  | dctT h l r => exact .dctT (q.trans h) l (RDt.extW e r)
  | ins h r => exact .ins (q.trans h) (RDf.extW e r)
theorem RDk.ext (e : Ext m H m' H') {ts : List (T × D)} {vs : List (Key × V)} (h : RDk K ca m H ts vs) : RDk K ca m' H' ts vs := h.extW e.w
theorem RDt.ext (e : Ext m H m' H') {ts : List (T × D)} {vs : List (List Key × V)} (h : RDt K ca m H ts vs) : RDt K ca m' H' ts vs := h.extW e.w
theorem RDf.ext (e : Ext m H m' H') {ts : List (Str × D)} {vs : List (Str × V)} (h : RDf K ca m H ts vs) : RDf K ca m' H' ts vs := h.extW e.w
theorem RC.ext {c : Cell} (e : Ext m H m' H') (q : H' a = H a) (r : RC K ca m H c a) : RC K ca m' H' c a := r.extW e.w q
theorem RC.at {c : Cell} (r : RC K ca m H c a) : ∃ u, H a = some u := by
  cases r with
  | lst h l r => exact ⟨_, h⟩
  | dctK h l r => exact ⟨_, h⟩
  | dctT h l r => exact ⟨_, h⟩
  | ins h r => exact ⟨_, h⟩
theorem RS.at (r : RS K ca m H st) {n : Nat} {a : Addr} (h : m.l[n]? = some (some a)) : ∃ u, H a = some u := by
  obtain ⟨c, _, q⟩ := r.cells n a h
  exact q.at
theorem RS.hsome (r : RS K ca m H st) {a : Addr} (h : a ∈ m.h) : ∃ u, H a = some u := by
  rcases r.hs a h with ⟨_, e⟩ | ⟨_, e⟩ | ⟨_, e⟩ <;> exact ⟨_, e⟩
theorem RS.outNew (r : RS K ca m H st) (hp : H p = none) : Out m p := by
  refine ⟨fun n h => ?_, fun h => ?_⟩
  · obtain ⟨u, q⟩ := r.at h
    rw [hp] at q; cases q
  · obtain ⟨u, q⟩ := r.hsome h
    rw [hp] at q; cases q
theorem Rd.ne (hp : H p = none) {u : HO} (h : Rd H a u) : a ≠ p := fun e => by
  obtain ⟨o, q⟩ := Rd.tr h
  rw [e, hp] at q; cases q
theorem Rd.new (hp : H p = none) {u w : HO} (h : Rd H a u) : Rd (upd H p w) a u := by
  have e := Rd.ne hp h
  unfold Rd; rw [upd_ne e]; exact h
theorem ne_p (hp : H p = none) {u : HO} (h : H a = some u) : a ≠ p := fun e => by rw [e, hp] at h; cases h
theorem Ext.new (hp : H p = none) : Ext m H m (upd H p u) :=
  ⟨fun _ _ h => .inl h, fun _ _ h _ => Rd.new hp h, fun _ _ h _ _ _ => by rw [upd_ne (ne_p hp h)]; exact h, fun _ _ _ h => by rw [upd_ne (ne_p hp h)]; exact h, fun _ _ _ h => h, fun _ _ _ h => by rw [upd_ne (ne_p hp h)]; exact h, rfl⟩
theorem Ext.newM (hp : H p = none) : Ext m H (m.push p) (upd H p u) := by
  refine ⟨fun n o h => .inl ?_, fun _ _ h _ => Rd.new hp h, fun _ _ h _ _ _ => by rw [upd_ne (ne_p hp h)]; exact h, fun _ _ _ h => by rw [upd_ne (ne_p hp h)]; exact h, fun b w h o => ⟨fun n q => ?_, o.h⟩, fun _ _ _ h => by rw [upd_ne (ne_p hp h)]; exact h, rfl⟩
  · have hn : n < m.l.length := (List.getElem?_eq_some_iff.mp h).1
    show (m.l ++ [some p])[n]? = _
    rw [List.getElem?_append_left hn]; exact h
  · have q : (m.l ++ [some p])[n]? = some (some b) := q
    by_cases hn : n < m.l.length
    · rw [List.getElem?_append_left hn] at q; exact o.c n q
    · rw [List.getElem?_append_right (by omega)] at q
      have hb : b ≠ p := ne_p hp h
      cases z : n - m.l.length with
      | zero => rw [z] at q; simp at q; exact hb q.symm
      | succ k => rw [z] at q; simp at q
theorem RS.new (r : RS K ca m H st) (hp : H p = none) : RS K ca m (upd H p u) st :=
  ⟨r.len, r.inj, fun n b h => by
    obtain ⟨c, h1, h2⟩ := r.cells n b h
    obtain ⟨w, q⟩ := h2.at
    exact ⟨c, h1, h2.ext (Ext.new hp) (upd_ne (ne_p hp q))⟩, r.dead, r.apart, fun a h => by
    rcases r.hs a h with ⟨_, e⟩ | ⟨_, e⟩ | ⟨_, e⟩
    · exact .inl ⟨_, by rw [upd_ne (ne_p hp e)]; exact e⟩
    · exact .inr (.inl ⟨_, by rw [upd_ne (ne_p hp e)]; exact e⟩)
    · exact .inr (.inr ⟨_, by rw [upd_ne (ne_p hp e)]; exact e⟩)⟩
theorem RS.push {c : Cell} (r : RS K ca m H st) (hp : H p = none) (hc : RC K ca (m.push p) (upd H p u) c p) : RS K ca (m.push p) (upd H p u) (st ++ [some c]) := by
  have hl := r.len
  have key : ∀ (n : Nat) (o : Option Addr), (m.l ++ [some p])[n]? = some o → (n < m.l.length ∧ m.l[n]? = some o) ∨ (n = m.l.length ∧ o = some p) := fun n o q => by
    by_cases hn : n < m.l.length
    · rw [List.getElem?_append_left hn] at q; exact .inl ⟨hn, q⟩
    · rw [List.getElem?_append_right (by omega)] at q
      cases z : n - m.l.length with
      | zero => rw [z] at q; simp at q; exact .inr ⟨by omega, q.symm⟩
      | succ k => rw [z] at q; simp at q
  have ndup : ∀ (n : Nat), m.l[n]? = some (some p) → False := fun n q => by
    obtain ⟨w, z⟩ := r.at q
    rw [hp] at z; cases z
  refine ⟨by show (m.l ++ [some p]).length = _; simp [hl], fun i j b hi hj => ?_, fun n b h => ?_, fun n h => ?_, fun n b h => ?_, fun a h => ?_⟩
  · rcases key i _ hi with ⟨_, h1⟩ | ⟨h1, e1⟩ <;> rcases key j _ hj with ⟨_, h2⟩ | ⟨h2, e2⟩
    · exact r.inj i j b h1 h2
    · cases e2; exact (ndup _ h1).elim
    · cases e1; exact (ndup _ h2).elim
    · omega
  · rcases key n _ h with ⟨hn, h1⟩ | ⟨h1, e1⟩
    · obtain ⟨c', h2, h3⟩ := r.cells n b h1
      obtain ⟨w, q⟩ := h3.at
      refine ⟨c', ?_, h3.ext (Ext.newM hp) (upd_ne (ne_p hp q))⟩
      rw [cellAt_some] at h2 ⊢
      rw [List.getElem?_append_left (by omega)]; exact h2
    · cases e1
      refine ⟨c, ?_, hc⟩
      rw [cellAt_some, h1, hl]
      simp
  · rcases key n _ h with ⟨hn, h1⟩ | ⟨h1, e1⟩
    · rw [List.getElem?_append_left (by omega)]; exact r.dead n h1
    · cases e1
  · rcases key n _ h with ⟨hn, h1⟩ | ⟨h1, e1⟩
    · exact r.apart n b h1
    · cases e1; exact (r.outNew hp).h
  · exact (RS.new (u := u) r hp).hs a h
theorem allD_RTs : ∀ {ds : List D} {vs : List V} {ts : List T}, RDs K ca m H ds vs → allD ds = some ts → RTs K ca m H ts vs
  | [], _, _, h, e => by cases h; cases e; exact .nil
  | d :: r, _, ts, h, e => by
    cases h with
    | cons h1 h2 =>
      cases d with
      | v t =>
        unfold allD at e
        cases q : allD r with
        | none => rw [q] at e; cases e
        | some ts' =>
          rw [q] at e; cases e
          cases h1 with
          | v h1 => exact .cons h1 (allD_RTs h2 q)
      | _ => cases e
theorem allD_len : ∀ {ds : List D} {ts : List T}, allD ds = some ts → ts.length = ds.length
  | [], _, e => by cases e; rfl
  | d :: r, ts, e => by
    cases d with
    | v t =>
      unfold allD at e
      cases q : allD r with
      | none => rw [q] at e; cases e
      | some ts' => rw [q] at e; cases e; simp [allD_len q]
    | _ => cases e
/-- a new list -/
theorem mkL_new {mu : Bool} {ds : List D} {vs : List V} (r : RS K ca m H st) (b : RDs K ca m H ds vs) (l : ds.length ≤ sizeLine) (hp : H p = none) (post : Post K ca W σ m H (mkL mu ds st) Q) : Q (.ref p) (upd H p (.lst vs)) := by
  cases mu with
  | true =>
    have post' : ∀ m' H' v, RS K ca m' H' (st ++ [some (.lst ds)]) → RD K ca m' H' (.ref st.length) v → Ext m H m' H' → Q v H' := post
    have ex : Ext m H (m.push p) (upd H p (.lst vs)) := Ext.newM hp
    refine post' (m.push p) _ _ (r.push hp (.lst upd_same l (b.ext ex))) (.ref ?_) ex
    show (m.l ++ [some p])[_]? = _
    rw [← r.len]; simp
  | false =>
    have ex : Ext m H m (upd H p (.lst vs)) := Ext.new hp
    have rs : RS K ca m (upd H p (.lst vs)) st := r.new hp
    unfold mkL at post
    cases q : allD ds with
    | some ts =>
      rw [q] at post
      have post' : ∀ m' H' v, RS K ca m' H' st → RD K ca m' H' (.v (.lst ts)) v → Ext m H m' H' → Q v H' := post
      exact post' m _ _ rs (.v (.lst upd_same (r.outNew hp) (by rw [allD_len q]; exact l) ((allD_RTs b q).ext ex))) ex
    | none =>
      rw [q] at post
      have post' : ∀ m' H' v, RS K ca m' H' st → RD K ca m' H' (.lp ds) v → Ext m H m' H' → Q v H' := post
      exact post' m _ _ rs (.lp upd_same (r.outNew hp) l (b.ext ex)) ex
/-- a new tuple -/
theorem mkT_new {ds : List D} {vs : List V} (r : RS K ca m H st) (b : RDs K ca m H ds vs) (l : ds.length ≤ sizeLine) (hp : H p = none) : RS K ca m (upd H p (.tup vs)) st ∧ RD K ca m (upd H p (.tup vs)) (mkT ds) (.ref p) ∧ Ext m H m (upd H p (.tup vs)) := by
  have ex : Ext m H m (upd H p (.tup vs)) := Ext.new hp
  refine ⟨r.new hp, ?_, ex⟩
  unfold mkT
  cases q : allD ds with
  | some ts => exact .v (.tup upd_same (r.outNew hp) (by rw [allD_len q]; exact l) ((allD_RTs b q).ext ex))
  | none => exact .tp upd_same (r.outNew hp) l (b.ext ex)
/-- a tuple that stands -/
theorem RD.tupI {d : D} {ds : List D} {v : V} (h : asTup d = some ds) (r : RD K ca m H d v) : ∃ a vs, v = .ref a ∧ H a = some (.tup vs) ∧ ds.length ≤ sizeLine ∧ RDs K ca m H ds vs := by
  unfold asTup at h
  split at h
  · rename_i ts
    cases h
    cases r with
    | v r =>
      cases r with
      | tup h1 h2 h3 h4 =>
        refine ⟨_, _, rfl, h1, by simpa using h3, ?_⟩
        have go : ∀ {ts : List T} {vs : List V}, RTs K ca m H ts vs → RDs K ca m H (ts.map .v) vs := fun {ts} => by
          induction ts with
          | nil => intro vs h; cases h; exact .nil
          | cons t r ih => intro vs h; cases h with
            | cons a b => exact .cons (.v a) (ih b)
        exact go h4
  · cases h
    cases r with
    | tp h1 h2 h3 h4 => exact ⟨_, _, rfl, h1, h3, h4⟩
  · cases h
theorem RTs.vs {ts : List T} {vs : List V} (h : RTs K ca m H ts vs) : RDs K ca m H (ts.map .v) vs := by
  induction ts generalizing vs with
  | nil => cases h; exact .nil
  | cons t r ih => cases h with
    | cons a b => exact .cons (.v a) (ih b)
/-- a list that stands -/
theorem RD.lstI {d : D} {ds : List D} {v : V} (r : RS K ca m H st) (h : asList st d = some ds) (q : RD K ca m H d v) : ∃ a vs, v = .ref a ∧ H a = some (.lst vs) ∧ ds.length ≤ sizeLine ∧ RDs K ca m H ds vs := by
  unfold asList at h
  split at h
  · cases h
    cases q with
    | v q =>
      cases q with
      | lst h1 h2 h3 h4 => exact ⟨_, _, rfl, h1, by simpa using h3, h4.vs⟩
  · cases h
    cases q with
    | lp h1 h2 h3 h4 => exact ⟨_, _, rfl, h1, h3, h4⟩
  · rename_i n
    split at h
    · rename_i ds' e
      cases h
      cases q with
      | ref z =>
        obtain ⟨c, h1, h2⟩ := r.cells n _ z
        rw [h1] at e; cases e
        cases h2 with
        | lst h3 h4 h5 => exact ⟨_, _, rfl, h3, h4, h5⟩
      | dead z =>
        have q2 := r.dead n z
        rw [cellAt_some] at e
        rw [e] at q2; cases q2
    · cases h
  · cases h
end
end PV
end
section
set_option Elab.async false
set_option linter.all false
set_option maxRecDepth 100000
set_option maxHeartbeats 1000000
/-! FB4: operators. -/
namespace PV
open PySem PySem.Spec PyProof.Rows L2
/-- an operation on two values, at the machine -/
def Op2 (X : Cx) (ca : Nat → Addr) (W : WX) (f : Value → Value → Sem Value) (g : D → D → M D) : Prop :=
  ∀ (pins : List (Addr × Obj)) (s : Shared) (σ : L2.St) (H : Hp) (x y : V) (v u : Value) (Q : VK) (m : Mp) (st : Sto) (a b : D), Inv X pins σ H s → RelV x v → RelV y u → RS X.K ca m H st → RD X.K ca m H a x → RD X.K ca m H b y →
    Post X.K ca W σ m H (g a b st) Q → wpAny (model X.prog X.w) X.A (f v u) (EP X pins σ Q) X.xe s
section
variable {X : Cx} {ca : Nat → Addr} {W : WX}
theorem pe_bin {a b : Expr} {op : Operator} {pos : Pos} {fa fb : Env → M D} {g : D → D → M D} (h : Op2 X ca W (binaryOp op) g) (ha : PE X a (rdE X.K ca W fa)) (hb : PE X b (rdE X.K ca W fb)) :
    PE X (.BinOp a op b pos) (rdE X.K ca W fun env => (fa env).bind fun x => (fb env).bind fun y => g x y) := by
  refine ⟨fun pins s σ H Q I q => wpAny_BinOp (bin ha hb I q.two fun v u s2 x y H2 I2 rx ry z => ?_)⟩
  obtain ⟨m2, st2, dx, dy, r1, r2, r3, p⟩ := z
  exact h pins s2 σ H2 x y v u Q m2 st2 dx dy I2 rx ry r1 r2 r3 p
theorem lim_le {n : Nat} (h : n ≤ LIM) : n ≤ sizeLine := by rw [sizeLine_eq]; unfold LIM at h; omega
theorem guard_ok {α : Type} {b : Bool} {K : PySem.W.Frag} {W : WX} {σ : L2.St} {m : Mp} {H : Hp} {Q : VK} {st : Sto} {g : Unit → M D} (p : Post K ca W σ m H ((guardM b st).bind g) Q) : b = true ∧ Post K ca W σ m H (g () st) Q := by
  cases b with
  | true => exact ⟨rfl, p⟩
  | false => exact p.elim
theorem RDs.app {K : PySem.W.Frag} {m : Mp} {H : Hp} : ∀ {ds : List D} {vs : List V} {es : List D} {ws : List V}, RDs K ca m H ds vs → RDs K ca m H es ws → RDs K ca m H (ds ++ es) (vs ++ ws)
  | _, _, _, _, .nil, h => h
  | _, _, _, _, .cons a b, h => .cons a (RDs.app b h)
theorem RDs.rep {K : PySem.W.Frag} {m : Mp} {H : Hp} {ds : List D} {vs : List V} (h : RDs K ca m H ds vs) : ∀ k : Nat, RDs K ca m H (List.replicate k ds).flatten (List.replicate k vs).flatten
  | 0 => .nil
  | k + 1 => by
    rw [List.replicate_succ, List.replicate_succ, List.flatten_cons, List.flatten_cons]
    exact h.app (RDs.rep h k)
theorem RS.outTup {K : PySem.W.Frag} {m : Mp} {H : Hp} {st : Sto} (r : RS K ca m H st) {a : Addr} {xs : List V} (h : H a = some (.tup xs)) : Out m a := by
  refine ⟨fun n q => ?_, fun q => ?_⟩
  · obtain ⟨c, _, z⟩ := r.cells n a q
    cases z with
    | lst e _ _ => rw [h] at e; cases e
    | dctK e _ _ => rw [h] at e; cases e
    | dctT e _ _ => rw [h] at e; cases e
    | ins e _ => rw [h] at e; cases e
  · rcases r.hs a q with ⟨_, e⟩ | ⟨_, e⟩ | ⟨_, e⟩ <;> (rw [h] at e; cases e)
theorem mkT_at {K : PySem.W.Frag} {m : Mp} {H : Hp} {st : Sto} (r : RS K ca m H st) {ds : List D} {vs : List V} {a : Addr} (h : H a = some (.tup vs)) (l : ds.length ≤ sizeLine) (b : RDs K ca m H ds vs) : RD K ca m H (mkT ds) (.ref a) := by
  unfold mkT
  cases q : allD ds with
  | some ts => exact .v (.tup h (r.outTup h) (by rw [allD_len q]; exact l) (allD_RTs b q))
  | none => exact .tp h (r.outTup h) l b
theorem strOf_app (a b : Str) : strOf (a.cps.toList ++ b.cps.toList) = a ++ b := by
  show strOf _ = (⟨a.cps ++ b.cps⟩ : Str)
  unfold strOf
  congr 1
  apply Array.toList_inj.mp
  simp
theorem okS_app {a b : Str} (h : okS a = true) (h2 : okS b = true) (l : a.cps.size + b.cps.size ≤ LIM) : okS (strOf (a.cps.toList ++ b.cps.toList)) = true := by
  have h1 := okS.ok h
  have h3 := okS.ok h2
  unfold okS
  rw [Bool.and_eq_true]
  refine ⟨?_, decide_eq_true ?_⟩
  · unfold PyData.strOk strOf at *
    rw [← Array.all_toList] at h1 h3 ⊢
    simp [List.all_append, h1, h3]
  · unfold strOf
    unfold LIM at l
    simp
    omega
theorem okMul_ok {i j : Int} (h : okMul i j = true) : IntMulOk i j := by
  unfold okMul at h
  simp only [Bool.or_eq_true, Bool.and_eq_true, decide_eq_true_eq] at h
  rcases h with (h | h) | h
  · exact .of_left (intBits_le_64 (by omega) (by omega))
  · exact .of_right (intBits_le_64 (by omega) (by omega))
  · have b : ∀ x : Int, Builtin.Int.intBits x ≤ x.natAbs.log2 + 1 := fun x => by
      unfold Builtin.Int.intBits
      split <;> omega
    have h1 := b i
    have h2 := b j
    unfold IntMulOk
    intro z
    rw [Bool.and_eq_true] at z
    have z2 := z.2
    unfold Builtin.Int.intTooBig at z2
    have z3 := of_decide_eq_true z2
    have e : bitsLine = 134217728 := by decide
    rw [e] at z3
    omega
theorem op_bin_add {mu : Bool} : Op2 X ca W (binaryOp .Add) (binop mu .add) := by
  intro pins s σ H x y v u Q m st a b I rx ry r ra rb p
  have gen : (match asTup a, asTup b with
      | some xs, some ys => (guardM (decide (xs.length + ys.length ≤ LIM)) st).bind fun _ => .ret (mkT (xs ++ ys))
      | _, _ => match asList st a, asList st b with
        | some xs, some ys => (guardM (decide (xs.length + ys.length ≤ LIM)) st).bind fun _ => mkL mu (xs ++ ys)
        | _, _ => (.bad : Res D)) = binop mu .add a b st → wpAny (model X.prog X.w) X.A (binaryOp .Add v u) (EP X pins σ Q) X.xe s := by
    intro e
    rw [← e] at p
    have lists : Post X.K ca W σ m H (match asList st a, asList st b with
        | some xs, some ys => (guardM (decide (xs.length + ys.length ≤ LIM)) st).bind fun _ => mkL mu (xs ++ ys)
        | _, _ => (.bad : Res D)) Q → wpAny (model X.prog X.w) X.A (binaryOp .Add v u) (EP X pins σ Q) X.xe s := by
      intro p
      cases e1 : asList st a with
      | none => rw [e1] at p; exact p.elim
      | some xs =>
        cases e2 : asList st b with
        | none => rw [e1, e2] at p; exact p.elim
        | some ys =>
          rw [e1, e2] at p
          obtain ⟨g, p⟩ := guard_ok (α := Unit) p
          obtain ⟨a1, v1, rfl, h1, l1, d1⟩ := RD.lstI r e1 ra
          obtain ⟨a2, v2, rfl, h2, l2, d2⟩ := RD.lstI r e2 rb
          have lim := lim_le (of_decide_eq_true g)
          have ll1 := d1.len
          have ll2 := d2.len
          exact op_cat pins s σ H _ _ v u Q I rx ry ⟨a1, a2, v1, v2, rfl, rfl, h1, h2, by omega, fun q hq => mkL_new r (d1.app d2) (by simpa using lim) hq p⟩
    cases e1 : asTup a with
    | none => rw [e1] at p; exact lists p
    | some xs =>
      cases e2 : asTup b with
      | none => rw [e1, e2] at p; exact lists p
      | some ys =>
        rw [e1, e2] at p
        obtain ⟨g, p⟩ := guard_ok (α := Unit) p
        obtain ⟨a1, v1, rfl, h1, l1, d1⟩ := RD.tupI e1 ra
        obtain ⟨a2, v2, rfl, h2, l2, d2⟩ := RD.tupI e2 rb
        have lim := lim_le (of_decide_eq_true g)
        have ll1 := d1.len
        have ll2 := d2.len
        refine op_catA pins s σ H _ _ v u Q I rx ry ⟨a1, a2, v1, v2, rfl, rfl, SqT.of h1, SqT.of h2, by omega, fun z => ?_, fun _ z => ?_, fun _ _ q hq => ?_⟩
        · have e : xs = [] := List.length_eq_zero_iff.mp (by rw [ll1, z]; rfl)
          subst e
          exact p.here r (mkT_at r h2 l2 d2)
        · have e : ys = [] := List.length_eq_zero_iff.mp (by rw [ll2, z]; rfl)
          subst e
          rw [List.append_nil] at p
          exact p.here r (mkT_at r h1 l1 d1)
        · obtain ⟨n1, n2, n3⟩ := mkT_new r (d1.app d2) (by simpa using lim) hq
          exact p _ _ _ n1 n2 n3
  cases a with
  | v ta =>
    cases b with
    | v tb =>
      cases ta with
      | int i =>
        cases tb with
        | int j =>
          cases ra with
          | v ra => cases ra; cases rb with
            | v rb =>
              cases rb
              exact op_add pins s σ H _ _ v u Q I rx ry ⟨i, j, rfl, rfl, p.here r (.v (.int _))⟩
        | _ => exact gen rfl
      | str i =>
        cases tb with
        | str j =>
          cases ra with
          | v ra => cases ra; cases rb with
            | v rb =>
              cases rb
              obtain ⟨g, p⟩ := guard_ok (α := Unit) (st := st) p
              have lim := lim_le (of_decide_eq_true g)
              refine op_add_str pins s σ H _ _ v u Q I rx ry ⟨i, j, rfl, rfl, lim, ?_⟩
              rw [← strOf_app]
              exact p.here r (.v (.str _ (okS_app (by assumption) (by assumption) (of_decide_eq_true g))))
        | _ => exact gen rfl
      | _ => exact gen rfl
    | _ => cases ta <;> exact gen rfl
  | _ => exact gen rfl
end
end PV
end
section
set_option Elab.async false
set_option linter.all false
set_option maxRecDepth 100000
set_option maxHeartbeats 1000000
/-! FB5: operators on ints, products of sequences. -/
namespace PV
open PySem PySem.Spec PyProof.Rows L2
section
variable {X : Cx} {ca : Nat → Addr} {W : WX}
/-- an operation that is told of ints alone -/
theorem op_ints {f : Value → Value → Sem Value} {g : D → D → M D} {c : Int → Int → Bool} {r : Int → Int → Int}
    (hg : ∀ a b st, (∃ i j, a = .v (.int i) ∧ b = .v (.int j) ∧ g a b st = (guardM (c i j) st).bind fun _ => .ret (.v (.int (r i j)))) ∨ g a b st = .bad)
    (rule : ∀ (i j : Int) (t t' : Tok) (s : Shared) (Q : Value → Shared → Prop), c i j = true → Q (.int (r i j) s.toks) { s with toks := s.toks + 1 } → wpAny (model X.prog X.w) X.A (f (.int i t) (.int j t')) Q X.xe s) : Op2 X ca W f g := by
  intro pins s σ H x y v u Q m st a b I rx ry rs ra rb p
  rcases hg a b st with ⟨i, j, rfl, rfl, e⟩ | e
  · rw [e] at p
    obtain ⟨g1, p⟩ := guard_ok (α := Unit) (st := st) p
    cases ra with
    | v ra => cases ra; cases rb with
      | v rb =>
        cases rb
        obtain ⟨t, rfl⟩ := rx
        obtain ⟨t', rfl⟩ := ry
        exact rule i j t t' s _ g1 ⟨.int _, H, I.tok _, ⟨_, rfl⟩, p.here rs (.v (.int _))⟩
  · rw [e] at p; exact p.elim
theorem op_bin_sub {mu : Bool} : Op2 X ca W (binaryOp .Sub) (binop mu .sub) := by
  refine op_ints (c := fun _ _ => true) (r := fun i j => i - j) (fun a b st => ?_) (fun i j t t' s Q _ q => sub_int q)
  cases a with
  | v a => cases b with
    | v b => cases a <;> cases b <;> first | exact .inr rfl | exact .inl ⟨_, _, rfl, rfl, rfl⟩
    | _ => cases a <;> exact .inr rfl
  | _ => exact .inr rfl
theorem op_bin_fdiv {mu : Bool} : Op2 X ca W (binaryOp .FloorDiv) (binop mu .fdiv) := by
  refine op_ints (c := fun _ j => decide (0 < j) && decide (j < 1073741824)) (r := fun i j => i / j) (fun a b st => ?_) (fun i j t t' s Q c q => ?_)
  · cases a with
    | v a => cases b with
      | v b => cases a <;> cases b <;> first | exact .inr rfl | exact .inl ⟨_, _, rfl, rfl, rfl⟩
      | _ => cases a <;> exact .inr rfl
    | _ => exact .inr rfl
  · simp only [Bool.and_eq_true, decide_eq_true_eq] at c
    refine floordiv_int (by omega) ?_ (.inl (PyProof.noPylong_small (by omega)))
    rw [Int.fdiv_eq_ediv_of_nonneg i (by omega)]
    exact q
theorem op_bin_mod {mu : Bool} : Op2 X ca W (binaryOp .Mod) (binop mu .mod) := by
  refine op_ints (c := fun _ j => decide (0 < j)) (r := fun i j => i % j) (fun a b st => ?_) (fun i j t t' s Q c q => ?_)
  · cases a with
    | v a => cases b with
      | v b => cases a <;> cases b <;> first | exact .inr rfl | exact .inl ⟨_, _, rfl, rfl, rfl⟩
      | _ => cases a <;> exact .inr rfl
    | _ => exact .inr rfl
  · simp only [decide_eq_true_eq] at c
    refine mod_int' (by omega) ?_
    rw [Int.fmod_eq_emod_of_nonneg i (by omega)]
    exact q
theorem op_bin_pow {mu : Bool} : Op2 X ca W (binaryOp .Pow) (binop mu .pow) := by
  refine op_ints (c := okPow) (r := fun i j => i ^ j.toNat) (fun a b st => ?_) (fun i j t t' s Q c q => ?_)
  · cases a with
    | v a => cases b with
      | v b => cases a <;> cases b <;> first | exact .inr rfl | exact .inl ⟨_, _, rfl, rfl, rfl⟩
      | _ => cases a <;> exact .inr rfl
    | _ => exact .inr rfl
  · unfold okPow at c
    simp only [Bool.and_eq_true, decide_eq_true_eq] at c
    refine pow_int c.1 ?_ q
    have b : Builtin.Int.intBits i ≤ i.natAbs.log2 + 1 := by
      unfold Builtin.Int.intBits
      split <;> omega
    have h2 : (Builtin.Int.intBits i) * j.toNat ≤ (i.natAbs.log2 + 1) * j.toNat := Nat.mul_le_mul_right _ b
    have e : ((Builtin.Int.intBits i : Nat) : Int) * j = ((Builtin.Int.intBits i * j.toNat : Nat) : Int) := by
      rw [Int.natCast_mul, Int.toNat_of_nonneg c.1]
    rw [e]
    have := c.2
    omega
end
end PV
end
section
set_option Elab.async false
set_option linter.all false
set_option maxRecDepth 100000
set_option maxHeartbeats 1000000
/-! FB6: sequences times an int. -/
namespace PV
open PySem PySem.Spec PyProof.Rows L2
/-- () * k -/
theorem none_times (l : Addr) (n : Nat) (dd : Option Addr) (sl : Array (Option Value)) (x : Int) (u : Tok) (c0 : (decide (x < -(2 ^ 63)) || decide (x ≥ 2 ^ 63)) = false) :
    Meets (Builtin.«tuple.__mul__» ⟨[.ref l, .int x u], []⟩) (fun _ R s => s.heap.get? l = some { cls := .type "tuple", dict := dd, data := .seq #[] n, slots := sl } ∧ R (.ok (.ret (Value.ref l))) s) :=
  .of_wp fun prog w A R s h => by
    obtain ⟨hp, g, d, tk, os⟩ := s
    obtain ⟨hl, h⟩ := h
    have f1 := AutoSeq1.idx_int
    wp_walk using wpAny_loadPart' hl
    repeat (first
      | (refine wpAny_ite_false (decide_eq_false (by rw [c0]; exact Bool.false_ne_true)) ?_; wp_walk using wpAny_loadPart' hl)
      | (refine wpAny_ite_true rfl ?_; wp_walk using wpAny_loadPart' hl)
      | (refine wpAny_ite_true (by rfl) ?_; wp_walk using wpAny_loadPart' hl))
    exact ⟨_, rfl, h⟩
section
variable {X : Cx} {ca : Nat → Addr} {W : WX}
theorem op_none_times {pins : List (Addr × Obj)} {s : Shared} {σ : L2.St} {H : Hp} {l : Addr} {k : Int} {t : Tok} {Q : VK} (I : Inv X pins σ H s) (hT : H l = some (.tup [])) (h1 : -(2 ^ 63) ≤ k) (h2 : k < 2 ^ 63) (q : Q (.ref l) H) :
    wpAny (model X.prog X.w) X.A (binaryOp .Mult (.ref l) (.int k t)) (EP X pins σ Q) X.xe s := by
  obtain ⟨its, r, ⟨⟨cls, dd, data, sl⟩, ho, hc, n, hd⟩, hs⟩ := I.tuple (SqT.of hT)
  cases r
  simp only at hc hd
  subst hc hd
  have c0 : (decide (k < -(2 ^ 63)) || decide (k ≥ 2 ^ 63)) = false := by
    rw [decide_eq_false (by omega), decide_eq_false (by omega)]
    rfl
  have ty : s.TypeIs (.ref l) "tuple" := ⟨_, ho, rfl⟩
  have m1 := none_times l n dd sl k t c0
  have m0 := int_rmul_tuple k t l #[] n dd sl
  refine wpAny_binaryOp_repeat_ref (T := "tuple") (U := "int") (by decide) ty (fun s' => typeIs_int s' k t) noFill_tuple_mul F.fills_int_mul F.slot_int_rmul repeat_tuple F.slot_int_index.lookup ?_
  refine call_meets F.slot_int_rmul (typeIs_int s k t) F.entry_int_rmul (F.args_int_rmul_2 _ _) m0 ⟨ho, rfl, ty, ?_⟩
  exact call_meets F.slot_tuple_mul ty F.entry_tuple_mul (F.args_tuple_mul_2 _ _) m1 ⟨ho, ⟨.ref l, H, I, rfl, q⟩⟩
theorem flat_nil {α : Type} (k : Nat) : (List.replicate k ([] : List α)).flatten = [] := by
  induction k with
  | zero => rfl
  | succ k ih => rw [List.replicate_succ, List.flatten_cons, ih]; rfl
theorem op_bin_mul {mu : Bool} : Op2 X ca W (binaryOp .Mult) (binop mu .mul) := by
  intro pins s σ H x y v u Q m st a b I rx ry r ra rb p
  have gen : ∀ k : Int, b = .v (.int k) → (match asTup a with
      | some xs => (guardM (decide (2 ≤ k) && decide (k ≤ 1000) && decide (xs.length ≤ 1000)) st).bind fun _ => .ret (mkT ((List.replicate k.toNat xs).flatten))
      | none => match asList st a with
        | some xs => (guardM (decide (0 ≤ k) && decide (k ≤ 1000) && decide (xs.length * k.toNat ≤ LIM)) st).bind fun _ => mkL mu ((List.replicate k.toNat xs).flatten)
        | none => (.bad : Res D)) = binop mu .mul a b st → wpAny (model X.prog X.w) X.A (binaryOp .Mult v u) (EP X pins σ Q) X.xe s := by
    intro k eb e
    subst eb
    rw [← e] at p
    have ey : y = .int k := by cases rb with | v rb => cases rb; rfl
    subst ey
    cases e1 : asTup a with
    | none =>
      rw [e1] at p
      cases e2 : asList st a with
      | none => rw [e2] at p; exact p.elim
      | some xs =>
        rw [e2] at p
        obtain ⟨g, p⟩ := guard_ok (α := Unit) p
        simp only [Bool.and_eq_true, decide_eq_true_eq] at g
        obtain ⟨a1, v1, rfl, h1, l1, d1⟩ := RD.lstI r e2 ra
        have ll1 := d1.len
        have lim := lim_le g.2
        have lim2 : v1.length * k.toNat ≤ sizeLine := by rw [← ll1]; exact lim
        refine op_rep pins s σ H _ _ v u Q I rx ry ⟨a1, k, v1, rfl, rfl, h1, by omega, by omega, lim2, fun q hq => mkL_new r (d1.rep k.toNat) ?_ hq p⟩
        rw [PyProof.Rows.lm_len_rep_flat, Nat.mul_comm]
        exact lim
    | some xs =>
      rw [e1] at p
      obtain ⟨g, p⟩ := guard_ok (α := Unit) p
      simp only [Bool.and_eq_true, decide_eq_true_eq] at g
      obtain ⟨a1, v1, rfl, h1, l1, d1⟩ := RD.tupI e1 ra
      have ll1 := d1.len
      by_cases hz : v1 = []
      · subst hz
        have ex : xs = [] := List.length_eq_zero_iff.mp ll1
        subst ex
        cases rx
        obtain ⟨t, rfl⟩ := ry
        refine op_none_times I h1 (by omega) (by omega) ?_
        rw [flat_nil] at p
        exact p.here r (mkT_at r h1 l1 d1)
      · refine op_repT pins s σ H _ _ v u Q I rx ry ⟨a1, k, v1, rfl, rfl, SqT.of h1, hz, g.1.1, g.1.2, by omega, fun q hq => ?_⟩
        obtain ⟨n1, n2, n3⟩ := mkT_new r (d1.rep k.toNat) (by
          rw [PyProof.Rows.lm_len_rep_flat, sizeLine_eq]
          have : k.toNat * xs.length ≤ 1000 * 1000 := Nat.mul_le_mul (by omega) g.2
          omega) hq
        exact p _ _ _ n1 n2 n3
  cases a with
  | v ta =>
    cases b with
    | v tb =>
      cases ta with
      | int i =>
        cases tb with
        | int j =>
          obtain ⟨g, p⟩ := guard_ok (α := Unit) (st := st) p
          cases ra with
          | v ra => cases ra; cases rb with
            | v rb =>
              cases rb
              obtain ⟨t, rfl⟩ := rx
              obtain ⟨t', rfl⟩ := ry
              exact mul_int ⟨.int _, H, I.tok _, ⟨_, rfl⟩, p.here r (.v (.int _))⟩ (okMul_ok g)
        | _ => exact p.elim
      | _ => cases tb <;> first | exact gen _ rfl rfl | exact p.elim
    | _ => cases ta <;> exact p.elim
  | _ => cases b with
    | v tb => cases tb <;> first | exact gen _ rfl rfl | exact p.elim
    | _ => exact p.elim
end
end PV
end
section
set_option Elab.async false
set_option linter.all false
set_option maxRecDepth 100000
set_option maxHeartbeats 1000000
/-! FB7: data that is compared, shown. -/
namespace PV
open PySem PySem.Spec PyProof.Rows L2
section
variable {K : PySem.W.Frag} {ca : Nat → Addr} {m : Mp} {H : Hp} {st : Sto}
/-- what is said of data t at x -/
def Shp (K : PySem.W.Frag) (H : Hp) (k : Nat) (t : T) (x : V) : Prop := ∃ p, t.py = some p ∧ p.canLay0 = true ∧ p.depth ≤ k ∧ Dp K H x p
def Shps (K : PySem.W.Frag) (H : Hp) (k : Nat) (ts : List T) (xs : List V) : Prop := ∃ ps, T.pys ts = some ps ∧ PyData.canLayAll0 ps = true ∧ PyData.depthAll ps ≤ k ∧ DpAll K H xs ps
theorem Shps.nil {k : Nat} : Shps K H k [] [] := ⟨[], rfl, rfl, Nat.zero_le _, .nil⟩
theorem Shps.cons {k : Nat} {t : T} {x : V} {ts : List T} {xs : List V} (h : Shp K H k t x) (r : Shps K H k ts xs) : Shps K H k (t :: ts) (x :: xs) := by
  obtain ⟨p, e, c, d, q⟩ := h
  obtain ⟨ps, e2, c2, d2, q2⟩ := r
  refine ⟨p :: ps, ?_, ?_, ?_, .cons q q2⟩
  · unfold T.pys; rw [e, e2]
  · simp only [PyData.canLayAll0, c, c2, Bool.and_self]
  · simp only [PyData.depthAll]; omega
theorem Shp.tup {k : Nat} {ts : List T} {xs : List V} {a : Addr} (h : SqT K H a xs) (r : Shps K H k ts xs) : Shp K H (k + 1) (.tup ts) (.ref a) := by
  obtain ⟨ps, e2, c2, d2, q2⟩ := r
  refine ⟨.tuple ps, ?_, ?_, ?_, .tup h q2⟩
  · unfold T.py; rw [e2]; rfl
  · simp only [PyData.canLay0, c2]
  · simp only [PyData.depth]; omega
theorem Shp.lst {k : Nat} {ts : List T} {xs : List V} {a : Addr} (h : SqL K H a xs) (r : Shps K H k ts xs) : Shp K H (k + 1) (.lst ts) (.ref a) := by
  obtain ⟨ps, e2, c2, d2, q2⟩ := r
  refine ⟨.list ps, ?_, ?_, ?_, .lst h q2⟩
  · unfold T.py; rw [e2]; rfl
  · simp only [PyData.canLay0, c2]
  · simp only [PyData.depth]; omega
mutual
theorem RT.shp : ∀ {t : T} {x : V} {k : Nat}, RT K ca m H t x → T.shape k t = true → Shp K H k t x
  | _, _, k, .non, _ => ⟨.none, rfl, rfl, Nat.zero_le _, .non⟩
  | _, _, k, .bl b, _ => ⟨.bool b, rfl, rfl, Nat.zero_le _, .bl b⟩
  | _, _, k, .int i, _ => ⟨.int i, rfl, rfl, Nat.zero_le _, .int i⟩
  | _, _, k, .str x h, _ => ⟨.str x, rfl, by simpa only [PyData.canLay0] using okS.ok h, Nat.zero_le _, .str x⟩
  | _, _, 0, .tup h o l r, s => by simp [T.shape] at s
  | _, _, k + 1, .tup h o l r, s => by
    simp only [T.shape] at s
    exact Shp.tup (SqT.of h) (RTs.shp r s)
  | _, _, 0, .lst h o l r, s => by simp [T.shape] at s
  | _, _, k + 1, .lst h o l r, s => by
    simp only [T.shape] at s
    exact Shp.lst (SqL.of h) (RTs.shp r s)
  | _, _, k, .dctK _ _ _ _, s => by cases k <;> simp [T.shape] at s
  | _, _, k, .dctT _ _ _ _, s => by cases k <;> simp [T.shape] at s
  | _, _, k, .scr _, s => by cases k <;> simp [T.shape] at s
  | _, _, k, .obj _ _ _, s => by cases k <;> simp [T.shape] at s
theorem RTs.shp : ∀ {ts : List T} {xs : List V} {k : Nat}, RTs K ca m H ts xs → ts.all (T.shape k) = true → Shps K H k ts xs
  | _, _, _, .nil, _ => .nil
  | _, _, _, .cons h r, s => by
    simp only [List.all_cons, Bool.and_eq_true] at s
    exact .cons (RT.shp h s.1) (RTs.shp r s.2)
end
theorem mapM_cons_some {α β : Type} {f : α → Option β} {a : α} {l : List α} {r : List β} (h : (a :: l).mapM f = some r) : ∃ b bs, f a = some b ∧ l.mapM f = some bs ∧ r = b :: bs := by
  rw [List.mapM_cons] at h
  cases e : f a with
  | none => rw [e] at h; cases h
  | some b =>
    cases e2 : l.mapM f with
    | none => rw [e, e2] at h; cases h
    | some bs => rw [e, e2] at h; cases h; exact ⟨b, bs, rfl, rfl, rfl⟩
/-- what is read deep, at its value -/
theorem rd_shp (rs : RS K ca m H st) : ∀ (j : Nat) {d : D} {x : V} {t : T} {k : Nat}, RD K ca m H d x → rd st j d = some t → T.shape k t = true → Shp K H k t x
  | j, .v t0, x, t, k, h, e, s => by
    have e' : t0 = t := by cases j <;> (simp only [rd, Option.some.injEq] at e; exact e)
    subst e'
    cases h with
    | v h => exact h.shp s
  | 0, .ref _, _, _, _, _, e, _ => by simp [rd] at e
  | 0, .tp _, _, _, _, _, e, _ => by simp [rd] at e
  | 0, .lp _, _, _, _, _, e, _ => by simp [rd] at e
  | j, .exv _ _, _, _, _, _, e, _ => by cases j <;> simp [rd] at e
  | j, .lam _ _, _, _, _, _, e, _ => by cases j <;> simp [rd] at e
  | j + 1, .ref n, x, t, k, h, e, s => by
    have go : ∀ {ds : List D} {vs : List V} {ts : List T} {k : Nat}, RDs K ca m H ds vs → ds.mapM (rd st j) = some ts → ts.all (T.shape k) = true → Shps K H k ts vs := by
      intro ds
      induction ds with
      | nil => intro vs ts k a b c; cases a; cases b; exact .nil
      | cons d r ih =>
        intro vs ts k a b c
        obtain ⟨t1, ts1, b1, b2, rfl⟩ := mapM_cons_some b
        simp only [List.all_cons, Bool.and_eq_true] at c
        cases a with
        | cons a1 a2 => exact .cons (rd_shp rs j a1 b1 c.1) (ih a2 b2 c.2)
    simp only [rd] at e
    cases q : cellAt st n with
    | none => rw [q] at e; cases e
    | some c =>
      rw [q] at e
      cases h with
      | dead z =>
        have q2 := rs.dead n z
        rw [cellAt_some] at q
        rw [q] at q2; cases q2
      | ref z =>
        obtain ⟨c', h1, h2⟩ := rs.cells n _ z
        rw [h1] at q; cases q
        cases h2 with
        | lst h3 h4 h5 =>
          simp only at e
          cases q3 : List.mapM (rd st j) _ with
          | none => rw [q3] at e; cases e
          | some ts =>
            rw [q3] at e
            cases e
            cases k with
            | zero => simp [T.shape] at s
            | succ k =>
              simp only [T.shape] at s
              exact Shp.lst (SqL.of h3) (go h5 q3 s)
        | dctK _ _ _ =>
          simp only [Option.map_eq_some_iff] at e
          obtain ⟨kv, _, rfl⟩ := e
          cases k <;> simp [T.shape] at s
        | dctT _ _ _ =>
          simp only [Option.map_eq_some_iff] at e
          obtain ⟨kv, _, rfl⟩ := e
          cases k <;> simp [T.shape] at s
        | ins _ _ =>
          simp only [Option.map_eq_some_iff] at e
          obtain ⟨kv, _, rfl⟩ := e
          cases k <;> simp [T.shape] at s
  | j + 1, .tp ds, x, t, k, h, e, s => by
    have go : ∀ {ds : List D} {vs : List V} {ts : List T} {k : Nat}, RDs K ca m H ds vs → ds.mapM (rd st j) = some ts → ts.all (T.shape k) = true → Shps K H k ts vs := by
      intro ds
      induction ds with
      | nil => intro vs ts k a b c; cases a; cases b; exact .nil
      | cons d r ih =>
        intro vs ts k a b c
        obtain ⟨t1, ts1, b1, b2, rfl⟩ := mapM_cons_some b
        simp only [List.all_cons, Bool.and_eq_true] at c
        cases a with
        | cons a1 a2 => exact .cons (rd_shp rs j a1 b1 c.1) (ih a2 b2 c.2)
    cases h with
    | tp h1 h2 h3 h4 =>
      simp only [rd, Option.map_eq_some_iff] at e
      obtain ⟨ts, q3, rfl⟩ := e
      cases k with
      | zero => simp [T.shape] at s
      | succ k =>
        simp only [T.shape] at s
        exact Shp.tup (SqT.of h1) (go h4 q3 s)
  | j + 1, .lp ds, x, t, k, h, e, s => by
    have go : ∀ {ds : List D} {vs : List V} {ts : List T} {k : Nat}, RDs K ca m H ds vs → ds.mapM (rd st j) = some ts → ts.all (T.shape k) = true → Shps K H k ts vs := by
      intro ds
      induction ds with
      | nil => intro vs ts k a b c; cases a; cases b; exact .nil
      | cons d r ih =>
        intro vs ts k a b c
        obtain ⟨t1, ts1, b1, b2, rfl⟩ := mapM_cons_some b
        simp only [List.all_cons, Bool.and_eq_true] at c
        cases a with
        | cons a1 a2 => exact .cons (rd_shp rs j a1 b1 c.1) (ih a2 b2 c.2)
    cases h with
    | lp h1 h2 h3 h4 =>
      simp only [rd, Option.map_eq_some_iff] at e
      obtain ⟨ts, q3, rfl⟩ := e
      cases k with
      | zero => simp [T.shape] at s
      | succ k =>
        simp only [T.shape] at s
        exact Shp.lst (SqL.of h1) (go h4 q3 s)
termination_by j => j
end
mutual
theorem eqv_py : ∀ {a b : T} {p q : PyData}, a.py = some p → b.py = some q → p.canLay0 = true → PyData.eqv p q = T.eqv a b
  | .non, b, p, q, h, h2, l => by
    cases h
    cases b <;> simp only [T.py, Option.map_eq_some_iff, Option.some.injEq, reduceCtorEq] at h2 <;> first | (obtain ⟨_, _, rfl⟩ := h2; rfl) | (subst h2; rfl)
  | .bl x, b, p, q, h, h2, l => by
    cases h
    cases b <;> simp only [T.py, Option.map_eq_some_iff, Option.some.injEq, reduceCtorEq] at h2 <;> first | (obtain ⟨_, _, rfl⟩ := h2; rfl) | (subst h2; rfl)
  | .int x, b, p, q, h, h2, l => by
    cases h
    cases b <;> simp only [T.py, Option.map_eq_some_iff, Option.some.injEq, reduceCtorEq] at h2 <;> first | (obtain ⟨_, _, rfl⟩ := h2; rfl) | (subst h2; rfl) | (subst h2; simp only [PyData.eqv, T.eqv]; exact Bool.beq_eq_decide_eq _ _)
  | .str x, b, p, q, h, h2, l => by
    cases h
    cases b <;> simp only [T.py, Option.map_eq_some_iff, Option.some.injEq, reduceCtorEq] at h2 <;> first | (obtain ⟨_, _, rfl⟩ := h2; rfl) | (subst h2; rfl) | (subst h2; simp only [PyData.eqv, T.eqv]; exact Bool.beq_eq_decide_eq _ _)
  | .tup xs, b, p, q, h, h2, l => by
    simp only [T.py, Option.map_eq_some_iff] at h
    obtain ⟨ps, hx, rfl⟩ := h
    simp only [PyData.canLay0] at l
    cases b <;> simp only [T.py, Option.map_eq_some_iff, Option.some.injEq, reduceCtorEq] at h2 <;> first | (subst h2; rfl) | (obtain ⟨qs, hy, rfl⟩ := h2; first | rfl | (simp only [PyData.eqv, T.eqv]; exact eqvs_py hx hy l))
  | .lst xs, b, p, q, h, h2, l => by
    simp only [T.py, Option.map_eq_some_iff] at h
    obtain ⟨ps, hx, rfl⟩ := h
    simp only [PyData.canLay0] at l
    cases b <;> simp only [T.py, Option.map_eq_some_iff, Option.some.injEq, reduceCtorEq] at h2 <;> first | (subst h2; rfl) | (obtain ⟨qs, hy, rfl⟩ := h2; first | rfl | (simp only [PyData.eqv, T.eqv]; exact eqvs_py hx hy l))
  | .dct _ xs, b, p, q, h, h2, l => by
    simp only [T.py, Option.map_eq_some_iff] at h
    obtain ⟨ps, hx, rfl⟩ := h
    simp [PyData.canLay0] at l
  | .obj _ _, b, p, q, h, h2, l => by simp [T.py] at h
  | .scr _, b, p, q, h, h2, l => by simp [T.py] at h
theorem eqvs_py : ∀ {a b : List T} {p q : List PyData}, T.pys a = some p → T.pys b = some q → PyData.canLayAll0 p = true → PyData.eqvAll p q = T.eqvs a b
  | [], [], p, q, h, h2, l => by cases h; cases h2; rfl
  | [], y :: ys, p, q, h, h2, l => by
    cases h
    simp only [T.pys] at h2
    split at h2 <;> cases h2
    rfl
  | x :: xs, [], p, q, h, h2, l => by
    cases h2
    simp only [T.pys] at h
    split at h <;> cases h
    rfl
  | x :: xs, y :: ys, p, q, h, h2, l => by
    simp only [T.pys] at h h2
    split at h <;> cases h
    split at h2 <;> cases h2
    simp only [PyData.canLayAll0, Bool.and_eq_true] at l
    rename_i e1 e2 _ _ _ _ e3 e4
    simp only [PyData.eqvAll, T.eqvs]
    rw [eqv_py e1 e3 l.1, eqvs_py e2 e4 l.2]
end
end PV
end
section
set_option Elab.async false
set_option linter.all false
set_option maxRecDepth 100000
set_option maxHeartbeats 1000000
/-! FB8: comparisons. -/
namespace PV
open PySem PySem.Spec PyProof.Rows L2
section
variable {X : Cx} {ca : Nat → Addr} {W : WX} {P : Pr} {F : Bool → Nat → List D → M D}
/-- == where the left one's class has a def for it -/
def OwnEq (X : Cx) (ca : Nat → Addr) (W : WX) (P : Pr) (F : Bool → Nat → List D → M D) : Prop :=
  ∀ (pins : List (Addr × Obj)) (s : Shared) (σ : L2.St) (H : Hp) (x y : V) (v u : Value) (Q : VK) (m : Mp) (st : Sto) (a b : D) (c f : Nat) (fs : List (Str × D)) (k : Cl), Inv X pins σ H s → RelV x v → RelV y u → RS X.K ca m H st → RD X.K ca m H a x → RD X.K ca m H b y →
    asIns st a = some (c, fs) → P.cl c = some k → k.eqm = some f → Post X.K ca W σ m H (F false f [a, b] st) Q → wpAny (model X.prog X.w) X.A (compareOp .Eq v u) (EP X pins σ Q) X.xe s
/-- the outcome of a comparison of data -/
theorem eqD_cases (a b : D) (st : Sto) : (∃ ta tb, rd st DEEP a = some ta ∧ rd st DEEP b = some tb ∧ ta.flat = true ∧ tb.flat = true ∧ eqD a b st = .ok (T.eqv ta tb) st) ∨ eqD a b st = .bad := by
  unfold eqD
  cases e1 : rd st DEEP a with
  | none => exact .inr rfl
  | some ta =>
    cases e2 : rd st DEEP b with
    | none => exact .inr rfl
    | some tb =>
      dsimp only
      cases g : (ta.flat && tb.flat) with
      | false => exact .inr rfl
      | true =>
        rw [Bool.and_eq_true] at g
        exact .inl ⟨ta, tb, rfl, rfl, g.1, g.2, rfl⟩
theorem Shp.reads {pins : List (Addr × Obj)} {s : Shared} {σ : L2.St} {H : Hp} {k : Nat} {t : T} {x : V} {v : Value} (I : Inv X pins σ H s) (h : Shp X.K H k t x) (r : RelV x v) : ∃ p as, t.py = some p ∧ p.canLay0 = true ∧ p.depth ≤ k ∧ Reads s.heap v p as := by
  obtain ⟨p, e, c, d, q⟩ := h
  obtain ⟨as, z⟩ := Dp.reads I p x v q r
  exact ⟨p, as, e, c, d, z⟩
theorem room_min {A : Around} {p q : PyData} (hu : A.units + 64 < cLine) (h : p.depth ≤ 40) : A.units + min p.depth q.depth < cLine := by
  have : min p.depth q.depth ≤ p.depth := Nat.min_le_left _ _
  omega
theorem op_cmp_eq (hu : X.A.units + 64 < cLine) (own : OwnEq X ca W P F) : Op2 X ca W (compareOp .Eq) (cmpop P F .eq) := by
  intro pins s σ H x y v u Q m st a b I rx ry r ra rb p
  have plain : Post X.K ca W σ m H ((eqD a b st).bind fun b => .ret (.v (.bl b))) Q → wpAny (model X.prog X.w) X.A (compareOp .Eq v u) (EP X pins σ Q) X.xe s := by
    intro p
    rcases eqD_cases a b st with ⟨ta, tb, e1, e2, f1, f2, e⟩ | e
    · rw [e] at p
      obtain ⟨pa, as, q1, c1, d1, z1⟩ := Shp.reads I (rd_shp r _ ra e1 f1) rx
      obtain ⟨pb, bs, q2, c2, d2, z2⟩ := Shp.reads I (rd_shp r _ rb e2 f2) ry
      refine SeqAt.compareEq_reads z1 z2 c1 c2 (room_min hu d1) ⟨.bl _, H, I, rfl, ?_⟩
      rw [eqv_py q1 q2 c1]
      exact p.here r (.v (.bl _))
    · rw [e] at p; exact p.elim
  unfold cmpop at p
  dsimp only at p
  cases e1 : asIns st a with
  | none => rw [e1] at p; exact plain p
  | some q =>
    rw [e1] at p
    cases e2 : P.cl q.1 with
    | none => rw [Option.bind_some, e2] at p; exact plain p
    | some k =>
      rw [Option.bind_some, e2, Option.bind_some] at p
      cases e3 : k.eqm with
      | none => rw [e3] at p; exact plain p
      | some f =>
        rw [e3] at p
        exact own pins s σ H x y v u Q m st a b q.1 f q.2 k I rx ry r ra rb e1 e2 e3 p
theorem op_cmp_ne (hu : X.A.units + 64 < cLine) : Op2 X ca W (compareOp .NotEq) (cmpop P F .ne) := by
  intro pins s σ H x y v u Q m st a b I rx ry r ra rb p
  unfold cmpop at p
  dsimp only at p
  rcases eqD_cases a b st with ⟨ta, tb, e1, e2, f1, f2, e⟩ | e
  · rw [e] at p
    obtain ⟨pa, as, q1, c1, d1, z1⟩ := Shp.reads I (rd_shp r _ ra e1 f1) rx
    obtain ⟨pb, bs, q2, c2, d2, z2⟩ := Shp.reads I (rd_shp r _ rb e2 f2) ry
    refine SeqAt.compareNe_reads z1 z2 c1 c2 (room_min hu d1) ⟨.bl _, H, I, rfl, ?_⟩
    rw [eqv_py q1 q2 c1]
    exact p.here r (.v (.bl _))
  · rw [e] at p; exact p.elim
theorem cmp_ints {f : Value → Value → Sem Value} {c : Int → Int → Bool} {o : Cop} (hg : ∀ a b st, (∃ i j, a = .v (.int i) ∧ b = .v (.int j) ∧ cmpop P F o a b st = .ok (.v (.bl (c i j))) st) ∨ cmpop P F o a b st = .bad)
    (rule : ∀ (i j : Int) (t t' : Tok) (s : Shared) (Q : Value → Shared → Prop), Q (.bool (c i j)) s → wpAny (model X.prog X.w) X.A (f (.int i t) (.int j t')) Q X.xe s) : Op2 X ca W f (cmpop P F o) := by
  intro pins s σ H x y v u Q m st a b I rx ry rs ra rb p
  rcases hg a b st with ⟨i, j, rfl, rfl, e⟩ | e
  · rw [e] at p
    cases ra with
    | v ra => cases ra; cases rb with
      | v rb =>
        cases rb
        obtain ⟨t, rfl⟩ := rx
        obtain ⟨t', rfl⟩ := ry
        exact rule i j t t' s _ ⟨.bl _, H, I, rfl, p.here rs (.v (.bl _))⟩
  · rw [e] at p; exact p.elim
theorem op_cmp_gt : Op2 X ca W (compareOp .Gt) (cmpop P F .gt) := by
  refine cmp_ints (c := fun i j => decide (j < i)) (fun a b st => ?_) (fun i j t t' s Q q => gt_int q)
  cases a with
  | v a => cases b with
    | v b => cases a <;> cases b <;> first | exact .inr rfl | exact .inl ⟨_, _, rfl, rfl, rfl⟩
    | _ => cases a <;> exact .inr rfl
  | _ => exact .inr rfl
theorem op_cmp_ge : Op2 X ca W (compareOp .GtE) (cmpop P F .ge) := by
  refine cmp_ints (c := fun i j => decide (j ≤ i)) (fun a b st => ?_) (fun i j t t' s Q q => ge_int q)
  cases a with
  | v a => cases b with
    | v b => cases a <;> cases b <;> first | exact .inr rfl | exact .inl ⟨_, _, rfl, rfl, rfl⟩
    | _ => cases a <;> exact .inr rfl
  | _ => exact .inr rfl
theorem op_cmp_lt : Op2 X ca W (compareOp .Lt) (cmpop P F .lt) := by
  intro pins s σ H x y v u Q m st a b I rx ry rs ra rb p
  unfold cmpop at p
  dsimp only at p
  split at p
  · cases ra with
    | v ra => cases ra; cases rb with
      | v rb => cases rb; exact op_lt pins s σ H _ _ v u Q I rx ry ⟨_, _, rfl, rfl, p.here rs (.v (.bl _))⟩
  · cases ra with
    | v ra => cases ra; cases rb with
      | v rb => cases rb; exact op_lt_str pins s σ H _ _ v u Q I rx ry ⟨_, _, rfl, rfl, p.here rs (.v (.bl _))⟩
  · exact p.elim
theorem op_cmp_le : Op2 X ca W (compareOp .LtE) (cmpop P F .le) := by
  intro pins s σ H x y v u Q m st a b I rx ry rs ra rb p
  unfold cmpop at p
  dsimp only at p
  split at p
  · cases ra with
    | v ra => cases ra; cases rb with
      | v rb => cases rb; exact op_le pins s σ H _ _ v u Q I rx ry ⟨_, _, rfl, rfl, p.here rs (.v (.bl _))⟩
  · cases ra with
    | v ra => cases ra; cases rb with
      | v rb => cases rb; exact op_le_str pins s σ H _ _ v u Q I rx ry ⟨_, _, rfl, rfl, p.here rs (.v (.bl _))⟩
  · exact p.elim
theorem opt_ok {α : Type} {o : Option α} {K : PySem.W.Frag} {σ : L2.St} {m : Mp} {H : Hp} {Q : VK} {st : Sto} {g : α → M D} (p : Post K ca W σ m H ((M.opt o st).bind g) Q) : ∃ a, o = some a ∧ Post K ca W σ m H (g a st) Q := by
  cases o with
  | some a => exact ⟨a, rfl, p⟩
  | none => exact p.elim
theorem optv_ok {o : Option D} {K : PySem.W.Frag} {σ : L2.St} {m : Mp} {H : Hp} {Q : VK} {st : Sto} (p : Post K ca W σ m H (M.opt o st) Q) : ∃ a, o = some a ∧ Post K ca W σ m H (.ok a st) Q := by
  cases o with
  | some a => exact ⟨a, rfl, p⟩
  | none => exact p.elim
/-- what 'is' tells of None and the bools -/
theorem is_told {K : PySem.W.Frag} {H : Hp} {x y : V} {m : Mp} {st : Sto} {a b : D} {k : Bool} (rs : RS K ca m H st) (ra : RD K ca m H a x) (rb : RD K ca m H b y) (e : isD st a b = some k) :
    (y = .non ∧ k = decide (x = .non)) ∨ ∃ c d : Bool, x = .bl c ∧ y = .bl d ∧ k = decide (c = d) := by
  unfold isD at e
  split at e
  · cases rb with
    | v rb =>
      cases rb
      refine .inl ⟨rfl, ?_⟩
      split at e
      · cases e; cases ra with | v ra => cases ra; rfl
      · rename_i n
        cases q : cellAt st n with
        | none => rw [q] at e; cases e
        | some c =>
          rw [q] at e; cases e
          cases ra with
          | ref z => rfl
          | dead z =>
            have q2 := rs.dead n z
            rw [cellAt_some] at q
            rw [q] at q2; cases q2
      · rename_i h1 h2
        cases e
        cases ra with
        | v ra => cases ra <;> first | rfl | exact absurd rfl h1
        | ref _ => rfl
        | dead _ => exact absurd rfl (h2 _)
        | tp _ _ _ _ => rfl
        | lp _ _ _ _ => rfl
  · cases rb with
    | v rb =>
      cases rb
      split at e
      · cases e
        cases ra with
        | v ra => cases ra; exact .inr ⟨_, _, rfl, rfl, rfl⟩
      · cases e
  · cases e
theorem op_cmp_is : Op2 X ca W (compareOp .Is) (cmpop P F .is_) := by
  intro pins s σ H x y v u Q m st a b I rx ry rs ra rb p
  unfold cmpop at p
  obtain ⟨k, e, p⟩ := opt_ok p
  rcases is_told rs ra rb e with ⟨rfl, rfl⟩ | ⟨c, d, rfl, rfl, rfl⟩
  · exact op_isN pins s σ H _ _ v u Q I rx ry ⟨rfl, p.here rs (.v (.bl _))⟩
  · exact op_isBl pins s σ H _ _ v u Q I rx ry ⟨c, d, rfl, rfl, p.here rs (.v (.bl _))⟩
theorem op_cmp_isnt : Op2 X ca W (compareOp .IsNot) (cmpop P F .isnt) := by
  intro pins s σ H x y v u Q m st a b I rx ry rs ra rb p
  unfold cmpop at p
  obtain ⟨k, e, p⟩ := opt_ok p
  rcases is_told rs ra rb e with ⟨rfl, rfl⟩ | ⟨c, d, rfl, rfl, rfl⟩
  · exact op_notN pins s σ H _ _ v u Q I rx ry ⟨rfl, p.here rs (.v (.bl _))⟩
  · exact op_notBl pins s σ H _ _ v u Q I rx ry ⟨c, d, rfl, rfl, p.here rs (.v (.bl _))⟩
end
end PV
end
section
set_option Elab.async false
set_option linter.all false
set_option maxRecDepth 100000
set_option maxHeartbeats 1000000
/-! FB9: dicts read. -/
namespace PV
open PySem PySem.Spec PyProof.Rows L2
section
variable {K : PySem.W.Frag} {ca : Nat → Addr} {m : Mp} {H : Hp} {st : Sto}
theorem RTk.vs {kvs : List (T × T)} {ps : List (Key × V)} (h : RTk K ca m H kvs ps) : RDk K ca m H (kvs.map fun p => (p.1, .v p.2)) ps := by
  induction kvs generalizing ps with
  | nil => cases h; exact .nil
  | cons t r ih => cases h with
    | cons k a b => exact .cons k (.v a) (ih b)
theorem RTt.vs {kvs : List (T × T)} {ps : List (List Key × V)} (h : RTt K ca m H kvs ps) : RDt K ca m H (kvs.map fun p => (p.1, .v p.2)) ps := by
  induction kvs generalizing ps with
  | nil => cases h; exact .nil
  | cons t r ih => cases h with
    | cons k a b => exact .cons k (.v a) (ih b)
/-- a dict that stands -/
def DctAt (K : PySem.W.Frag) (ca : Nat → Addr) (m : Mp) (H : Hp) (tk : Bool) (kvs : List (T × D)) (a : Addr) : Prop :=
  (tk = false ∧ ∃ ps, Rd H a (.dK ps) ∧ RDk K ca m H kvs ps) ∨ (tk = true ∧ ∃ ps, Rd H a (.dT ps) ∧ RDt K ca m H kvs ps)
theorem RD.dctI {d : D} {tk : Bool} {kvs : List (T × D)} {v : V} (r : RS K ca m H st) (h : asDct st d = some (tk, kvs)) (q : RD K ca m H d v) : ∃ a, v = .ref a ∧ kvs.length ≤ sizeLine ∧ DctAt K ca m H tk kvs a := by
  unfold asDct at h
  split at h
  · cases h
    cases q with
    | v q =>
      cases q with
      | dctK h1 h2 h3 h4 => exact ⟨_, rfl, by simpa using h3, .inl ⟨rfl, _, h1, h4.vs⟩⟩
      | dctT h1 h2 h3 h4 => exact ⟨_, rfl, by simpa using h3, .inr ⟨rfl, _, h1, h4.vs⟩⟩
  · rename_i n
    split at h
    · rename_i tk' ds' e
      cases h
      cases q with
      | ref z =>
        obtain ⟨c, h1, h2⟩ := r.cells n _ z
        rw [h1] at e; cases e
        cases h2 with
        | dctK h3 h4 h5 => exact ⟨_, rfl, h4, .inl ⟨rfl, _, .inl h3, h5⟩⟩
        | dctT h3 h4 h5 => exact ⟨_, rfl, h4, .inr ⟨rfl, _, .inl h3, h5⟩⟩
      | dead z =>
        have q2 := r.dead n z
        rw [cellAt_some] at e
        rw [e] at q2; cases q2
    · cases h
  · cases h
theorem tKey_cases {k : T} {q : Key} (h : tKey k = some q) : (∃ i, k = .int i ∧ q = .inl i) ∨ ∃ x, k = .str x ∧ q = .inr x ∧ okS x = true := by
  cases k
  case str x =>
    simp only [tKey] at h
    split at h
    · rename_i e; cases h; exact .inr ⟨x, rfl, rfl, e⟩
    · cases h
  case int i => cases h; exact .inl ⟨i, rfl, rfl⟩
  all_goals cases h
theorem keq1_key {a b : T} {p q : Key} (h : tKey a = some p) (h2 : tKey b = some q) : T.keq1 a b = decide (p = q) := by
  rcases tKey_cases h with ⟨i, rfl, rfl⟩ | ⟨x, rfl, rfl, _⟩ <;> rcases tKey_cases h2 with ⟨j, rfl, rfl⟩ | ⟨y, rfl, rfl, _⟩ <;> simp [T.keq1]
theorem keq_key {a b : T} {p q : Key} (h : tKey a = some p) (h2 : tKey b = some q) : T.keq a b = decide (p = q) := by
  rw [← keq1_key h h2]
  rcases tKey_cases h with ⟨i, rfl, rfl⟩ | ⟨x, rfl, rfl, _⟩ <;> rfl
theorem keqs_key : ∀ {a b : List T} {p q : List Key}, tKeys a = some p → tKeys b = some q → T.keqs a b = decide (p = q)
  | [], [], p, q, h, h2 => by cases h; cases h2; rfl
  | [], y :: ys, p, q, h, h2 => by
    cases h
    simp only [tKeys] at h2
    split at h2 <;> cases h2
    simp [T.keqs]
  | x :: xs, [], p, q, h, h2 => by
    cases h2
    simp only [tKeys] at h
    split at h <;> cases h
    simp [T.keqs]
  | x :: xs, y :: ys, p, q, h, h2 => by
    simp only [tKeys] at h h2
    split at h <;> cases h
    split at h2 <;> cases h2
    rename_i e1 e2 _ _ _ _ e3 e4
    simp only [T.keqs]
    rw [keq1_key e1 e3, keqs_key e2 e4]
    simp
/-- what a look-up tells, on both sides -/
def RO (K : PySem.W.Frag) (ca : Nat → Addr) (m : Mp) (H : Hp) (o : Option D) (r : Option V) : Prop := (o = none ∧ r = none) ∨ ∃ d v, o = some d ∧ r = some v ∧ RD K ca m H d v
theorem RDk.get {k : T} {q : Key} (hk : tKey k = some q) : ∀ {kvs : List (T × D)} {ps : List (Key × V)}, RDk K ca m H kvs ps → RO K ca m H (kget kvs k) (valV ps q)
  | _, _, .nil => .inl ⟨rfl, rfl⟩
  | _, _, .cons (k := j) (q := p) h1 h2 h3 => by
    have e := keq_key h1 hk
    unfold kget
    rw [e]
    by_cases c : p = q
    · rw [decide_eq_true c, valV_pos (p := (p, _)) c]
      exact .inr ⟨_, _, rfl, rfl, h2⟩
    · rw [decide_eq_false c, valV_neg (p := (p, _)) c]
      exact RDk.get hk h3
theorem RDt.get {k : List T} {q : List Key} (hk : tKeys k = some q) : ∀ {kvs : List (T × D)} {ps : List (List Key × V)}, RDt K ca m H kvs ps → RO K ca m H (kget kvs (.tup k)) (valV ps q)
  | _, _, .nil => .inl ⟨rfl, rfl⟩
  | _, _, .cons (ks := j) (q := p) h1 h2 h3 => by
    have e : T.keq (.tup j) (.tup k) = decide (p = q) := keqs_key h1 hk
    unfold kget
    rw [e]
    by_cases c : p = q
    · rw [decide_eq_true c, valV_pos (p := (p, _)) c]
      exact .inr ⟨_, _, rfl, rfl, h2⟩
    · rw [decide_eq_false c, valV_neg (p := (p, _)) c]
      exact RDt.get hk h3
theorem tKey_str {x : Str} (h : okS x = true) : tKey (.str x) = some (.inr x) := by
  simp only [tKey, h, if_true]
theorem RT.has {k : T} {y : V} (hk : RT K ca m H k y) (h : k.key1 = true) : ∃ q, tKey k = some q := by
  cases hk <;> first | exact ⟨_, rfl⟩ | exact ⟨_, tKey_str (by assumption)⟩ | (simp [T.key1] at h)
theorem RTs.has : ∀ {ks : List T} {ys : List V}, RTs K ca m H ks ys → ks.all T.key1 = true → ∃ q, tKeys ks = some q
  | [], _, _, _ => ⟨[], rfl⟩
  | k :: r, _, hk, h => by
    cases hk with
    | cons h1 h2 =>
      simp only [List.all_cons, Bool.and_eq_true] at h
      obtain ⟨q, e⟩ := RT.has h1 h.1
      obtain ⟨qs, e2⟩ := RTs.has h2 h.2
      exact ⟨q :: qs, by simp only [tKeys, e, e2]⟩
theorem RT.key {k : T} {q : Key} {y : V} (h : RT K ca m H k y) (e : tKey k = some q) : y = kV q := by
  rcases tKey_cases e with ⟨i, rfl, rfl⟩ | ⟨x, rfl, rfl, _⟩ <;> cases h <;> rfl
/-- a key is a value -/
theorem RT.ofKey {k : T} {q : Key} (e : tKey k = some q) : RT K ca m H k (kV q) := by
  rcases tKey_cases e with ⟨i, rfl, rfl⟩ | ⟨x, rfl, rfl, h⟩
  · exact .int i
  · exact .str x h
theorem RTs.ofKeys : ∀ {ks : List T} {q : List Key}, tKeys ks = some q → RTs K ca m H ks (q.map kV)
  | [], _, e => by cases e; exact .nil
  | k :: r, _, e => by
    simp only [tKeys] at e
    split at e <;> cases e
    rename_i e1 e2
    exact .cons (RT.ofKey e1) (RTs.ofKeys e2)
theorem RTs.keys : ∀ {ks : List T} {q : List Key} {ys : List V}, RTs K ca m H ks ys → tKeys ks = some q → ys = q.map kV
  | [], q, _, h, e => by cases h; cases e; rfl
  | k :: r, q, _, h, e => by
    cases h with
    | cons h1 h2 =>
      simp only [tKeys] at e
      split at e <;> cases e
      rename_i e1 e2
      rw [h1.key e1, RTs.keys h2 e2]
      rfl
/-- a key that fits, on both sides -/
theorem kfit_get {tk : Bool} {kvs : List (T × D)} {k : T} {a : Addr} {y : V} (d : DctAt K ca m H tk kvs a) (hk : RT K ca m H k y) (f : kfit tk k = true) : ∃ r, DGet H a y r ∧ RO K ca m H (kget kvs k) r := by
  rcases d with ⟨rfl, ps, h1, h2⟩ | ⟨rfl, ps, h1, h2⟩
  · simp only [kfit] at f
    obtain ⟨q, e⟩ := RT.has hk f
    exact ⟨_, .inl ⟨ps, q, h1, hk.key e, rfl⟩, h2.get e⟩
  · cases k with
    | tup ks =>
      simp only [kfit] at f
      cases hk with
      | tup h3 h4 h5 h6 =>
        obtain ⟨q, e⟩ := RTs.has h6 f
        have e2 := h6.keys e
        subst e2
        exact ⟨_, .inr ⟨ps, q, _, h1, rfl, h3, rfl⟩, h2.get e⟩
    | _ => simp [kfit] at f
end
section
variable {X : Cx} {ca : Nat → Addr} {W : WX} {P : Pr} {F : Bool → Nat → List D → M D}
theorem inD_cases (x y : D) (st : Sto) : inD x y st = .bad ∨
    (∃ tk kvs k, asDct st y = some (tk, kvs) ∧ x = .v k ∧ kfit tk k = true ∧ inD x y st = .ok (kget kvs k).isSome st) ∨
    (∃ a b, x = .v (.str a) ∧ y = .v (.str b) ∧ inD x y st = .ok (strIn a b) st) ∨
    (∃ a ds bs, rd st DEEP x = some a ∧ asSeq st y = some ds ∧ ds.mapM (rd st DEEP) = some bs ∧ a.flat = true ∧ bs.all T.flat = true ∧ inD x y st = .ok (anyEq a bs) st) := by
  unfold inD
  cases e1 : asDct st y with
  | some q =>
    obtain ⟨tk, kvs⟩ := q
    dsimp only
    cases x with
    | v k =>
      dsimp only
      cases g : kfit tk k with
      | false => exact .inl rfl
      | true => exact .inr (.inl ⟨tk, kvs, k, rfl, rfl, g, rfl⟩)
    | _ => exact .inl rfl
  | none =>
    dsimp only
    split
    · exact .inr (.inr (.inl ⟨_, _, rfl, rfl, rfl⟩))
    · cases e2 : rd st DEEP x with
      | none => exact .inl rfl
      | some a =>
        cases e3 : asSeq st y with
        | none => exact .inl rfl
        | some ds =>
          rw [Option.bind_some]
          cases e4 : ds.mapM (rd st DEEP) with
          | none => exact .inl rfl
          | some bs =>
            dsimp only
            cases g : (a.flat && bs.all T.flat) with
            | false => exact .inl rfl
            | true =>
              rw [Bool.and_eq_true] at g
              exact .inr (.inr (.inr ⟨a, ds, bs, rfl, rfl, e4, g.1, g.2, rfl⟩))
/-- what an item of the sequence is worth against x -/
noncomputable def eqTo (h : Heap) (p : PyData) (y : Value) : Bool := @decide (∃ q as, Reads h y q as ∧ q.canLay0 = true ∧ PyData.eqv q p = true) (Classical.propDecidable _)
theorem eqTo_is {h : Heap} {p q : PyData} {y : Value} {as : List Addr} (r : Reads h y q as) (c : q.canLay0 = true) : eqTo h p y = PyData.eqv q p := by
  have key : (∃ q as, Reads h y q as ∧ q.canLay0 = true ∧ PyData.eqv q p = true) ↔ PyData.eqv q p = true := by
    refine ⟨?_, fun e => ⟨q, as, r, c, e⟩⟩
    rintro ⟨q', as', r', c', e'⟩
    have := SeqAt.Reads.unique q q' y as as' c r r'
    subst this
    exact e'
  unfold eqTo
  cases e : PyData.eqv q p with
  | true => exact (@decide_eq_true_iff _ (Classical.propDecidable _)).mpr (key.mpr e)
  | false =>
    refine (@decide_eq_false_iff_not _ (Classical.propDecidable _)).mpr fun h => ?_
    have := key.mp h
    rw [e] at this; cases this
theorem RDs.reads {pins : List (Addr × Obj)} {s : Shared} {σ : L2.St} {H : Hp} {m : Mp} {st : Sto} (I : Inv X pins σ H s) (rs : RS X.K ca m H st) {p : PyData} {a : T} (ha : a.py = some p) (hc : p.canLay0 = true) : ∀ {ds : List D} {vs : List V} {its : List Value} {bs : List T}, RDs X.K ca m H ds vs → Vals vs its → ds.mapM (rd st DEEP) = some bs → bs.all T.flat = true →
    (∀ y ∈ its, ∃ q as, Reads s.heap y q as ∧ q.canLay0 = true ∧ q.depth ≤ 40) ∧ its.any (eqTo s.heap p) = anyEq a bs
  | _, _, _, bs, .nil, h2, h3, h4 => by
    cases h2
    cases h3
    exact ⟨fun y hy => (nomatch hy), rfl⟩
  | _, _, _, bs, .cons h1 h1', h2, h3, h4 => by
    cases h2 with
    | cons r1 r2 =>
      obtain ⟨b, bs', e1, e2, rfl⟩ := mapM_cons_some h3
      simp only [List.all_cons, Bool.and_eq_true] at h4
      obtain ⟨q, as, e, c, d, z⟩ := Shp.reads I (rd_shp rs _ h1 e1 h4.1) r1
      obtain ⟨i1, i2⟩ := RDs.reads I rs ha hc h1' r2 e2 h4.2
      refine ⟨fun y hy => ?_, ?_⟩
      · rcases List.mem_cons.mp hy with rfl | hy
        · exact ⟨q, as, z, c, d⟩
        · exact i1 y hy
      · simp only [List.any_cons, anyEq]
        rw [i2, eqTo_is z c, eqv_py e ha c]
/-- in, or not in: the two go alike -/
theorem op_in_gen {op : CmpOp} {neg : Bool} (hu : X.A.units + 64 + 8 < cLine)
    (rd1 : ∀ {pins : List (Addr × Obj)} {s : Shared} {σ : L2.St} {H : Hp} {a : Addr} {y : V} {u : Value} {o : Option V} {Q : Value → Shared → Prop}, Inv X pins σ H s → DGet H a y o → RelV y u → (∀ s', Inv X pins σ H s' → Q (.bool (if neg then !o.isSome else o.isSome)) s') → wpAny (model X.prog X.w) X.A (compareOp op u (.ref a)) Q X.xe s)
    (rl : ∀ {s : Shared} {l : Addr} {items : Array Value} {x : Value} {Q : Value → Shared → Prop} (e : Value → Bool), (s.heap.IsList l items ∨ s.heap.IsTuple l items) → (∀ y, y ∈ items → SeqAt.EqAt X.A.in1 s y x (e y)) → Q (.bool (if neg then !items.any e else items.any e)) s → wpAny (model X.prog X.w) X.A (compareOp op x (.ref l)) Q X.xe s)
    (rs1 : ∀ {s : Shared} {i j : Str} {t t' : Tok} {Q : Value → Shared → Prop}, Q (.bool (if neg then !strIn i j else strIn i j)) s → wpAny (model X.prog X.w) X.A (compareOp op (.str i t) (.str j t')) Q X.xe s) :
    Op2 X ca W (compareOp op) (fun x y => (inD x y).bind fun b => .ret (.v (.bl (if neg then !b else b)))) := by
  intro pins s σ H x y v u Q m st a b I rx ry r ra rb p
  dsimp only [M.bind] at p
  rcases inD_cases a b st with e | ⟨tk, kvs, k, e1, rfl, f, e⟩ | ⟨i, j, rfl, rfl, e⟩ | ⟨ta, ds, bs, e1, e2, e3, f1, f2, e⟩
  · rw [e] at p; exact p.elim
  · rw [e] at p
    obtain ⟨ad, rfl, _, dd⟩ := RD.dctI r e1 rb
    cases ra with
    | v ra =>
      obtain ⟨o, g, ro⟩ := kfit_get dd ra f
      cases ry
      refine rd1 I g rx fun s' I' => ⟨.bl _, H, I', rfl, ?_⟩
      have eo : (kget kvs k).isSome = o.isSome := by
        rcases ro with ⟨h1, h2⟩ | ⟨d, w, h1, h2, _⟩ <;> rw [h1, h2] <;> rfl
      rw [← eo]
      exact p.here r (.v (.bl _))
  · rw [e] at p
    cases ra with
    | v ra => cases ra; cases rb with
      | v rb =>
        cases rb
        obtain ⟨t, rfl⟩ := rx
        obtain ⟨t', rfl⟩ := ry
        exact rs1 ⟨.bl _, H, I, rfl, p.here r (.v (.bl _))⟩
  · rw [e] at p
    obtain ⟨pa, as, q1, c1, d1, z1⟩ := Shp.reads I (rd_shp r _ ra e1 f1) rx
    have fin : ∀ {l : Addr} {vs : List V} {its : List Value}, y = .ref l → RDs X.K ca m H ds vs → Vals vs its → (s.heap.IsList l its.toArray ∨ s.heap.IsTuple l its.toArray) → wpAny (model X.prog X.w) X.A (compareOp op v u) (EP X pins σ Q) X.xe s := by
      intro l vs its el hd hv hi
      subst el
      cases ry
      obtain ⟨i1, i2⟩ := RDs.reads I r q1 c1 hd hv e3 f2
      refine rl (eqTo s.heap pa) hi (fun w hw => ?_) ?_
      · obtain ⟨q, as', zq, cq, dq⟩ := i1 w (by simpa using hw)
        rw [eqTo_is zq cq]
        refine SeqAt.eqAt_reads q pa _ s w v as' as zq z1 cq c1 ?_
        show X.A.units + 1 + min q.depth pa.depth < cLine
        have : min q.depth pa.depth ≤ q.depth := Nat.min_le_left _ _
        omega
      · have i3 : its.toArray.any (eqTo s.heap pa) = anyEq ta bs := by rw [← i2]; simp
        rw [i3]
        exact ⟨.bl _, H, I, rfl, p.here r (.v (.bl _))⟩
    unfold asSeq at e2
    cases e4 : asTup b with
    | some ds' =>
      rw [e4] at e2
      cases e2
      obtain ⟨l, vs, el, h1, h2, h3⟩ := RD.tupI e4 rb
      obtain ⟨its, hv, ⟨o, ho, hc, n, hd⟩, _⟩ := I.tuple (SqT.of h1)
      exact fin el h3 hv (.inr ⟨o, ho, hc, n, hd⟩)
    | none =>
      rw [e4] at e2
      obtain ⟨l, vs, el, h1, h2, h3⟩ := RD.lstI r e2 rb
      obtain ⟨its, hv, ⟨o, n, ho, hc, hdd, hd⟩, _⟩ := I.list (SqL.of h1)
      exact fin el h3 hv (.inl ⟨o, ho, hc, n, hd⟩)
theorem op_cmp_in (hu : X.A.units + 64 + 8 < cLine) : Op2 X ca W (compareOp .In) (cmpop P F .isin) :=
  op_in_gen (neg := false) hu (fun I g r h => d_in (by omega) I g r h) (fun e hi he h => hi.elim (fun z => SeqAt.in_listAt e z he h) fun z => SeqAt.in_tupleAt e z he h) (fun h => in_str h)
theorem op_cmp_nin (hu : X.A.units + 64 + 8 < cLine) : Op2 X ca W (compareOp .NotIn) (cmpop P F .nin) :=
  op_in_gen (neg := true) hu (fun I g r h => d_notIn (by omega) I g r h) (fun e hi he h => hi.elim (fun z => SeqAt.notIn_listAt e z he h) fun z => SeqAt.notIn_tupleAt e z he h) (fun h => notIn_str h)
end
end PV
end
section
set_option Elab.async false
set_option linter.all false
set_option maxRecDepth 100000
set_option maxHeartbeats 1000000
/-! FB10: subscripts. -/
namespace PV
open PySem PySem.Spec PyProof.Rows L2
section
variable {X : Cx} {ca : Nat → Addr} {W : WX}
theorem ix_dict (hu : X.A.units + 1 < cLine) : IxR X (fun x y H Q => ∃ a v, x = .ref a ∧ DGet H a y (some v) ∧ Q v H) := by
  intro value slice pins s σ H x y v u Q I rx ry h hs
  obtain ⟨a, w, rfl, g, q⟩ := h
  cases rx
  exact tail_any (dict_typeIs I g) PySem.F.slot_dict_getitem.lookup (d_getItem hu I g ry fun w' s' I' rw' => ⟨w, H, I', rw', q⟩) hs
theorem place_eq (n : Nat) (i : Int) : place n i = ixN n i := rfl
theorem RDs.get {K : PySem.W.Frag} {m : Mp} {H : Hp} : ∀ {ds : List D} {vs : List V} {j : Nat} {d : D}, RDs K ca m H ds vs → ds[j]? = some d → ∃ v, vs[j]? = some v ∧ RD K ca m H d v
  | _, _, _, _, .nil, h => by simp at h
  | _, _, 0, _, .cons h _, e => by simp at e; subst e; exact ⟨_, rfl, h⟩
  | _, _, j + 1, _, .cons _ r, e => by
    obtain ⟨v, h1, h2⟩ := RDs.get (j := j) r (by simpa using e)
    exact ⟨v, by simpa using h1, h2⟩
/-- the item that an index of any sign means -/
theorem RDs.atI {K : PySem.W.Frag} {m : Mp} {H : Hp} {ds : List D} {vs : List V} {i : Int} {d : D} (h : RDs K ca m H ds vs) (e : ((place ds.length i).bind fun j => ds[j]?) = some d) : ∃ v, L2.atI vs i = some v ∧ RD K ca m H d v := by
  cases q : place ds.length i with
  | none => rw [q] at e; cases e
  | some j =>
    rw [q, Option.bind_some] at e
    obtain ⟨v, h1, h2⟩ := h.get e
    refine ⟨v, ?_, h2⟩
    unfold L2.atI
    rw [← h.len, ← place_eq, q]
    exact h1
theorem okS_one {c : Nat} {z : Str} (h : okS z = true) (e : c ∈ z.cps.toList) : okS ⟨#[c]⟩ = true := by
  have h1 := okS.ok h
  unfold okS
  rw [Bool.and_eq_true]
  refine ⟨?_, decide_eq_true (by simp)⟩
  unfold PyData.strOk at h1 ⊢
  rw [← Array.all_toList] at h1
  have := List.all_eq_true.mp h1 c e
  simpa using this
theorem ix_item {pins : List (Addr × Obj)} {s : Shared} {σ : L2.St} {H : Hp} {value slice : Expr} {x y : V} {v u : Value} {Q : VK} {m : Mp} {st : Sto} {a b : D} (hu : X.A.units + 64 + 8 < cLine) (I : Inv X pins σ H s) (rx : RelV x v) (ry : RelV y u) (r : RS X.K ca m H st) (ra : RD X.K ca m H a x) (rb : RD X.K ca m H b y)
    (p : Post X.K ca W σ m H (item a b st) Q) (hs : subscripted slice false v u = operate [v, u] (getItem v u)) : wpAny (model X.prog X.w) X.A (subscriptTail value slice v u) (EP X pins σ Q) X.xe s := by
  unfold item at p
  cases e1 : asDct st a with
  | some q =>
    obtain ⟨tk, kvs⟩ := q
    rw [e1] at p
    dsimp only at p
    obtain ⟨ad, rfl, _, dd⟩ := RD.dctI r e1 ra
    cases b with
    | v k =>
      dsimp only at p
      obtain ⟨g, p⟩ := guard_ok (α := Unit) p
      obtain ⟨d, e2, p⟩ := optv_ok p
      cases rb with
      | v rb =>
        obtain ⟨o, dg, ro⟩ := kfit_get dd rb g
        rcases ro with ⟨h1, h2⟩ | ⟨d', w, h1, h2, h3⟩
        · rw [e2] at h1; cases h1
        · rw [e2] at h1; cases h1
          subst h2
          exact ix_dict (by omega) value slice pins s σ H _ _ v u Q I rx ry ⟨ad, w, rfl, dg, p.here r h3⟩ hs
    | _ => exact p.elim
  | none =>
    rw [e1] at p
    dsimp only at p
    split at p
    · rename_i i
      have ey : y = .int i := by cases rb with | v rb => cases rb; rfl
      subst ey
      split at p
      · -- the script
        rename_i ns
        obtain ⟨d, e2, p⟩ := optv_ok p
        cases ra with
        | v ra =>
          cases ra with
          | scr hsq =>
            have sq := scr_at hsq
            cases e3 : place ns.length i with
            | none => rw [e3] at e2; cases e2
            | some j =>
              rw [e3, Option.bind_some] at e2
              cases e4 : ns[j]? with
              | none => rw [e4] at e2; cases e2
              | some k =>
                rw [e4] at e2
                cases e2
                refine ix_list value slice pins s σ H _ _ v u Q I rx ry ⟨_, ns.map V.int, i, .int k, rfl, rfl, sq, ?_, p.here r (.v (.int k))⟩ hs
                unfold L2.atI
                rw [List.length_map, ← place_eq, e3, Option.bind_some, List.getElem?_map, e4]
                rfl
      · -- a text
        rename_i z
        cases ra with
        | v ra =>
          cases ra with
          | str _ hz =>
            cases e2 : (place z.cps.size i).bind fun j => z.cps.toList[j]? with
            | none => rw [e2] at p; exact p.elim
            | some c =>
              rw [e2] at p
              dsimp only at p
              have hm : c ∈ z.cps.toList := by
                cases e3 : place z.cps.size i with
                | none => rw [e3] at e2; cases e2
                | some j => rw [e3, Option.bind_some] at e2; exact List.mem_of_getElem? e2
              refine ix_str value slice pins s σ H _ _ v u Q I rx ry ⟨z, i, c, rfl, rfl, okS.len hz, ?_, p.here r (.v (.str _ (okS_one hz hm)))⟩ hs
              unfold L2.atI
              rw [Array.length_toList, ← place_eq]
              exact e2
      · cases e2 : asSeq st a with
        | none => rw [e2] at p; exact p.elim
        | some ds =>
          rw [e2] at p
          dsimp only at p
          obtain ⟨d, e3, p⟩ := optv_ok p
          unfold asSeq at e2
          cases e4 : asTup a with
          | some ds' =>
            rw [e4] at e2
            cases e2
            obtain ⟨l, vs, rfl, h1, h2, h3⟩ := RD.tupI e4 ra
            obtain ⟨w, q1, q2⟩ := h3.atI e3
            exact ix_tup value slice pins s σ H _ _ v u Q I rx ry ⟨l, vs, i, w, rfl, rfl, SqT.of h1, q1, p.here r q2⟩ hs
          | none =>
            rw [e4] at e2
            obtain ⟨l, vs, rfl, h1, h2, h3⟩ := RD.lstI r e2 ra
            obtain ⟨w, q1, q2⟩ := h3.atI e3
            exact ix_list value slice pins s σ H _ _ v u Q I rx ry ⟨l, vs, i, w, rfl, rfl, SqL.of h1, q1, p.here r q2⟩ hs
    · exact p.elim
theorem pe_item {a b : Expr} {pos : Pos} {fa fb : Env → M D} (hu : X.A.units + 64 + 8 < cLine) (ha : PE X a (rdE X.K ca W fa)) (hb : PE X b (rdE X.K ca W fb)) (hs : PlainIx b) :
    PE X (.Subscript a b pos) (rdE X.K ca W fun env => (fa env).bind fun x => (fb env).bind fun y => item x y) := by
  refine ⟨fun pins s σ H Q I q => Subscript_ (binT ha hb I q.two fun v u s2 x y H2 I2 rx ry z => ?_)⟩
  obtain ⟨m2, st2, dx, dy, r1, r2, r3, p⟩ := z
  exact ix_item hu I2 rx ry r1 r2 r3 p (hs _ _)
end
end PV
end
section
set_option Elab.async false
set_option linter.all false
set_option maxRecDepth 100000
set_option maxHeartbeats 1000000
/-! FB11: slices; names, constants, not, and, or, if; displays. -/
namespace PV
open PySem PySem.Spec PyProof.Rows L2
section
variable {X : Cx} {ca : Nat → Addr} {W : WX}
theorem cutIx_eq (n d : Nat) (o : Option Int) : cutIx n d o = HT.sIx n d o := by cases o <;> rfl
theorem cut_eq (vs : List V) (lo hi : Option Int) : cut vs lo hi = cutV vs lo hi := by
  unfold cut cutV
  rw [cutIx_eq, cutIx_eq]
theorem RDs.drop {K : PySem.W.Frag} {m : Mp} {H : Hp} : ∀ {ds : List D} {vs : List V} (n : Nat), RDs K ca m H ds vs → RDs K ca m H (ds.drop n) (vs.drop n)
  | _, _, 0, h => h
  | _, _, _ + 1, .nil => .nil
  | _, _, n + 1, .cons _ r => RDs.drop n r
theorem RDs.take {K : PySem.W.Frag} {m : Mp} {H : Hp} : ∀ {ds : List D} {vs : List V} (n : Nat), RDs K ca m H ds vs → RDs K ca m H (ds.take n) (vs.take n)
  | _, _, 0, _ => .nil
  | _, _, _ + 1, .nil => .nil
  | _, _, n + 1, .cons h r => .cons h (RDs.take n r)
theorem RDs.cut {K : PySem.W.Frag} {m : Mp} {H : Hp} {ds : List D} {vs : List V} (lo hi : Option Int) (h : RDs K ca m H ds vs) : RDs K ca m H (cut ds lo hi) (cutV vs lo hi) := by
  rw [← cut_eq]
  unfold PV.cut
  rw [h.len]
  exact (h.drop _).take _
theorem cut_len {α : Type} (xs : List α) (lo hi : Option Int) : (cut xs lo hi).length ≤ xs.length := by
  unfold cut
  rw [List.length_take, List.length_drop]
  omega
theorem okS_sub {z : Str} {l : List Nat} (h : okS z = true) (hl : ∀ c ∈ l, c ∈ z.cps.toList) (hn : l.length ≤ z.cps.size) : okS (strOf l) = true := by
  have h1 := okS.ok h
  have h2 := of_decide_eq_true (Bool.and_eq_true_iff.mp h).2
  unfold okS
  rw [Bool.and_eq_true]
  refine ⟨?_, decide_eq_true ?_⟩
  · unfold PyData.strOk strOf at *
    rw [← Array.all_toList] at h1 ⊢
    exact List.all_eq_true.mpr fun c hc => List.all_eq_true.mp h1 c (hl c (by simpa using hc))
  · unfold strOf
    simp
    omega
theorem cut_sub {α : Type} {xs : List α} {lo hi : Option Int} {c : α} (h : c ∈ cut xs lo hi) : c ∈ xs := List.mem_of_mem_drop (List.mem_of_mem_take h)
theorem cut_whole {α : Type} (xs : List α) {lo hi : Option Int} (h : HT.sIx xs.length 0 lo = 0 ∧ HT.sIx xs.length xs.length hi = xs.length) : cut xs lo hi = xs := by
  unfold cut
  rw [cutIx_eq, cutIx_eq, h.1, h.2]
  simp
theorem slice_r {mu : Bool} {pins : List (Addr × Obj)} {s : Shared} {σ σ' : L2.St} {H : Hp} {x : V} {v vl vu : Value} {lo hi : Option Int} {sl : Addr} {Q : VK} {m : Mp} {st : Sto} {a : D} (I : Inv X pins σ H s) (rx : RelV x v) (hs : s.heap.IsSliceOf sl vl vu .none) (pl : IsPart vl lo) (pu : IsPart vu hi)
    (r : RS X.K ca m H st) (ra : RD X.K ca m H a x) (p : Post X.K ca W σ' m H (slice mu a lo hi st) Q) : ∃ T id, typeLookup (.type T) "__getitem__" = pure (some (.builtin id)) ∧ s.TypeIs v T ∧ wpAny (model X.prog X.w) X.A (getItem v (.ref sl)) (EP X pins σ Q) X.xe s := by
  unfold slice at p
  split at p
  · rename_i z
    cases ra with
    | v ra =>
      cases ra with
      | str _ hz =>
        refine C8.sl_txt pins s σ H _ v vl vu lo hi sl Q I rx hs pl pu ⟨z, rfl, okS.len hz, ?_⟩
        rw [← C8.cutS_slice]
        have e : cutS z lo hi = strOf (cut z.cps.toList lo hi) := by
          unfold cutS strOf cut
          simp only [cutIx_eq, Array.length_toList, Str.length]
        rw [e]
        refine p.here r (.v (.str _ (okS_sub hz (fun c hc => cut_sub hc) ?_)))
        have := cut_len z.cps.toList lo hi
        simpa using this
  · cases e : asTup a with
    | some ds =>
      rw [e] at p
      obtain ⟨l, vs, rfl, h1, h2, h3⟩ := RD.tupI e ra
      refine sl_tupA pins s σ H _ v vl vu lo hi sl Q I rx hs pl pu ⟨l, vs, rfl, SqT.of h1, fun w => ?_, fun _ q hq => ?_⟩
      · rw [← h3.len] at w
        have p2 : Post X.K ca W σ' m H (.ok (mkT (cut ds lo hi)) st) Q := p
        rw [cut_whole ds w] at p2
        exact p2.here r (mkT_at r h1 h2 h3)
      · obtain ⟨n1, n2, n3⟩ := mkT_new r (h3.cut lo hi) (Nat.le_trans (cut_len ds lo hi) h2) hq
        exact p _ _ _ n1 n2 n3
    | none =>
      rw [e] at p
      cases e2 : asList st a with
      | none => rw [e2] at p; exact p.elim
      | some ds =>
        rw [e2] at p
        obtain ⟨l, vs, rfl, h1, h2, h3⟩ := RD.lstI r e2 ra
        exact sl_list pins s σ H _ v vl vu lo hi sl Q I rx hs pl pu ⟨l, vs, rfl, SqL.of h1, fun q hq => mkL_new r (h3.cut lo hi) (Nat.le_trans (cut_len ds lo hi) h2) hq p⟩
/-- a bound of a slice -/
def rdO (K : PySem.W.Frag) (ca : Nat → Addr) (W : WX) (f : Env → M (Option Int)) : TO := fun σ H Q => ∃ m st env, RS K ca m H st ∧ RE K ca m H env σ ∧ PostG K ca W σ m H (f env st) fun o _ H' _ => Q o H'
theorem po_n : PO X none (rdO X.K ca W fun _ => .ret none) := by
  refine ⟨fun pins s σ H Q I ⟨m, st, env, r, e, p⟩ => po_none.run pins s σ H Q I ?_⟩
  exact p m H r (Ext.refl m H)
theorem asI_some {d : D} {i : Int} (h : asI d = some i) : d = .v (.int i) := by
  unfold asI at h
  split at h <;> cases h
  rfl
theorem asB_some {d : D} {i : Bool} (h : asB d = some i) : d = .v (.bl i) := by
  unfold asB at h
  split at h <;> cases h
  rfl
theorem po_s {e : Expr} {f : Env → M D} (h : PE X e (rdE X.K ca W f)) : PO X (some e) (rdO X.K ca W fun env => (f env).bind fun x => (M.opt (asI x)).bind fun i => .ret (some i)) := by
  refine ⟨fun pins s σ H Q I ⟨m, st, env, r, e, p⟩ => (po_some h).run pins s σ H Q I ?_⟩
  refine ⟨m, st, env, r, e, (PostG.bind p).mono fun v H1 ⟨m1, st1, d, r1, d1, ex, p1⟩ => ?_⟩
  cases q : asI d with
  | none => rw [q] at p1; exact p1.elim
  | some i =>
    rw [q] at p1
    have := asI_some q
    subst this
    cases d1 with
    | v d1 => cases d1; exact ⟨i, rfl, p1 m1 H1 r1 (Ext.refl _ _)⟩
theorem RS.kept {K : PySem.W.Frag} {m : Mp} {H : Hp} {st : Sto} (r : RS K ca m H st) : RS K ca m H st := r
theorem pe_sl {mu : Bool} {e : Expr} {lo hi : Option Expr} {f : Env → M D} {fl fh : Env → M (Option Int)} {p2 pos : Pos} (he : PE X e (rdE X.K ca W f)) (hl : PO X lo (rdO X.K ca W fl)) (hh : PO X hi (rdO X.K ca W fh)) :
    PE X (.Subscript e (.Slice lo hi none p2) pos) (rdE X.K ca W fun env => (f env).bind fun x => (fl env).bind fun l => (fh env).bind fun h => slice mu x l h) := by
  have hr : SlR X (fun x l h H Q => ∃ σ m st d, RS X.K ca m H st ∧ RD X.K ca m H d x ∧ Post X.K ca W σ m H (slice mu d l h st) Q) := by
    intro pins s σ H x v vl vu l h sl Q I rx hs pl pu ⟨σ', m, st, d, r, rd, p⟩
    exact slice_r I rx hs pl pu r rd p
  refine (pe_slice hr he hl hh).imp fun σ H Q ⟨m, st, env, r, e, p⟩ => ?_
  refine ⟨m, st, env, r, e, (Post.bind p).mono fun v H1 ⟨m1, st1, d, r1, d1, ex, p1⟩ => ?_⟩
  refine ⟨m1, st1, env, r1, e.ext ex, (Post.bindG p1).mono fun l m2 H2 st2 ⟨r2, e2, p2⟩ => ?_⟩
  exact ⟨m2, st2, env, r2, (e.ext ex).ext e2, (Post.bindG p2).mono fun h m3 H3 st3 ⟨r3, e3, p3⟩ => ⟨σ, m3, st3, d, r3, (d1.ext e2).ext e3, p3⟩⟩
end
end PV
end
section
set_option Elab.async false
set_option linter.all false
set_option maxRecDepth 100000
set_option maxHeartbeats 1000000
/-! FB12: names, constants, tests, not, and, or, if, comparisons. -/
namespace PV
open PySem PySem.Spec PyProof.Rows L2
section
variable {X : Cx} {ca : Nat → Addr} {W : WX} {P : Pr} {F : Bool → Nat → List D → M D}
theorem pe_v {i : Nat} {x : Str} {pos : Pos} (hN : X.N[i]? = some x) (hv : Vis X.env.scope x) (hd : (x == ("__debug__" : Str)) = false) (hc : (x == ("__classdict__" : Str)) = false) : PE X (.Name x pos) (rdE X.K ca W fun env => M.opt ((env[i]?).bind id)) := by
  refine (pe_var hN hv hd hc).imp fun σ H Q ⟨m, st, env, r, e, p⟩ => ?_
  obtain ⟨d, q, p⟩ := optv_ok p
  cases z : env[i]? with
  | none => rw [z] at q; cases q
  | some o =>
    rw [z] at q
    have eo : o = some d := q
    subst eo
    obtain ⟨v, h1, h2⟩ := e.2 i d z
    exact ⟨v, h1, p.here r h2⟩
theorem pe_val {e : Expr} {t : T} {v : V} (h : PE X e (tC v)) (hv : ∀ m H, RT X.K ca m H t v) : PE X e (rdE X.K ca W fun _ => .ret (.v t)) :=
  h.imp fun σ H Q ⟨m, st, env, r, e, p⟩ => Post.here p r (.v (hv m H))
theorem pe_i {i : Int} {j pos} : PE X (.Constant (.int i) j pos) (rdE X.K ca W fun _ => .ret (.v (.int i))) := pe_val pe_int fun _ _ => .int i
theorem pe_b {b : Bool} {j pos} : PE X (.Constant (.bool b) j pos) (rdE X.K ca W fun _ => .ret (.v (.bl b))) := pe_val pe_bl fun _ _ => .bl b
theorem pe_n {j pos} : PE X (.Constant .none j pos) (rdE X.K ca W fun _ => .ret (.v .non)) := pe_val pe_non fun _ _ => .non
theorem pe_s {x : Str} {j pos} (h : okS x = true) : PE X (.Constant (.str x) j pos) (rdE X.K ca W fun _ => .ret (.v (.str x))) := pe_val pe_str fun _ _ => .str x h
/-- a module's constant -/
def GlobOk (X : Cx) (t : T) (x : Str) : Prop := ∃ u v, X.mg x = some u ∧ RelV v u ∧ ((∃ i, t = .int i ∧ v = .int i) ∨ ∃ z, t = .str z ∧ v = .str z ∧ okS z = true)
theorem pe_g {x : Str} {t : T} {pos : Pos} (hg : Gl X x) (h : GlobOk X t x) (hd : (x == ("__debug__" : Str)) = false) : PE X (.Name x pos) (rdE X.K ca W fun _ => M.opt ((some t).map .v)) := by
  obtain ⟨u, v, h1, h2, h3⟩ := h
  refine pe_val (pe_glob hg h1 h2 hd) fun m H => ?_
  rcases h3 with ⟨i, rfl, rfl⟩ | ⟨z, rfl, rfl, o⟩
  · exact .int i
  · exact .str z o
/-! ### tests -/
theorem rdT_of {f : Env → M D} {σ : L2.St} {H : Hp} {Q : Bool → Hp → Prop} (h : rdT X.K ca W (fun env => (f env).bind testOf) σ H Q) : tB (rdE X.K ca W f) σ H Q := by
  obtain ⟨m, st, env, r, e, p⟩ := h
  refine ⟨m, st, env, r, e, (PostG.bind p).mono fun v H1 ⟨m1, st1, d, r1, d1, ex, p1⟩ => ?_⟩
  unfold testOf at p1
  cases q : asB d with
  | none => rw [q] at p1; exact p1.elim
  | some b =>
    rw [q] at p1
    have := asB_some q
    subst this
    cases d1 with
    | v d1 => cases d1; exact ⟨b, rfl, p1 m1 H1 r1 (Ext.refl _ _)⟩
theorem pt_v {e : Expr} {f : Env → M D} (h : PE X e (rdE X.K ca W f)) (he : ∀ whole, isTrue e X.env whole = (do let v ← whole; standAt e.pos; holding [v] (truthy v))) : PT X e (rdT X.K ca W fun env => (f env).bind testOf) :=
  (pt_val h he).imp fun σ H Q q => rdT_of q
theorem PostG.testB {σ : L2.St} {m : Mp} {H : Hp} {f : M D} {st : Sto} {α : Type} {g : Bool → M α} {Q : α → Mp → Hp → Sto → Prop} (p : PostG X.K ca W σ m H (((f.bind testOf).bind g) st) Q) :
    PostG X.K ca W σ m H ((f.bind testOf) st) fun b m1 H1 st1 => RS X.K ca m1 H1 st1 ∧ Ext m H m1 H1 ∧ PostG X.K ca W σ m1 H1 (g b st1) Q := by
  generalize f.bind testOf = t at p ⊢
  unfold M.bind at p
  cases h : t st with
  | ok d st1 =>
    rw [h] at p
    exact fun m' H' a c => ⟨a, c, p.at c⟩
  | ex c fs st1 => rw [h] at p; exact p
  | bad => rw [h] at p; exact p
theorem bind_assoc' {α β γ : Type} (f : M α) (g : α → M β) (k : β → M γ) : (f.bind g).bind k = f.bind fun x => (g x).bind k := by
  funext s
  unfold M.bind
  cases f s <;> rfl
theorem rdT.split {σ : L2.St} {H : Hp} {f : Env → M D} {g : Env → Bool → M D} {Q : VK} (h : rdE X.K ca W (fun env => (f env).bind fun x => (testOf x).bind (g env)) σ H Q) :
    rdT X.K ca W (fun env => (f env).bind testOf) σ H fun b H1 => rdE X.K ca W (fun env => g env b) σ H1 Q := by
  obtain ⟨m, st, env, r, e, p⟩ := h
  refine ⟨m, st, env, r, e, ?_⟩
  dsimp only at p
  rw [show (fun x => (testOf x).bind (g env)) = fun x => (testOf x).bind (g env) from rfl, ← bind_assoc'] at p
  exact (Post.bindG p).mono fun b m1 H1 st1 ⟨r1, ex, p1⟩ => ⟨m1, st1, env, r1, e.ext ex, p1⟩
theorem rdT.splitG {σ : L2.St} {H : Hp} {f : Env → M D} {g : Env → Bool → M Bool} {Q : Bool → Hp → Prop} (h : rdT X.K ca W (fun env => (f env).bind fun x => (testOf x).bind (g env)) σ H Q) :
    rdT X.K ca W (fun env => (f env).bind testOf) σ H fun b H1 => rdT X.K ca W (fun env => g env b) σ H1 Q := by
  obtain ⟨m, st, env, r, e, p⟩ := h
  refine ⟨m, st, env, r, e, ?_⟩
  dsimp only at p
  rw [← bind_assoc'] at p
  exact (PostG.testB p).mono fun b m1 H1 st1 ⟨r1, ex, p1⟩ => ⟨m1, st1, env, r1, e.ext ex, p1⟩
theorem rdT.b {σ : L2.St} {H : Hp} {b : Bool} {Q : Bool → Hp → Prop} (h : rdT X.K ca W (fun _ => .ret b) σ H Q) : Q b H := by
  obtain ⟨m, st, env, r, e, p⟩ := h
  exact p m H r (Ext.refl _ _)
theorem rdE.b {σ : L2.St} {H : Hp} {b : Bool} {Q : VK} (h : rdE X.K ca W (fun _ => .ret (.v (.bl b))) σ H Q) : Q (.bl b) H := by
  obtain ⟨m, st, env, r, e, p⟩ := h
  exact Post.here p r (.v (.bl b))
theorem testOf_b (b : Bool) : (testOf (.v (.bl b))) = (.ret b : M Bool) := rfl
/-! ### not -/
theorem not_eq (f : M D) : ((f.bind fun x => (testOf x).bind fun b => .ret (.v (.bl (!b)))).bind testOf) = f.bind fun x => (testOf x).bind fun b => .ret (!b) := by
  rw [bind_assoc']
  congr 1
  funext x
  rw [bind_assoc']
  rfl
theorem pe_no {a : Expr} {f : Env → M D} {pos : Pos} (h : PE X a (rdE X.K ca W f)) : PE X (.UnaryOp .Not a pos) (rdE X.K ca W fun env => (f env).bind fun x => (testOf x).bind fun b => .ret (.v (.bl (!b)))) := by
  refine (pe_not h).imp fun σ H Q q => ?_
  have z := rdT_of (rdT.split q)
  obtain ⟨m, st, env, r, e, p⟩ := z
  exact ⟨m, st, env, r, e, p.mono fun v H1 ⟨c, h1, h2⟩ => ⟨c, h1, h2.b⟩⟩
theorem pt_no {a : Expr} {f : Env → M D} {pos : Pos} (h : PT X a (rdT X.K ca W fun env => (f env).bind testOf)) : PT X (.UnaryOp .Not a pos) (rdT X.K ca W fun env => ((f env).bind fun x => (testOf x).bind fun b => .ret (.v (.bl (!b)))).bind testOf) := by
  refine (pt_not h).imp fun σ H Q q => ?_
  have e : (fun env => ((f env).bind fun x => (testOf x).bind fun b => (.ret (.v (.bl (!b))) : M D)).bind testOf) = fun env => (f env).bind fun x => (testOf x).bind fun b => .ret (!b) := funext fun env => not_eq (f env)
  rw [e] at q
  have z := rdT.splitG q
  obtain ⟨m, st, env, r, e, p⟩ := z
  exact ⟨m, st, env, r, e, p.mono fun b m1 H1 st1 h => h.b⟩
/-! ### and, or -/
def andF (f g : M D) : M D := f.bind fun x => (testOf x).bind fun c => match c with
  | true => g
  | false => .ret (.v (.bl false))
def orF (f g : M D) : M D := f.bind fun x => (testOf x).bind fun c => match c with
  | true => .ret (.v (.bl true))
  | false => g
theorem pe_an {a b : Expr} {rest : List Expr} {f g : Env → M D} {pos : Pos} (h : PE X a (rdE X.K ca W f)) (h2 : PE X (.BoolOp .And (b :: rest) pos) (rdE X.K ca W g)) : PE X (.BoolOp .And (a :: b :: rest) pos) (rdE X.K ca W fun env => andF (f env) (g env)) := by
  refine (pe_and h h2).imp fun σ H Q q => ?_
  have z := rdT_of (rdT.split (g := fun env c => match c with | true => g env | false => .ret (.v (.bl false))) q)
  obtain ⟨m, st, env, r, e, p⟩ := z
  refine ⟨m, st, env, r, e, p.mono fun v H1 ⟨c, h1, h2⟩ => ⟨c, h1, ?_⟩⟩
  cases c with
  | true => exact h2
  | false => exact h2.b
theorem pe_o {a b : Expr} {rest : List Expr} {f g : Env → M D} {pos : Pos} (h : PE X a (rdE X.K ca W f)) (h2 : PE X (.BoolOp .Or (b :: rest) pos) (rdE X.K ca W g)) : PE X (.BoolOp .Or (a :: b :: rest) pos) (rdE X.K ca W fun env => orF (f env) (g env)) := by
  refine (pe_or h h2).imp fun σ H Q q => ?_
  have z := rdT_of (rdT.split (g := fun env c => match c with | true => .ret (.v (.bl true)) | false => g env) q)
  obtain ⟨m, st, env, r, e, p⟩ := z
  refine ⟨m, st, env, r, e, p.mono fun v H1 ⟨c, h1, h2⟩ => ⟨c, h1, ?_⟩⟩
  cases c with
  | true => exact h2.b
  | false => exact h2
theorem and_test (f g : M D) : (andF f g).bind testOf = f.bind fun x => (testOf x).bind fun c => match c with
  | true => g.bind testOf
  | false => .ret false := by
  unfold andF
  rw [bind_assoc']
  congr 1
  funext x
  rw [bind_assoc']
  congr 1
  funext c
  cases c <;> rfl
theorem or_test (f g : M D) : (orF f g).bind testOf = f.bind fun x => (testOf x).bind fun c => match c with
  | true => .ret true
  | false => g.bind testOf := by
  unfold orF
  rw [bind_assoc']
  congr 1
  funext x
  rw [bind_assoc']
  congr 1
  funext c
  cases c <;> rfl
theorem _root_.L2.PW.imp {X : Cx} {e : Expr} {t t' : TT} (h : PW X e t) (i : ∀ σ H Q, t' σ H Q → t σ H Q) : PW X e t' := ⟨fun wh pins s σ H Q I q => h.run wh pins s σ H Q I (i σ H Q q)⟩
theorem pw_an {a b : Expr} {rest : List Expr} {f g : Env → M D} {pos : Pos} (h : PT X a (rdT X.K ca W fun env => (f env).bind testOf)) (h2 : PW X (.BoolOp .And (b :: rest) pos) (rdT X.K ca W fun env => (g env).bind testOf)) :
    PW X (.BoolOp .And (a :: b :: rest) pos) (rdT X.K ca W fun env => (andF (f env) (g env)).bind testOf) := by
  refine (pw_and h h2).imp fun σ H Q q => ?_
  simp only [and_test] at q
  have z := rdT.splitG (g := fun env c => match c with | true => (g env).bind testOf | false => .ret false) q
  obtain ⟨m, st, env, r, e, p⟩ := z
  refine ⟨m, st, env, r, e, p.mono fun c m1 H1 st1 h => ?_⟩
  cases c with
  | true => exact h
  | false => exact h.b
theorem pw_o {a b : Expr} {rest : List Expr} {f g : Env → M D} {pos : Pos} (h : PT X a (rdT X.K ca W fun env => (f env).bind testOf)) (h2 : PW X (.BoolOp .Or (b :: rest) pos) (rdT X.K ca W fun env => (g env).bind testOf)) :
    PW X (.BoolOp .Or (a :: b :: rest) pos) (rdT X.K ca W fun env => (orF (f env) (g env)).bind testOf) := by
  refine (pw_or h h2).imp fun σ H Q q => ?_
  simp only [or_test] at q
  have z := rdT.splitG (g := fun env c => match c with | true => .ret true | false => (g env).bind testOf) q
  obtain ⟨m, st, env, r, e, p⟩ := z
  refine ⟨m, st, env, r, e, p.mono fun c m1 H1 st1 h => ?_⟩
  cases c with
  | true => exact h.b
  | false => exact h
/-! ### a if c else b -/
def iteF (c f g : M D) : M D := c.bind fun x => (testOf x).bind fun k => match k with
  | true => f
  | false => g
theorem pe_if {c a b : Expr} {fc f g : Env → M D} {pos : Pos} (hc : PT X c (rdT X.K ca W fun env => (fc env).bind testOf)) (h : PE X a (rdE X.K ca W f)) (h2 : PE X b (rdE X.K ca W g)) : PE X (.IfExp c a b pos) (rdE X.K ca W fun env => iteF (fc env) (f env) (g env)) := by
  refine (pe_ifExp hc h h2).imp fun σ H Q q => ?_
  have z := rdT.split (g := fun env k => match k with | true => f env | false => g env) q
  obtain ⟨m, st, env, r, e, p⟩ := z
  refine ⟨m, st, env, r, e, p.mono fun k m1 H1 st1 h => ?_⟩
  cases k with
  | true => exact h
  | false => exact h
/-! ### comparisons -/
theorem pc_of {op : CmpOp} {a b : Expr} {fa fb : Env → M D} {g : D → D → M D} (h : Op2 X ca W (compareOp op) g) (ha : PE X a (rdE X.K ca W fa)) (hb : PE X b (rdE X.K ca W fb)) : PC X op a b (rdE X.K ca W fun env => (fa env).bind fun x => (fb env).bind fun y => g x y) := by
  refine ⟨fun pins s σ H Q I q => bin ha hb I q.two fun v u s2 x y H2 I2 rx ry z => ?_⟩
  obtain ⟨m2, st2, dx, dy, r1, r2, r3, p⟩ := z
  exact h pins s2 σ H2 x y v u Q m2 st2 dx dy I2 rx ry r1 r2 r3 p
theorem pt_c {op : CmpOp} {a b : Expr} {pos : Pos} {f : Env → M D} (h : PC X op a b (rdE X.K ca W f)) (h1 : behindInMarks op b = false) : PT X (.Compare a [op] [b] pos) (rdT X.K ca W fun env => (f env).bind testOf) :=
  (pt_cmp h h1).imp fun σ H Q q => rdT_of q
def chainF (fa fb fc : M D) (g h : D → D → M D) : M D := fa.bind fun x => fb.bind fun y => (g x y).bind fun r => (testOf r).bind fun k => match k with
  | true => fc.bind fun z => h y z
  | false => .ret (.v (.bl false))
/-- an operation that raises nothing -/
def Quiet (g : D → D → M D) : Prop := ∀ a b st c fs s, g a b st ≠ .ex c fs s
theorem quiet_le : Quiet (cmpop P F .le) := fun a b st c fs s h => by
  unfold cmpop at h
  dsimp only at h
  split at h <;> cases h
theorem quiet_lt : Quiet (cmpop P F .lt) := fun a b st c fs s h => by
  unfold cmpop at h
  dsimp only at h
  split at h <;> cases h
def rQ (K : PySem.W.Frag) (ca : Nat → Addr) (g : D → D → M D) : R2 := fun x y H Q => ∃ m st a b, RS K ca m H st ∧ RD K ca m H a x ∧ RD K ca m H b y ∧ ∃ d st', g a b st = .ok d st' ∧ ∀ m' H' v, RS K ca m' H' st' → RD K ca m' H' d v → Ext m H m' H' → Q v H'
theorem Op2.quiet {f : Value → Value → Sem Value} {g : D → D → M D} (h : Op2 X ca W f g) : OpR X f (rQ X.K ca g) := by
  intro pins s σ H x y v u Q I rx ry ⟨m, st, a, b, r, ra, rb, d, st', e, q⟩
  refine h pins s σ H x y v u Q m st a b I rx ry r ra rb ?_
  rw [e]
  exact q
theorem Post.quiet {σ : L2.St} {m : Mp} {H : Hp} {g : D → D → M D} {a b : D} {st : Sto} {Q : VK} (hq : Quiet g) (p : Post X.K ca W σ m H (g a b st) Q) : ∃ d st', g a b st = .ok d st' ∧ ∀ m' H' v, RS X.K ca m' H' st' → RD X.K ca m' H' d v → Ext m H m' H' → Q v H' := by
  cases e : g a b st with
  | ok d st' => rw [e] at p; exact ⟨d, st', rfl, p⟩
  | ex c fs s => exact (hq a b st c fs s e).elim
  | bad => rw [e] at p; exact p.elim
theorem chain_rd {fa fb fc : Env → M D} {g h : D → D → M D} (qg : Quiet g) (qh : Quiet h) {σ : L2.St} {H : Hp} {Q : VK} (z : rdE X.K ca W (fun env => chainF (fa env) (fb env) (fc env) g h) σ H Q) :
    tChain (rQ X.K ca g) (rQ X.K ca h) (rdE X.K ca W fa) (rdE X.K ca W fb) (rdE X.K ca W fc) σ H Q := by
  obtain ⟨m, st, env, r, e, p⟩ := z
  refine ⟨m, st, env, r, e, (Post.bind p).mono fun v H1 ⟨m1, st1, x, r1, d1, ex, p1⟩ => ?_⟩
  refine ⟨m1, st1, env, r1, e.ext ex, (Post.bind p1).mono fun w H2 ⟨m2, st2, y, r2, d2, ex2, p2⟩ => ?_⟩
  refine ⟨m2, st2, x, y, r2, d1.ext ex2, d2, ?_⟩
  obtain ⟨d, st3, eg, k3⟩ := Post.quiet (g := fun a b => g a b) (a := x) (b := y) qg (Post.bind p2)
  refine ⟨d, st3, eg, fun m3 H3 v3 r3 d3 ex3 => ?_⟩
  obtain ⟨m4, st4, d', r4, d4, ex4, p4⟩ := k3 m3 H3 v3 r3 d3 ex3
  unfold testOf at p4
  obtain ⟨k, ek, p4⟩ := opt_ok p4
  have := asB_some ek
  subst this
  cases d4 with
  | v d4 =>
    cases d4
    refine ⟨k, rfl, ?_⟩
    cases k with
    | true =>
      refine ⟨m4, st4, env, r4, ((e.ext ex).ext ex2).ext ex4, (Post.bind p4).mono fun u H5 ⟨m5, st5, z, r5, d5, ex5, p5⟩ => ?_⟩
      exact ⟨m5, st5, y, z, r5, (d2.ext ex4).ext ex5, d5, Post.quiet qh p5⟩
    | false => exact p4.here r4 (.v (.bl false))
theorem pe_ch {op op' : CmpOp} {a b c : Expr} {pos : Pos} {fa fb fc : Env → M D} {g h : D → D → M D} (hg : Op2 X ca W (compareOp op) g) (hh : Op2 X ca W (compareOp op') h) (qg : Quiet g) (qh : Quiet h) (ha : PE X a (rdE X.K ca W fa)) (hb : PE X b (rdE X.K ca W fb)) (hc : PE X c (rdE X.K ca W fc)) (hm : lastMarks [op, op'] [b, c] = false) :
    PE X (.Compare a [op, op'] [b, c] pos) (rdE X.K ca W fun env => chainF (fa env) (fb env) (fc env) g h) :=
  (pe_chain hg.quiet hh.quiet ha hb hc hm).imp fun σ H Q q => chain_rd qg qh q
theorem pt_ch {op op' : CmpOp} {a b c : Expr} {pos : Pos} {fa fb fc : Env → M D} {g h : D → D → M D} (hg : Op2 X ca W (compareOp op) g) (hh : Op2 X ca W (compareOp op') h) (qg : Quiet g) (qh : Quiet h) (ha : PE X a (rdE X.K ca W fa)) (hb : PE X b (rdE X.K ca W fb)) (hc : PE X c (rdE X.K ca W fc)) (hm : lastMarks [op, op'] [b, c] = false) :
    PT X (.Compare a [op, op'] [b, c] pos) (rdT X.K ca W fun env => (chainF (fa env) (fb env) (fc env) g h).bind testOf) :=
  (pt_chain hg.quiet hh.quiet ha hb hc hm).imp fun σ H Q q => by
    have z := rdT_of q
    have z2 := chain_rd qg qh z
    exact z2
end
end PV
end
section
set_option Elab.async false
set_option linter.all false
set_option maxRecDepth 100000
set_option maxHeartbeats 1000000
/-! FB13: argument lists, displays, calls of built-ins. -/
namespace PV
open PySem PySem.Spec PyProof.Rows L2
section
variable {X : Cx} {ca : Nat → Addr} {W : WX}
def notStar : Expr → Bool
  | .Starred .. => false
  | _ => true
theorem starEach_no {e : Expr} {es : List Expr} {env : PySem.Env} (h : notStar e = true) : starEach (e :: es) env = (false, eval e env) :: starEach es env := by
  cases e <;> first | rfl | (simp [notStar] at h)
theorem stars_no {pos : Pos} {env : PySem.Env} : ∀ {es : List Expr}, es.all notStar = true → (backTo pos (starEach es env)).any (·.1) = false
  | [], _ => rfl
  | e :: es, h => by
    simp only [List.all_cons, Bool.and_eq_true] at h
    rw [starEach_no h.1]
    show (false || (backTo pos (starEach es env)).any (·.1)) = false
    rw [stars_no h.2]
    rfl
theorem pa_n : PA X [] (rdL X.K ca W fun _ => .ret []) := by
  refine pa_nil.imp fun σ H Q ⟨m, st, env, r, e, p⟩ => ?_
  exact p m H [] r .nil (Ext.refl _ _)
theorem RDs.ext' {K : PySem.W.Frag} {m m' : Mp} {H H' : Hp} (e : Ext m H m' H') {ds : List D} {vs : List V} (h : RDs K ca m H ds vs) : RDs K ca m' H' ds vs := h.ext e
theorem pa_c {e : Expr} {es : List Expr} {f : Env → M D} {g : Env → M (List D)} (h : PE X e (rdE X.K ca W f)) (h2 : PA X es (rdL X.K ca W g)) (hs : notStar e = true) :
    PA X (e :: es) (rdL X.K ca W fun env => (f env).bind fun x => (g env).bind fun xs => .ret (x :: xs)) := by
  refine (pa_cons h h2 (starEach_no hs)).imp fun σ H Q ⟨m, st, env, r, e, p⟩ => ?_
  refine ⟨m, st, env, r, e, (PostL.bind p).mono fun v H1 ⟨m1, st1, d, r1, d1, ex, p1⟩ => ?_⟩
  refine ⟨m1, st1, env, r1, e.ext ex, (PostL.bindL p1).mono fun vs H2 ⟨m2, st2, ds, r2, d2, ex2, p2⟩ => ?_⟩
  exact p2 m2 H2 (v :: vs) r2 (.cons (d1.ext ex2) d2) (Ext.refl _ _)
/-- a starred item -/
theorem pa_st {e : Expr} {es : List Expr} {p : Pos} {f : Env → M D} {g : Env → M (List D)} (h : PE X e (rdE X.K ca W f)) (h2 : PA X es (rdL X.K ca W g)) :
    PA X (.Starred e p :: es) (rdL X.K ca W fun env => (f env).bind fun x s => match asSeq s x with
      | some ds => ((g env) s).bind fun xs => .ret (ds ++ xs)
      | none => .bad) := by
  refine (StX.pa_star h h2 rfl).imp fun σ H Q ⟨m, st, env, r, e, p⟩ => ?_
  refine ⟨m, st, env, r, e, (PostL.bind p).mono fun v H1 ⟨m1, st1, d, r1, d1, ex, p1⟩ => ?_⟩
  cases q : asSeq st1 d with
  | none => rw [q] at p1; exact p1.elim
  | some ds =>
    rw [q] at p1
    have fin : ∀ a vs, v = .ref a → (SqT X.K H1 a vs ∨ SqL X.K H1 a vs) → RDs X.K ca m1 H1 ds vs → ∃ p xs, v = V.ref p ∧ (SqT X.K H1 p xs ∨ SqL X.K H1 p xs) ∧ rdL X.K ca W g σ H1 fun ys H2 => Q (xs ++ ys) H2 := by
      intro a vs ev hs hd
      refine ⟨a, vs, ev, hs, m1, st1, env, r1, e.ext ex, (PostL.bindL (f := g env) p1).mono fun ws H2 ⟨m2, st2, es, r2, d2, ex2, p2⟩ => ?_⟩
      exact p2 m2 H2 (vs ++ ws) r2 ((hd.ext ex2).app d2) (Ext.refl _ _)
    unfold asSeq at q
    cases q1 : asTup d with
    | some ds' =>
      rw [q1] at q; cases q
      obtain ⟨a, vs, ev, h1, h2, h3⟩ := RD.tupI q1 d1
      exact fin a vs ev (.inl (SqT.of h1)) h3
    | none =>
      rw [q1] at q
      obtain ⟨a, vs, ev, h1, h2, h3⟩ := RD.lstI r1 q d1
      exact fin a vs ev (.inr (SqL.of h1)) h3
/-- how many there may be -/
def Few (f : Env → M (List D)) (g : List D → Bool) : Prop := ∀ env st ds st', f env st = .ok ds st' → g ds = true → ds.length ≤ sizeLine
theorem PostL.few {σ : L2.St} {m : Mp} {H : Hp} {f : Env → M (List D)} {env : Env} {st : Sto} {g : List D → Bool} {k : List D → M D} {Q : VK} (hf : Few f g) (p : Post X.K ca W σ m H (((f env).bind fun ds => (guardM (g ds)).bind fun _ => k ds) st) Q) :
    PostL X.K ca W σ m H ((f env) st) fun vs H1 => ∃ m1 st1 ds, RS X.K ca m1 H1 st1 ∧ RDs X.K ca m1 H1 ds vs ∧ Ext m H m1 H1 ∧ ds.length ≤ sizeLine ∧ Post X.K ca W σ m1 H1 (k ds st1) Q := by
  unfold M.bind at p
  cases h : f env st with
  | ok d st1 =>
    rw [h] at p
    have p' : Post X.K ca W σ m H ((guardM (g d) st1).bind fun _ => k d) Q := p
    obtain ⟨g1, p'⟩ := guard_ok (α := Unit) p'
    exact fun m' H' v a b c => ⟨m', st1, d, a, b, c, hf env st d st1 h g1, p'.at c⟩
  | ex c fs st1 => rw [h] at p; exact p
  | bad => rw [h] at p; exact p
theorem pe_tu {es : List Expr} {k : Nat} {pos : Pos} {f : Env → M (List D)} {g : List D → Bool} (h : PA X es (rdL X.K ca W f)) (hf : Few f g) : PE X (.Tuple es k pos) (rdE X.K ca W fun env => (f env).bind fun ds => (guardM (g ds)).bind fun _ => .ret (mkT ds)) := by
  refine (pe_tup h).imp fun σ H Q ⟨m, st, env, r, e, p⟩ => ?_
  refine ⟨m, st, env, r, e, (PostL.few hf p).mono fun vs H1 ⟨m1, st1, ds, r1, d1, ex, l, p1⟩ => ⟨by rw [← d1.len]; exact l, fun q hq => ?_⟩⟩
  obtain ⟨n1, n2, n3⟩ := mkT_new r1 d1 l hq
  exact p1 _ _ _ n1 n2 n3
theorem pe_li {mu : Bool} {es : List Expr} {pos : Pos} {f : Env → M (List D)} {g : List D → Bool} (h : PA X es (rdL X.K ca W f)) (hf : Few f g) : PE X (.List es pos) (rdE X.K ca W fun env => (f env).bind fun ds => (guardM (g ds)).bind fun _ => mkL mu ds) := by
  refine (pe_lst h).imp fun σ H Q ⟨m, st, env, r, e, p⟩ => ?_
  exact ⟨m, st, env, r, e, (PostL.few hf p).mono fun vs H1 ⟨m1, st1, ds, r1, d1, ex, l, p1⟩ => ⟨by rw [← d1.len]; exact l, fun q hq => mkL_new r1 d1 l hq p1⟩⟩
/-! ### built-ins called -/
def rBq (K : PySem.W.Frag) (ca : Nat → Addr) (g : List D → M D) : List V → Hp → VK → Prop := fun vs H Q => ∃ m st ds, RS K ca m H st ∧ RDs K ca m H ds vs ∧ ∃ d st', g ds st = .ok d st' ∧ ∀ m' H' v, RS K ca m' H' st' → RD K ca m' H' d v → Ext m H m' H' → Q v H'
def QuietL (g : List D → M D) : Prop := ∀ ds st c fs s, g ds st ≠ .ex c fs s
theorem mkL_q {mu : Bool} {ds : List D} {st : Sto} {c fs s} : mkL mu ds st ≠ .ex c fs s := fun h => by
  unfold mkL at h
  cases mu with
  | true => cases h
  | false => cases q : allD ds <;> (rw [q] at h; cases h)
theorem mkK_q {mu tk : Bool} {ds : List (T × D)} {st : Sto} {c fs s} : mkK mu tk ds st ≠ .ex c fs s := fun h => by
  unfold mkK at h
  cases mu with
  | true => cases h
  | false => cases q : allV ds <;> (rw [q] at h; cases h)
theorem guard_q {b : Bool} {α : Type} {k : Unit → M α} {st : Sto} {c fs s} (h : (guardM b st).bind k = .ex c fs s) : k () st = .ex c fs s := by
  cases b with
  | true => exact h
  | false => cases h
theorem optM_q {α β : Type} {o : Option α} {k : α → M β} {st : Sto} {c fs s} (h : (M.opt o st).bind k = .ex c fs s) : ∃ a, k a st = .ex c fs s := by
  cases o with
  | some a => exact ⟨a, h⟩
  | none => cases h
abbrev QuietD (g : D → M D) : Prop := ∀ d st c fs s, g d st ≠ .ex c fs s
theorem one1_q {g : D → M D} (h : QuietD g) : QuietL (one1 g) := fun ds st c fs s e => by
  unfold one1 at e
  split at e
  · exact h _ _ _ _ _ e
  · cases e
theorem biNew_q {g : M D} (h : ∀ st c fs s, g st ≠ .ex c fs s) : QuietL (biNew g) := fun ds st c fs s e => by
  unfold biNew at e
  split at e
  · exact h _ _ _ _ e
  · cases e
theorem biOf_q {g : List Int → Option Int} : QuietD (biOf g) := fun ds st c fs s e => by
  unfold biOf at e
  split at e <;> cases e
theorem dictOf_q {m : Bool} : QuietD (dictOf m) := fun ds st c fs s h => by
  unfold dictOf at h
  split at h
  · exact mkK_q h
  · cases h
  · split at h
    · obtain ⟨_, z⟩ := optM_q h; exact mkK_q z
    · cases h
theorem builtin_q {mu : Bool} {b : Bi} : QuietL (builtin mu b) := by
  cases b
  case len => exact one1_q fun d st c fs s h => by unfold biLen at h; (repeat (first | cases h | (split at h)))
  case int => exact one1_q fun d st c fs s h => by unfold biInt at h; (repeat (first | cases h | (split at h)))
  case abs => exact one1_q fun d st c fs s h => by unfold biAbs at h; (repeat (first | cases h | (split at h)))
  case list => exact one1_q fun d st c fs s h => by unfold biList at h; split at h <;> first | exact mkL_q h | cases h
  case list0 => exact biNew_q fun st c fs s h => mkL_q h
  case dict0 => exact biNew_q fun st c fs s h => mkK_q h
  case dict0T => exact biNew_q fun st c fs s h => mkK_q h
  case tuple => exact one1_q fun d st c fs s h => by unfold biTuple at h; (repeat (first | cases h | (split at h)))
  case dict => exact one1_q dictOf_q
  case str => exact one1_q fun d st c fs s h => by unfold biStr at h; split at h <;> first | exact absurd (guard_q h) (by intro z; cases z) | cases h
  case repr => exact one1_q fun d st c fs s h => by unfold biRepr at h; split at h <;> first | exact absurd (guard_q h) (by intro z; cases z) | cases h
  case sorted => exact one1_q fun d st c fs s h => by unfold biSorted at h; split at h <;> first | (split at h <;> first | exact mkL_q h | cases h) | cases h
  case sum => exact one1_q fun d st c fs s h => by unfold biSum at h; split at h <;> cases h
  case min =>
    refine fun ds st c fs s h => ?_
    unfold builtin at h; dsimp only at h; unfold biMin at h
    split at h <;> first | exact biOf_q _ _ _ _ _ h | cases h
  case max =>
    refine fun ds st c fs s h => ?_
    unfold builtin at h; dsimp only at h; unfold biMax at h
    split at h <;> first | exact biOf_q _ _ _ _ _ h | cases h
theorem PostL.quiet {σ : L2.St} {m : Mp} {H : Hp} {g : List D → M D} {ds : List D} {st : Sto} {Q : VK} (hq : QuietL g) (p : Post X.K ca W σ m H (g ds st) Q) : ∃ d st', g ds st = .ok d st' ∧ ∀ m' H' v, RS X.K ca m' H' st' → RD X.K ca m' H' d v → Ext m H m' H' → Q v H' := by
  cases e : g ds st with
  | ok d st' => rw [e] at p; exact ⟨d, st', rfl, p⟩
  | ex c fs s => exact (hq ds st c fs s e).elim
  | bad => rw [e] at p; exact p.elim
theorem rdL_cb {σ : L2.St} {H : Hp} {f : Env → M (List D)} {g : List D → M D} {Q : VK} (hq : QuietL g) (h : rdE X.K ca W (fun env => (f env).bind g) σ H Q) : tCB (rBq X.K ca g) (rdL X.K ca W f) σ H Q := by
  obtain ⟨m, st, env, r, e, p⟩ := h
  refine ⟨m, st, env, r, e, (Post.bindL p).mono fun vs H1 ⟨m1, st1, ds, r1, d1, ex, p1⟩ => ⟨m1, st1, ds, r1, d1, PostL.quiet hq p1⟩⟩
theorem pe_bi {id : String} {x : Str} {e : Expr} {es : List Expr} {p pos : Pos} {f : Env → M (List D)} {g : List D → M D} (hq : QuietL g) (hc : CallR X (.builtin id) (rBq X.K ca g)) (hg : Gl X x) (hm : X.mg x = none) (hv : bootBuiltins x = some (.builtin id)) (ha : PA X (e :: es) (rdL X.K ca W f))
    (hn : x ≠ "__name__") (hdb : (x == ("__debug__" : Str)) = false) (hs : (e :: es).all notStar = true) : PE X (.Call (.Name x p) (e :: es) [] pos) (rdE X.K ca W fun env => (f env).bind g) := by
  have h2 := hs
  simp only [List.all_cons, Bool.and_eq_true] at h2
  exact (pe_callB hc hg hm hv ha hn hdb (starEach_no h2.1) (stars_no h2.2)).imp fun σ H Q h => rdL_cb hq h
theorem pe_bt {T : String} {x : Str} {e : Expr} {es : List Expr} {p pos : Pos} {f : Env → M (List D)} {g : List D → M D} (hq : QuietL g) (hc : CallR X (.type T) (rBq X.K ca g)) (hg : Gl X x) (hm : X.mg x = none) (hv : bootBuiltins x = some (.type T)) (ha : PA X (e :: es) (rdL X.K ca W f))
    (hn : x ≠ "__name__") (hdb : (x == ("__debug__" : Str)) = false) (hs : (e :: es).all notStar = true) : PE X (.Call (.Name x p) (e :: es) [] pos) (rdE X.K ca W fun env => (f env).bind g) := by
  have h2 := hs
  simp only [List.all_cons, Bool.and_eq_true] at h2
  exact (pe_callTy hc hg hm hv ha hn hdb (starEach_no h2.1) (stars_no h2.2)).imp fun σ H Q h => rdL_cb hq h
end
end PV
end
section
set_option Elab.async false
set_option linter.all false
set_option maxRecDepth 100000
set_option maxHeartbeats 1000000
/-! FB14: the built-ins, one after the other. -/
namespace PV
open PySem PySem.Spec PyProof.Rows L2
section
variable {X : Cx} {ca : Nat → Addr}
theorem RS.same {K : PySem.W.Frag} {m : Mp} {H : Hp} {st : Sto} {d : D} {v : V} {Q : VK} (k : ∀ m' H' v, RS K ca m' H' st → RD K ca m' H' d v → Ext m H m' H' → Q v H') (r : RS K ca m H st) (h : RD K ca m H d v) : Q v H := k m H v r h (Ext.refl _ _)
theorem RDs.one {K : PySem.W.Frag} {m : Mp} {H : Hp} {d : D} {vs : List V} (h : RDs K ca m H [d] vs) : ∃ v, vs = [v] ∧ RD K ca m H d v := by
  cases h with
  | cons a b => cases b; exact ⟨_, rfl, a⟩
theorem RDs.two {K : PySem.W.Frag} {m : Mp} {H : Hp} {d e : D} {vs : List V} (h : RDs K ca m H [d, e] vs) : ∃ v w, vs = [v, w] ∧ RD K ca m H d v ∧ RD K ca m H e w := by
  cases h with
  | cons a b => cases b with
    | cons c d => cases d; exact ⟨_, _, rfl, a, c⟩
theorem RDk.len {K : PySem.W.Frag} {m : Mp} {H : Hp} : ∀ {kvs : List (T × D)} {ps : List (Key × V)}, RDk K ca m H kvs ps → kvs.length = ps.length
  | _, _, .nil => rfl
  | _, _, .cons _ _ r => by simp [RDk.len r]
theorem RDt.len {K : PySem.W.Frag} {m : Mp} {H : Hp} : ∀ {kvs : List (T × D)} {ps : List (List Key × V)}, RDt K ca m H kvs ps → kvs.length = ps.length
  | _, _, .nil => rfl
  | _, _, .cons _ _ r => by simp [RDt.len r]
/-- len(d) of a dict with tuple keys, a locked one too -/
theorem len_dT {pins : List (Addr × Obj)} {s : Shared} {σ : L2.St} {H : Hp} {a : Addr} {kvs : List (List Key × V)} {Q : VK} (I : Inv X pins σ H s) (h : Rd H a (.dT kvs)) (q : Q (.int kvs.length) H) : wpAny (model X.prog X.w) X.A (call (.builtin "len") [.ref a]) (EP X pins σ Q) X.xe s := by
  obtain ⟨z, hd, ys, rel, dd⟩ := dt_rd I.hok h
  have hl : kvs.length = ys.length := Paired.length rel
  refine call_len_dictH hd dd (by rw [← hl]; rw [sizeLine_eq] at z; omega) ?_
  rw [← hl]
  exact ⟨.int kvs.length, H, I.tok _, ⟨_, rfl⟩, q⟩
/-- a call of one value -/
theorem cb_one {f : Value} {g : D → M D} (h : ∀ (pins : List (Addr × Obj)) (s : Shared) (σ : L2.St) (H : Hp) (v : V) (us : List Value) (Q : VK) (m : Mp) (st : Sto) (d0 d : D) (st' : Sto), Inv X pins σ H s → Vals [v] us → RS X.K ca m H st → RD X.K ca m H d0 v → g d0 st = .ok d st' →
    (∀ m' H' v, RS X.K ca m' H' st' → RD X.K ca m' H' d v → Ext m H m' H' → Q v H') → wpAny (model X.prog X.w) X.A (call f us) (EP X pins σ Q) X.xe s) : CallR X f (rBq X.K ca (one1 g)) := by
  intro pins s σ H xs us Q I rv ⟨m, st, ds, r, rd, d, st', e, k⟩
  rcases ds with _ | ⟨d0, _ | ⟨d1, ds⟩⟩
  · cases e
  · obtain ⟨v, rfl, r0⟩ := rd.one
    exact h pins s σ H v us Q m st d0 d st' I rv r r0 e k
  · cases e
theorem cb_len : CallR X (.builtin "len") (rBq X.K ca (one1 biLen)) := by
  refine cb_one fun pins s σ H v us Q m st d0 d st' I rv r h e k => ?_
  unfold biLen at e
  cases q : asSeq st d0 with
  | some xs =>
    rw [q] at e; cases e
    unfold asSeq at q
    cases q1 : asTup d0 with
    | some ds' =>
      rw [q1] at q; cases q
      obtain ⟨a, vs, rfl, h1, h2, h3⟩ := RD.tupI q1 h
      refine call_len_seq pins s σ H _ us Q I rv ⟨a, vs, rfl, .inr (SqT.of h1), ?_⟩
      rw [← h3.len]
      exact RS.same k r (.v (.int _))
    | none =>
      rw [q1] at q
      obtain ⟨a, vs, rfl, h1, h2, h3⟩ := RD.lstI r q h
      refine call_len_seq pins s σ H _ us Q I rv ⟨a, vs, rfl, .inl (SqL.of h1), ?_⟩
      rw [← h3.len]
      exact RS.same k r (.v (.int _))
  | none =>
    rw [q] at e
    dsimp only at e
    cases q2 : asDct st d0 with
    | some p =>
      obtain ⟨tk, kvs⟩ := p
      rw [q2] at e; cases e
      obtain ⟨a, rfl, l, dd⟩ := RD.dctI r q2 h
      obtain ⟨u, rfl, ru⟩ := vals1 rv
      cases ru
      rcases dd with ⟨rfl, ps, h1, h2⟩ | ⟨rfl, ps, h1, h2⟩
      · refine d_len I h1 fun t s' I' => ⟨.int ps.length, H, I', ⟨_, rfl⟩, ?_⟩
        rw [← h2.len]
        exact RS.same k r (.v (.int _))
      · refine len_dT I h1 ?_
        rw [← h2.len]
        exact RS.same k r (.v (.int _))
    | none =>
      rw [q2] at e
      dsimp only at e
      split at e <;> cases e
      · cases h with
        | v h => cases h with
          | str _ hx => exact call_len_str pins s σ H _ us Q I rv ⟨_, rfl, okS.len hx, RS.same k r (.v (.int _))⟩
      · rename_i ns
        cases h with
        | v h => cases h with
          | scr hs =>
            refine call_len_seq pins s σ H _ us Q I rv ⟨_, ns.map V.int, rfl, .inl (scr_at hs), ?_⟩
            rw [List.length_map]
            exact RS.same k r (.v (.int _))
theorem cb_int : CallR X (.type "int") (rBq X.K ca (one1 biInt)) := by
  refine cb_one fun pins s σ H v us Q m st d0 d st' I rv r h e k => ?_
  unfold biInt at e
  split at e <;> cases e <;> cases h <;> rename_i h <;> cases h
  · exact call_int1 pins s σ H _ us Q I rv (.inl ⟨_, rfl, RS.same k r (.v (.int _))⟩)
  · exact call_int1 pins s σ H _ us Q I rv (.inr ⟨_, rfl, RS.same k r (.v (.int _))⟩)
theorem cb_abs : CallR X (.builtin "abs") (rBq X.K ca (one1 biAbs)) := by
  refine cb_one fun pins s σ H v us Q m st d0 d st' I rv r h e k => ?_
  unfold biAbs at e
  split at e <;> cases e
  cases h; rename_i h; cases h
  exact call_abs pins s σ H _ us Q I rv ⟨_, rfl, RS.same k r (.v (.int _))⟩
end
end PV
end
section
set_option Elab.async false
set_option linter.all false
set_option maxRecDepth 100000
set_option maxHeartbeats 1000000
/-! FB15: repr. -/
namespace PV
open PySem PySem.Spec PyProof.Rows L2
open PyProof.V (PairsRead reads_dictOf)
section
variable {X : Cx} {ca : Nat → Addr}
/-- the module table's place is below all that is held -/
def Low (X : Cx) : Prop := ∃ o, X.base.get? sysModules = some o
theorem Low.ne (hl : Low X) {pins : List (Addr × Obj)} {s : Shared} {σ : L2.St} {H : Hp} (I : Inv X pins σ H s) {a : Addr} {u : HO} (h : H a = some u) : sysModules ≠ a := by
  obtain ⟨o, e⟩ := hl
  have q := (I.bs _ _ e).2
  intro z
  rw [← z, q] at h
  cases h
def encK : Key → PyData
  | .inl i => .int i
  | .inr x => .str x
theorem encK_reads {h : Heap} : ∀ (k : Key) (v : Value), keyIs k v = true → Reads h v (encK k) [] := fun k v e => by
  rcases keyIs_shape e with ⟨i, t, rfl, rfl⟩ | ⟨x, t, rfl, rfl⟩
  · exact .int i t
  · exact .str x t
theorem tKey_py {k : T} {q : Key} (h : tKey k = some q) : k.py = some (encK q) := by
  rcases tKey_cases h with ⟨i, rfl, rfl⟩ | ⟨x, rfl, rfl, _⟩ <;> rfl
theorem pys_cons {t : T} {r : List T} {ps : List PyData} (h : T.pys (t :: r) = some ps) : ∃ p qs, t.py = some p ∧ T.pys r = some qs ∧ ps = p :: qs := by
  unfold T.pys at h
  cases a : t.py <;> cases b : T.pys r <;> rw [a, b] at h <;> cases h
  exact ⟨_, _, rfl, rfl, rfl⟩
theorem pyk_cons {k t : T} {r : List (T × T)} {ps : List (PyData × PyData)} (h : T.pyk ((k, t) :: r) = some ps) : ∃ q p qs, k.py = some q ∧ t.py = some p ∧ T.pyk r = some qs ∧ ps = (q, p) :: qs := by
  unfold T.pyk at h
  cases a : k.py <;> cases b : t.py <;> cases c : T.pyk r <;> rw [a, b, c] at h <;> cases h
  exact ⟨_, _, _, rfl, rfl, rfl, rfl⟩
theorem map_some {α β : Type} {o : Option α} {f : α → β} {y : β} (h : o.map f = some y) : ∃ x, o = some x ∧ f x = y := by
  cases o with
  | none => cases h
  | some x => exact ⟨x, rfl, Option.some.inj h⟩
theorem pairs_cons {h : Heap} {a : Key} {b : Key × Value} {kus : List (Key × Value)} {p : PyData} {qs : List (PyData × PyData)} {as bs : List Addr} (e : a = b.1) (q : Reads h b.2 p as) (r : PairsRead h encK kus qs bs) : PairsRead h encK (b :: kus) ((encK a, p) :: qs) (as ++ bs) := by
  subst e; exact .cons q r
section
variable {pins : List (Addr × Obj)} {s : Shared} {σ : L2.St} {H : Hp} {m : Mp}
mutual
theorem RT.reads (hl : Low X) (I : Inv X pins σ H s) : ∀ {t : T} {x : V} {u : Value} {p : PyData}, RT X.K ca m H t x → RelV x u → t.py = some p → ∃ as, Reads s.heap u p as ∧ sysModules ∉ as
  | _, _, _, _, .non, r, e => by cases r; cases e; exact ⟨[], .none, fun h => nomatch h⟩
  | _, _, _, _, .bl b, r, e => by cases r; cases e; exact ⟨[], .bool b, fun h => nomatch h⟩
  | _, _, _, _, .int i, r, e => by obtain ⟨t, rfl⟩ := r; cases e; exact ⟨[], .int i t, fun h => nomatch h⟩
  | _, _, _, _, .str x _, r, e => by obtain ⟨t, rfl⟩ := r; cases e; exact ⟨[], .str x t, fun h => nomatch h⟩
  | _, _, _, _, .tup h o l rs, r, e => by
    cases r
    obtain ⟨ps, e1, rfl⟩ := map_some (show (T.pys _).map PyData.tuple = some _ from e)
    obtain ⟨its, rv, ⟨ob, ho, hc, n, hd⟩, _⟩ := I.tuple (SqT.of h)
    obtain ⟨as, q, na⟩ := RTs.reads hl I rs rv e1
    exact ⟨as, .tuple ho hc hd q, na⟩
  | _, _, _, _, .lst h o l rs, r, e => by
    cases r
    obtain ⟨ps, e1, rfl⟩ := map_some (show (T.pys _).map PyData.list = some _ from e)
    obtain ⟨its, rv, pl, _⟩ := I.list (SqL.of h)
    obtain ⟨ob, n, ho, hc, hd, _⟩ := pl
    obtain ⟨as, q, na⟩ := RTs.reads hl I rs rv e1
    refine ⟨_, .list ho hc (by assumption) q, fun z => ?_⟩
    rcases List.mem_cons.mp z with z | z
    · exact (Low.ne hl I h z).elim
    · exact na z
  | _, _, _, _, .dctK h o l rs, r, e => by
    cases r
    obtain ⟨ps, e1, rfl⟩ := map_some (show (T.pyk _).map PyData.dict = some _ from e)
    obtain ⟨z, lo, vs, rel, dd⟩ := dk_rd I.hok h
    obtain ⟨bs, q, na⟩ := RTk.reads hl I rs rel e1
    refine ⟨_, reads_dictOf encK_reads dd q, fun z => ?_⟩
    rcases List.mem_cons.mp z with z | z
    · rw [← z] at lo; simp at lo
    · exact na z
  | _, _, _, _, .dctT h o l rs, r, e => by unfold T.py at e; cases e
  | _, _, _, _, .scr _, r, e => by unfold T.py at e; cases e
  | _, _, _, _, .obj _ _ _, r, e => by unfold T.py at e; cases e
theorem RTs.reads (hl : Low X) (I : Inv X pins σ H s) : ∀ {ts : List T} {xs : List V} {us : List Value} {ps : List PyData}, RTs X.K ca m H ts xs → Vals xs us → T.pys ts = some ps → ∃ as, ReadsAll s.heap us ps as ∧ sysModules ∉ as
  | _, _, _, _, .nil, r, e => by cases r; cases e; exact ⟨[], .nil, fun h => nomatch h⟩
  | _, _, _, _, .cons h hs, r, e => by
    cases r with
    | cons r1 r2 =>
      obtain ⟨p, qs, e1, e2, rfl⟩ := pys_cons e
      obtain ⟨as, q, na⟩ := RT.reads hl I h r1 e1
      obtain ⟨bs, q2, nb⟩ := RTs.reads hl I hs r2 e2
      exact ⟨_, .cons q q2, fun z => (List.mem_append.mp z).elim na nb⟩
theorem RTk.reads (hl : Low X) (I : Inv X pins σ H s) : ∀ {ts : List (T × T)} {xs : List (Key × V)} {us : List (Key × Value)} {ps : List (PyData × PyData)}, RTk X.K ca m H ts xs → KV xs us → T.pyk ts = some ps → ∃ as, PairsRead s.heap encK us ps as ∧ sysModules ∉ as
  | _, _, _, _, .nil, r, e => by cases r; cases e; exact ⟨[], .nil, fun h => nomatch h⟩
  | _, _, _, _, .cons k h hs, r, e => by
    cases r with
    | cons r1 r2 =>
      obtain ⟨q0, p, qs, e0, e1, e2, rfl⟩ := pyk_cons e
      obtain ⟨as, q, na⟩ := RT.reads hl I h r1.2 e1
      obtain ⟨bs, q2, nb⟩ := RTk.reads hl I hs r2 e2
      rw [tKey_py k] at e0
      cases e0
      refine ⟨as ++ bs, ?_, fun z => (List.mem_append.mp z).elim na nb⟩
      exact pairs_cons r1.1 q q2
end
end
end
end PV
end
section
set_option Elab.async false
set_option linter.all false
set_option maxRecDepth 100000
set_option maxHeartbeats 1000000
/-! FB16: more built-ins. -/
namespace PV
open PySem PySem.Spec PyProof.Rows L2
section
variable {X : Cx} {ca : Nat → Addr}
abbrev Kq (X : Cx) (ca : Nat → Addr) (m : Mp) (H : Hp) (d : D) (st' : Sto) (Q : VK) : Prop := ∀ m' H' v, RS X.K ca m' H' st' → RD X.K ca m' H' d v → Ext m H m' H' → Q v H'
/-- a new list's end -/
theorem mkL_end {mu : Bool} {m : Mp} {H : Hp} {st st' : Sto} {ds : List D} {vs : List V} {d : D} {Q : VK} (r : RS X.K ca m H st) (b : RDs X.K ca m H ds vs) (l : ds.length ≤ sizeLine) (e : mkL mu ds st = .ok d st') (k : Kq X ca m H d st' Q) : ∀ p, H p = none → Q (.ref p) (upd H p (.lst vs)) := fun p hp => by
  refine mkL_new (W := fun _ _ _ _ => False) (σ := []) (mu := mu) r b l hp ?_
  rw [e]
  exact k
theorem RDk.keys {K : PySem.W.Frag} {m : Mp} {H : Hp} : ∀ {kvs : List (T × D)} {ps : List (Key × V)}, RDk K ca m H kvs ps → RDs K ca m H (kvs.map fun p => D.v p.1) (ps.map fun kv => kV kv.1)
  | _, _, .nil => .nil
  | _, _, .cons k _ r => .cons (.v (RT.ofKey k)) (RDk.keys r)
theorem tKeys_len : ∀ {ks : List T} {q : List Key}, tKeys ks = some q → ks.length = q.length
  | [], _, e => by cases e; rfl
  | k :: r, _, e => by
    simp only [tKeys] at e
    split at e <;> cases e
    rename_i e1 e2
    simp [tKeys_len e2]
theorem RDt.keys {K : PySem.W.Frag} {m : Mp} {H : Hp} (ho : ∀ b xs, H b = some (.tup xs) → Out m b ∧ xs.length ≤ sizeLine) : ∀ {kvs : List (T × D)} {ps : List (List Key × V)} {bs : List Addr}, RDt K ca m H kvs ps → IsKeys H ps bs → RDs K ca m H (kvs.map fun p => D.v p.1) (bs.map V.ref)
  | _, _, _, .nil, h => by cases h; exact .nil
  | _, _, _, .cons k _ r, h => by
    cases h with
    | cons h1 h2 =>
      refine .cons (.v (.tup h1 (ho _ _ h1).1 ?_ (RTs.ofKeys k))) (RDt.keys ho r h2)
      have := (ho _ _ h1).2
      rw [List.length_map] at this
      rw [tKeys_len k]; exact this
theorem signs_vals {x : Str} {acc : Array Value} (h : ItemsOf (SignAt x) acc x.cps.size) : Vals ((x.cps.toList.map fun c => V.str ⟨#[c]⟩)) acc.toList := by
  refine vals_of_at (by rw [List.length_map, Array.length_toList, Array.length_toList, h.1]) fun j y u h1 h2 => ?_
  obtain ⟨c, t, hc, rfl⟩ := h.2 j u (by rw [← Array.getElem?_toList]; exact h2)
  have e : (x.cps.toList.map fun c => V.str ⟨#[c]⟩)[j]? = some (V.str ⟨#[c]⟩) := by
    rw [List.getElem?_map, Array.getElem?_toList, hc]; rfl
  rw [h1] at e; cases e
  exact ⟨t, rfl⟩
theorem signs_rd {K : PySem.W.Frag} {m : Mp} {H : Hp} {x : Str} (h : okS x = true) : RDs K ca m H ((signs x).map .v) (x.cps.toList.map fun c => V.str ⟨#[c]⟩) := by
  have g : ∀ l : List Nat, (∀ c ∈ l, c ∈ x.cps.toList) → RDs K ca m H ((l.map fun c => T.str ⟨#[c]⟩).map .v) (l.map fun c => V.str ⟨#[c]⟩) := by
    intro l
    induction l with
    | nil => exact fun _ => .nil
    | cons c r ih => exact fun hl => .cons (.v (.str _ (okS_one h (hl c (List.mem_cons_self ..))))) (ih fun d hd => hl d (List.mem_cons_of_mem _ hd))
  exact g _ fun c hc => hc
theorem cb_list (hc : X.calm = true) {mu : Bool} : CallR X (.type "list") (rBq X.K ca (one1 (biList mu))) := by
  refine cb_one fun pins s σ H v us Q m st d0 d st' I rv r h e k => ?_
  unfold biList at e
  cases q : seqOf st d0 with
  | none => rw [q] at e; cases e
  | some xs =>
    rw [q] at e
    have e : mkL mu xs st = .ok d st' := e
    unfold seqOf at q
    cases q0 : asSeq st d0 with
    | some ys =>
      rw [q0] at q; cases q
      unfold asSeq at q0
      cases q1 : asTup d0 with
      | some ds' =>
        rw [q1] at q0; cases q0
        obtain ⟨a, vs, rfl, h1, h2, h3⟩ := RD.tupI q1 h
        exact call_list_of pins s σ H _ us Q I rv ⟨a, vs, rfl, .inr (SqT.of h1), mkL_end r h3 h2 e k⟩
      | none =>
        rw [q1] at q0
        obtain ⟨a, vs, rfl, h1, h2, h3⟩ := RD.lstI r q0 h
        exact call_list_of pins s σ H _ us Q I rv ⟨a, vs, rfl, .inl (SqL.of h1), mkL_end r h3 h2 e k⟩
    | none =>
      rw [q0] at q
      dsimp only at q
      cases q2 : asDct st d0 with
      | some p =>
        obtain ⟨tk, kvs⟩ := p
        rw [q2] at q
        dsimp only at q
        obtain ⟨a, rfl, l, dd⟩ := RD.dctI r q2 h
        rcases dd with ⟨rfl, ps, h1, h2⟩ | ⟨rfl, ps, h1, h2⟩
        · cases q
          exact call_listD hc pins s σ H _ us Q I rv ⟨a, ps, rfl, h1, mkL_end (vs := ps.map fun kv => kV kv.1) r h2.keys (by rw [List.length_map]; exact l) e k⟩
        · cases q
          refine call_list_dT hc pins s σ H _ us Q I rv ⟨a, ps, rfl, h1, fun p bs hp hk => mkL_end (vs := bs.map V.ref) r (RDt.keys (fun b xs hb => ⟨r.outTup hb, (show ObjOk X.prog X.w H s.heap b (.tup xs) from I.hok b _ hb).1⟩) h2 hk) (by rw [List.length_map]; exact l) e k p hp⟩
      | none =>
        rw [q2] at q
        dsimp only at q
        split at q <;> cases q
        rename_i x _
        cases h with
        | v h => cases h with
          | str _ hx =>
            obtain ⟨u, rfl, ru⟩ := vals1 rv
            obtain ⟨t, rfl⟩ := ru
            refine PySem.call_list_str (I.ok.hd hc) x t (fun h' tk acc c' kp e' it => ?_) (okS.len hx)
            have sg := signs_vals it
            have lz : (x.cps.toList.map fun c => V.str ⟨#[c]⟩).length ≤ sizeLine := by rw [List.length_map, Array.length_toList]; exact okS.len hx
            refine ⟨.ref s.heap.objs.size, _, I.laid (t' := tk) (o := .lst (x.cps.toList.map fun c => V.str ⟨#[c]⟩)) kp (Nat.le_refl _) ⟨lz, acc.toList, c', sg, ?_⟩, rfl, mkL_end r (signs_rd hx) (by rw [List.length_map]; unfold signs; rw [List.length_map, Array.length_toList]; exact okS.len hx) e k _ (I.hok.fresh (Nat.le_refl _))⟩
            rw [Array.toArray_toList]; exact e'
theorem cb_list0 {mu : Bool} : ∀ {K : PySem.W.Frag}, True := fun {_} => True.intro
/-- a tuple made from what lies at xs -/
theorem mkT_end {m : Mp} {H : Hp} {st : Sto} {ds : List D} {vs : List V} {Q : VK} (r : RS X.K ca m H st) (b : RDs X.K ca m H ds vs) (l : ds.length ≤ sizeLine) (k : Kq X ca m H (mkT ds) st Q) : ∀ p, H p = none → Q (.ref p) (upd H p (.tup vs)) := fun p hp => by
  obtain ⟨n1, n2, n3⟩ := mkT_new r b l hp
  exact k _ _ _ n1 n2 n3
theorem cb_tuple : CallR X (.type "tuple") (rBq X.K ca (one1 biTuple)) := by
  refine cb_one fun pins s σ H v us Q m st d0 d st' I rv r h e k => ?_
  unfold biTuple at e
  cases q1 : asTup d0 with
  | some ds' =>
    rw [q1] at e; cases e
    obtain ⟨a, vs, rfl, h1, h2, h3⟩ := RD.tupI q1 h
    exact call_tuple_of pins s σ H _ us Q I rv ⟨a, vs, rfl, .inr ⟨SqT.of h1, RS.same k r h⟩⟩
  | none =>
    rw [q1] at e
    dsimp only at e
    cases q0 : asList st d0 with
    | none => rw [q0] at e; cases e
    | some ds' =>
      rw [q0] at e; cases e
      obtain ⟨a, vs, rfl, h1, h2, h3⟩ := RD.lstI r q0 h
      exact call_tuple_of pins s σ H _ us Q I rv ⟨a, vs, rfl, .inl ⟨SqL.of h1, mkT_end r h3 h2 k⟩⟩
/-- a list of ints, of texts -/
theorem RTs.ints {K : PySem.W.Frag} {m : Mp} {H : Hp} : ∀ {ts : List T} {vs : List V} {is : List Int}, RTs K ca m H ts vs → ts.mapM asInt = some is → vs = is.map V.int
  | _, _, is, .nil, e => by cases e; rfl
  | _, _, is, .cons (t := t) h r, e => by
    obtain ⟨i, is', e1, e2, rfl⟩ := mapM_cons_some e
    cases t <;> cases e1
    cases h
    rw [RTs.ints r e2]; rfl
theorem RTs.strs {K : PySem.W.Frag} {m : Mp} {H : Hp} : ∀ {ts : List T} {vs : List V} {is : List Str}, RTs K ca m H ts vs → ts.mapM asStr = some is → vs = is.map V.str ∧ ∀ x ∈ is, okS x = true
  | _, _, is, .nil, e => by cases e; exact ⟨rfl, fun _ h => nomatch h⟩
  | _, _, is, .cons (t := t) h r, e => by
    obtain ⟨i, is', e1, e2, rfl⟩ := mapM_cons_some e
    cases t <;> cases e1
    cases h
    rename_i hx
    obtain ⟨a, b⟩ := RTs.strs r e2
    refine ⟨by rw [a]; rfl, fun x hx' => ?_⟩
    rcases List.mem_cons.mp hx' with rfl | hx'
    · exact hx
    · exact b x hx'
theorem intsOf_at {m : Mp} {H : Hp} {st : Sto} {d : D} {v : V} {is : List Int} (r : RS X.K ca m H st) (h : RD X.K ca m H d v) (e : intsOf st d = some is) : ∃ a, v = .ref a ∧ SqL X.K H a (is.map V.int) := by
  unfold intsOf at e
  cases q : asList st d with
  | none => rw [q] at e; cases e
  | some ds =>
    rw [q] at e
    obtain ⟨a, vs, rfl, h1, h2, h3⟩ := RD.lstI r q h
    cases q2 : allD ds with
    | none => rw [show ((some ds).bind allD) = allD ds from rfl, q2] at e; cases e
    | some ts =>
      rw [show ((some ds).bind allD) = allD ds from rfl, q2] at e
      have := RTs.ints (allD_RTs h3 q2) e
      subst this
      exact ⟨a, rfl, SqL.of h1⟩
theorem sumI_eq : ∀ l : List Int, sumI l = l.sum
  | [] => rfl
  | i :: r => by rw [sumI, sumI_eq r, List.sum_cons]
theorem cb_sum (hc : X.calm = true) : CallR X (.builtin "sum") (rBq X.K ca (one1 biSum)) := by
  refine cb_one fun pins s σ H v us Q m st d0 d st' I rv r h e k => ?_
  unfold biSum at e
  cases q : intsOf st d0 with
  | none => rw [q] at e; cases e
  | some is =>
    rw [q] at e; cases e
    obtain ⟨a, rfl, hs⟩ := intsOf_at r h q
    refine cr_sum hc pins s σ H _ us Q I rv ⟨a, is, rfl, hs, ?_⟩
    rw [← sumI_eq]
    exact RS.same k r (.v (.int _))
theorem minI_is : ∀ {l : List Int} {x : Int}, minI l = some x → x ∈ l ∧ ∀ y ∈ l, x ≤ y
  | [], _, e => nomatch e
  | [a], _, e => by cases e; exact ⟨List.mem_cons_self .., fun y h => by rw [List.mem_singleton.mp h]; exact Int.le_refl _⟩
  | a :: b :: r, x, e => by
    obtain ⟨y, e1, e2⟩ := map_some (show (minI (b :: r)).map _ = some x from e)
    obtain ⟨h1, h2⟩ := minI_is e1
    split at e2 <;> subst e2
    · refine ⟨List.mem_cons_of_mem _ h1, fun z hz => ?_⟩
      rcases List.mem_cons.mp hz with rfl | hz
      · omega
      · exact h2 z hz
    · refine ⟨List.mem_cons_self .., fun z hz => ?_⟩
      rcases List.mem_cons.mp hz with rfl | hz
      · omega
      · have := h2 z hz; omega
theorem maxI_is : ∀ {l : List Int} {x : Int}, maxI l = some x → x ∈ l ∧ ∀ y ∈ l, y ≤ x
  | [], _, e => nomatch e
  | [a], _, e => by cases e; exact ⟨List.mem_cons_self .., fun y h => by rw [List.mem_singleton.mp h]; exact Int.le_refl _⟩
  | a :: b :: r, x, e => by
    obtain ⟨y, e1, e2⟩ := map_some (show (maxI (b :: r)).map _ = some x from e)
    obtain ⟨h1, h2⟩ := maxI_is e1
    split at e2 <;> subst e2
    · refine ⟨List.mem_cons_of_mem _ h1, fun z hz => ?_⟩
      rcases List.mem_cons.mp hz with rfl | hz
      · omega
      · exact h2 z hz
    · refine ⟨List.mem_cons_self .., fun z hz => ?_⟩
      rcases List.mem_cons.mp hz with rfl | hz
      · omega
      · have := h2 z hz; omega
/-- what min, max are told from -/
theorem biOf_at {g : List Int → Option Int} {m : Mp} {H : Hp} {st st' : Sto} {d0 d : D} {v : V} (r : RS X.K ca m H st) (h : RD X.K ca m H d0 v) (e : biOf g d0 st = .ok d st') : ∃ a is i, v = .ref a ∧ SqL X.K H a (is.map V.int) ∧ g is = some i ∧ d = .v (.int i) ∧ st' = st := by
  unfold biOf at e
  cases q : intsOf st d0 with
  | none => rw [q] at e; cases e
  | some is =>
    rw [q] at e
    cases q2 : g is with
    | none => rw [show (some is).bind g = g is from rfl, q2] at e; cases e
    | some i =>
      rw [show (some is).bind g = g is from rfl, q2] at e; cases e
      obtain ⟨a, rfl, hs⟩ := intsOf_at r h q
      exact ⟨a, is, i, rfl, hs, q2, rfl, rfl⟩
theorem two_ints {K : PySem.W.Frag} {m : Mp} {H : Hp} {i j : Int} {vs : List V} (h : RDs K ca m H [.v (.int i), .v (.int j)] vs) : vs = [.int i, .int j] := by
  obtain ⟨v, w, rfl, h1, h2⟩ := h.two
  cases h1; rename_i h1; cases h1
  cases h2; rename_i h2; cases h2
  rfl
theorem cb_min (hc : X.calm = true) : CallR X (.builtin "min") (rBq X.K ca biMin) := by
  intro pins s σ H xs us Q I rv ⟨m, st, ds, r, rd, d, st', e, k⟩
  unfold biMin at e
  split at e
  · obtain ⟨v, rfl, h⟩ := rd.one
    obtain ⟨a, is, i, rfl, hs, hg, rfl, rfl⟩ := biOf_at r h e
    obtain ⟨h1, h2⟩ := minI_is hg
    refine cr_min hc pins s σ H _ us Q I rv ⟨a, is, rfl, hs, List.length_pos_of_mem h1, fun x hx hy => ?_⟩
    have e1 : x = i := by have a := h2 x hx; have b := hy i h1; omega
    subst e1
    exact RS.same k r (.v (.int _))
  · cases e
    cases two_ints rd
    exact call_min2 hc pins s σ H _ us Q I rv ⟨_, _, rfl, RS.same k r (.v (.int _))⟩
  · cases e
theorem cb_max (hc : X.calm = true) : CallR X (.builtin "max") (rBq X.K ca biMax) := by
  intro pins s σ H xs us Q I rv ⟨m, st, ds, r, rd, d, st', e, k⟩
  unfold biMax at e
  split at e
  · obtain ⟨v, rfl, h⟩ := rd.one
    obtain ⟨a, is, i, rfl, hs, hg, rfl, rfl⟩ := biOf_at r h e
    obtain ⟨h1, h2⟩ := maxI_is hg
    refine cr_max hc pins s σ H _ us Q I rv ⟨a, is, rfl, hs, List.length_pos_of_mem h1, fun x hx hy => ?_⟩
    have e1 : x = i := by have a := h2 x hx; have b := hy i h1; omega
    subst e1
    exact RS.same k r (.v (.int _))
  · cases e
    cases two_ints rd
    exact call_max2 hc pins s σ H _ us Q I rv ⟨_, _, rfl, RS.same k r (.v (.int _))⟩
  · cases e
/-! ### sorted texts -/
theorem ltS_cps : ∀ a b : List Nat, ltCps a b = ltS a b
  | [], [] => rfl
  | [], _ :: _ => by simp [ltS, ltCps]
  | _ :: _, [] => by simp [ltS, ltCps]
  | a :: r, b :: t => by
    rw [ltCps, ltS_cps r t]
    unfold ltS
    by_cases h : a < b
    · simp [h, List.cons_lt_cons_iff]
    · by_cases h2 : a = b
      · subst h2; simp [List.cons_lt_cons_iff]
      · simp [List.cons_lt_cons_iff, h, h2]
theorem ltS_total {a b : List Nat} (h : ltS a b = false) (h2 : ltS b a = false) : a = b := by
  unfold ltS at h h2
  have h := of_decide_eq_false h
  have h2 := of_decide_eq_false h2
  exact List.le_antisymm (List.not_lt.mp h2) (List.not_lt.mp h)
/-- not above -/
def leS (a b : Str) : Prop := ltS b.cps.toList a.cps.toList = false
theorem leS_anti {a b : Str} (h : leS a b) (h2 : leS b a) : a = b := by
  have := ltS_total h2 h
  cases a; cases b
  simpa using this
theorem leS_trans {a b c : Str} (h : leS a b) (h2 : leS b c) : leS a c := by
  unfold leS ltS at *
  have h := of_decide_eq_false h
  have h2 := of_decide_eq_false h2
  exact decide_eq_false (List.not_lt.mpr (List.le_trans (List.not_lt.mp h) (List.not_lt.mp h2)))
theorem leS_of_lt {a b : Str} (h : ltS a.cps.toList b.cps.toList = true) : leS a b := by
  unfold leS ltS at *
  have h := of_decide_eq_true h
  exact decide_eq_false fun z => (List.lt_irrefl _ (List.lt_trans h z))
theorem sortedS_pair : ∀ {l : List Str}, sortedS l = true → l.Pairwise leS
  | [], _ => .nil
  | [x], _ => List.pairwise_singleton ..
  | x :: y :: r, h => by
    have h' : (!ltCps y.cps.toList x.cps.toList && risingS y r) = true := h
    rw [Bool.and_eq_true] at h'
    have p := sortedS_pair (l := y :: r) h'.2
    have e : leS x y := by
      have := h'.1
      rw [ltS_cps] at this
      simpa [leS] using this
    refine List.pairwise_cons.mpr ⟨fun z hz => ?_, p⟩
    rcases List.mem_cons.mp hz with rfl | hz
    · exact e
    · exact leS_trans e ((List.pairwise_cons.mp p).1 z hz)
theorem insS_perm (x : Str) : ∀ l, (insS x l).Perm (x :: l)
  | [] => .refl _
  | y :: r => by
    unfold insS
    split
    · exact .refl _
    · exact ((insS_perm x r).cons y).trans (.swap ..)
theorem sortS_perm : ∀ l, (sortS l).Perm l
  | [] => .refl _
  | x :: r => (insS_perm x _).trans ((sortS_perm r).cons x)
theorem insS_pair (x : Str) : ∀ {l}, l.Pairwise leS → (insS x l).Pairwise leS
  | [], _ => List.pairwise_singleton ..
  | y :: r, h => by
    unfold insS
    have hy := List.pairwise_cons.mp h
    split
    · rename_i e
      refine List.pairwise_cons.mpr ⟨fun z hz => ?_, h⟩
      rcases List.mem_cons.mp hz with rfl | hz
      · exact leS_of_lt e
      · exact leS_trans (leS_of_lt e) (hy.1 z hz)
    · rename_i e
      refine List.pairwise_cons.mpr ⟨fun z hz => ?_, insS_pair x hy.2⟩
      rcases List.mem_cons.mp ((insS_perm x r).mem_iff.mp hz) with rfl | hz
      · exact e
      · exact hy.1 z hz
theorem sortS_pair : ∀ l, (sortS l).Pairwise leS
  | [] => .nil
  | x :: r => insS_pair x (sortS_pair r)
theorem sortS_uniq {l r : List Str} (p : r.Perm l) (s : r.Pairwise leS) : r = sortS l :=
  List.Perm.eq_of_pairwise (fun _ _ _ _ a b => leS_anti a b) s (sortS_pair l) (p.trans (sortS_perm l).symm)
theorem strs_rd {K : PySem.W.Frag} {m : Mp} {H : Hp} : ∀ {l : List Str}, (∀ x ∈ l, okS x = true) → RDs K ca m H (l.map fun x => .v (.str x)) (l.map V.str)
  | [], _ => .nil
  | x :: r, h => .cons (.v (.str x (h x (List.mem_cons_self ..)))) (strs_rd fun y hy => h y (List.mem_cons_of_mem _ hy))
theorem cb_sorted {mu : Bool} : CallR X (.builtin "sorted") (rBq X.K ca (one1 (biSorted mu))) := by
  refine cb_one fun pins s σ H v us Q m st d0 d st' I rv r h e k => ?_
  unfold biSorted at e
  cases q : asList st d0 with
  | none => rw [q] at e; cases e
  | some ds =>
    rw [q] at e
    obtain ⟨a, vs, rfl, h1, h2, h3⟩ := RD.lstI r q h
    cases q2 : allD ds with
    | none => rw [show ((some ds).bind allD) = allD ds from rfl, q2] at e; cases e
    | some ts =>
      rw [show ((some ds).bind allD) = allD ds from rfl, q2] at e
      dsimp only at e
      cases q3 : ts.mapM asStr with
      | none => rw [q3] at e; cases e
      | some xs =>
        rw [q3] at e
        have e : mkL mu ((sortS xs).map fun x => .v (.str x)) st = .ok d st' := e
        obtain ⟨rfl, ho⟩ := RTs.strs (allD_RTs h3 q2) q3
        obtain ⟨its, rv', hl, hz⟩ := I.list (SqL.of h1)
        obtain ⟨u, rfl, ru⟩ := vals1 rv
        cases ru
        have hlen0 := rv'.length
        rw [List.length_map] at hlen0 hz
        refine PyProof.Rows.sorted_strsAny hl.isList rv'.strs (by rw [← hlen0]; exact hz) fun out ys g1 g2 g3 => ?_
        have ey := sortS_uniq g2 (sortedS_pair g3)
        subst ey
        obtain ⟨ep, he'⟩ := PyProof.Rows.sortedAll_at s.heap its out
        have hl2 : ((sortS xs).map V.str).length ≤ sizeLine := by rw [List.length_map, g2.length_eq]; exact hz
        refine ⟨.ref _, _, I.laid (t' := s.toks) (o := .lst ((sortS xs).map V.str)) (fun _ _ => PyProof.Rows.sortedAll_old) (Nat.le_succ _) ⟨hl2, out.toList, ep, vals_of_strs g1, by rw [Array.toArray_toList]; exact he'⟩, rfl, ?_⟩
        exact mkL_end r (strs_rd fun x hx => ho x (g2.mem_iff.mp hx)) (by rw [List.length_map]; rw [List.length_map] at hl2; exact hl2) e k _ (I.hok.fresh (Nat.le_succ _))
end
end PV
end
section
set_option Elab.async false
set_option linter.all false
set_option maxRecDepth 100000
set_option maxHeartbeats 1000000
/-! FB17: repr, str, dict. -/
namespace PV
open PySem PySem.Spec PyProof.Rows L2
open PyProof.V (PairsRead reads_dictOf)
section
variable {X : Cx} {ca : Nat → Addr}
section
variable {pins : List (Addr × Obj)} {s : Shared} {σ : L2.St} {H : Hp} {m : Mp} {st : Sto}
theorem reads_lst (hl : Low X) (I : Inv X pins σ H s) {a : Addr} {xs : List V} {ps : List PyData} (h : H a = some (.lst xs)) (q : ∀ us, Vals xs us → ∃ as, ReadsAll s.heap us ps as ∧ sysModules ∉ as) : ∃ as, Reads s.heap (.ref a) (.list ps) as ∧ sysModules ∉ as := by
  obtain ⟨its, rv, pl, _⟩ := I.list (SqL.of h)
  obtain ⟨ob, n, ho, hc, hd, _⟩ := pl
  obtain ⟨as, q, na⟩ := q _ rv
  refine ⟨_, .list ho hc (by assumption) q, fun z => ?_⟩
  rcases List.mem_cons.mp z with z | z
  · exact (Low.ne hl I h z).elim
  · exact na z
theorem reads_tup (I : Inv X pins σ H s) {a : Addr} {xs : List V} {ps : List PyData} (h : H a = some (.tup xs)) (q : ∀ us, Vals xs us → ∃ as, ReadsAll s.heap us ps as ∧ sysModules ∉ as) : ∃ as, Reads s.heap (.ref a) (.tuple ps) as ∧ sysModules ∉ as := by
  obtain ⟨its, rv, ⟨ob, ho, hc, n, hd⟩, _⟩ := I.tuple (SqT.of h)
  obtain ⟨as, q, na⟩ := q _ rv
  exact ⟨as, .tuple ho hc hd q, na⟩
theorem reads_dct (I : Inv X pins σ H s) {a : Addr} {xs : List (Key × V)} {ps : List (PyData × PyData)} (h : Rd H a (.dK xs)) (q : ∀ us, KV xs us → ∃ as, PairsRead s.heap encK us ps as ∧ sysModules ∉ as) : ∃ as, Reads s.heap (.ref a) (.dict ps) as ∧ sysModules ∉ as := by
  obtain ⟨z, lo, vs, rel, dd⟩ := dk_rd I.hok h
  obtain ⟨bs, q, na⟩ := q _ rel
  refine ⟨_, reads_dictOf encK_reads dd q, fun z => ?_⟩
  rcases List.mem_cons.mp z with z | z
  · rw [← z] at lo; simp at lo
  · exact na z
theorem rds_reads {f : D → Option T} (hf : ∀ {d x u t p}, RD X.K ca m H d x → RelV x u → f d = some t → t.py = some p → ∃ as, Reads s.heap u p as ∧ sysModules ∉ as) : ∀ {ds : List D} {vs : List V} {us : List Value} {ts : List T} {ps : List PyData}, RDs X.K ca m H ds vs → Vals vs us → ds.mapM f = some ts → T.pys ts = some ps → ∃ as, ReadsAll s.heap us ps as ∧ sysModules ∉ as
  | _, _, _, _, _, .nil, rv, e, q => by cases e; cases rv; cases q; exact ⟨[], .nil, fun h => nomatch h⟩
  | _, _, _, _, _, .cons h hs, rv, e, q => by
    obtain ⟨t, ts, e1, e2, rfl⟩ := mapM_cons_some e
    obtain ⟨p, qs, q1, q2, rfl⟩ := pys_cons q
    cases rv with
    | cons r1 r2 =>
      obtain ⟨as, g, na⟩ := hf h r1 e1 q1
      obtain ⟨bs, g2, nb⟩ := rds_reads hf hs r2 e2 q2
      exact ⟨_, .cons g g2, fun z => (List.mem_append.mp z).elim na nb⟩
theorem rdk_reads {f : D → Option T} (hf : ∀ {d x u t p}, RD X.K ca m H d x → RelV x u → f d = some t → t.py = some p → ∃ as, Reads s.heap u p as ∧ sysModules ∉ as) : ∀ {ds : List (T × D)} {vs : List (Key × V)} {us : List (Key × Value)} {ts : List (T × T)} {ps : List (PyData × PyData)}, RDk X.K ca m H ds vs → KV vs us → (ds.mapM fun p => (f p.2).map fun t => (p.1, t)) = some ts → T.pyk ts = some ps → ∃ as, PairsRead s.heap encK us ps as ∧ sysModules ∉ as
  | _, _, _, _, _, .nil, rv, e, q => by cases e; cases rv; cases q; exact ⟨[], .nil, fun h => nomatch h⟩
  | _, _, _, _, _, .cons k h hs, rv, e, q => by
    obtain ⟨t, ts, e1, e2, rfl⟩ := mapM_cons_some e
    obtain ⟨t0, e3, rfl⟩ := map_some e1
    obtain ⟨q0, p, qs, z0, q1, q2, rfl⟩ := pyk_cons q
    cases rv with
    | cons r1 r2 =>
      obtain ⟨as, g, na⟩ := hf h r1.2 e3 q1
      obtain ⟨bs, g2, nb⟩ := rdk_reads hf hs r2 e2 q2
      rw [tKey_py k] at z0
      cases z0
      exact ⟨as ++ bs, pairs_cons r1.1 g g2, fun z => (List.mem_append.mp z).elim na nb⟩
theorem rd_reads (hl : Low X) (I : Inv X pins σ H s) (rs : RS X.K ca m H st) : ∀ (j : Nat) {d : D} {x : V} {u : Value} {t : T} {p : PyData}, RD X.K ca m H d x → RelV x u → rd st j d = some t → t.py = some p → ∃ as, Reads s.heap u p as ∧ sysModules ∉ as
  | j, .v t0, x, u, t, p, h, r, e, q => by
    have e' : t0 = t := by cases j <;> (simp only [rd, Option.some.injEq] at e; exact e)
    subst e'
    cases h with
    | v h => exact h.reads hl I r q
  | 0, .ref _, _, _, _, _, _, _, e, _ => by simp [rd] at e
  | 0, .tp _, _, _, _, _, _, _, e, _ => by simp [rd] at e
  | 0, .lp _, _, _, _, _, _, _, e, _ => by simp [rd] at e
  | j, .exv _ _, _, _, _, _, _, _, e, _ => by cases j <;> simp [rd] at e
  | j, .lam _ _, _, _, _, _, _, _, e, _ => by cases j <;> simp [rd] at e
  | j + 1, .ref n, x, u, t, p, h, r, e, q => by
    have hf := @rd_reads hl I rs j
    simp only [rd] at e
    cases q0 : cellAt st n with
    | none => rw [q0] at e; cases e
    | some c =>
      rw [q0] at e
      cases h with
      | dead z =>
        have q2 := rs.dead n z
        rw [cellAt_some] at q0
        rw [q0] at q2; cases q2
      | ref z =>
        cases r
        obtain ⟨c', h1, h2⟩ := rs.cells n _ z
        rw [h1] at q0; cases q0
        cases h2 with
        | lst h3 h4 h5 =>
          obtain ⟨ts, e1, rfl⟩ := map_some e
          obtain ⟨ps, q1, rfl⟩ := map_some (show (T.pys _).map PyData.list = some _ from q)
          exact reads_lst hl I h3 fun us rv => rds_reads hf h5 rv e1 q1
        | dctK h3 h4 h5 =>
          obtain ⟨ts, e1, rfl⟩ := map_some e
          obtain ⟨ps, q1, rfl⟩ := map_some (show (T.pyk _).map PyData.dict = some _ from q)
          exact reads_dct I (.inl h3) fun us rv => rdk_reads hf h5 rv e1 q1
        | dctT h3 h4 h5 =>
          obtain ⟨ts, e1, rfl⟩ := map_some e
          unfold T.py at q; cases q
        | ins _ _ =>
          obtain ⟨ts, e1, rfl⟩ := map_some e
          unfold T.py at q; cases q
  | j + 1, .tp ds, x, u, t, p, h, r, e, q => by
    have hf := @rd_reads hl I rs j
    simp only [rd] at e
    obtain ⟨ts, e1, rfl⟩ := map_some e
    obtain ⟨ps, q1, rfl⟩ := map_some (show (T.pys _).map PyData.tuple = some _ from q)
    cases h with
    | tp h1 h2 h3 h4 =>
      cases r
      exact reads_tup I h1 fun us rv => rds_reads hf h4 rv e1 q1
  | j + 1, .lp ds, x, u, t, p, h, r, e, q => by
    have hf := @rd_reads hl I rs j
    simp only [rd] at e
    obtain ⟨ts, e1, rfl⟩ := map_some e
    obtain ⟨ps, q1, rfl⟩ := map_some (show (T.pys _).map PyData.list = some _ from q)
    cases h with
    | lp h1 h2 h3 h4 =>
      cases r
      exact reads_lst hl I h1 fun us rv => rds_reads hf h4 rv e1 q1
end
theorem cb_repr (hl : Low X) (hg : X.A.guards = some []) (hu : X.A.units + 64 < cLine) : CallR X (.builtin "repr") (rBq X.K ca (one1 biRepr)) := by
  refine cb_one fun pins s σ H v us Q m st d0 d st' I rv r h e k => ?_
  unfold biRepr at e
  obtain ⟨u, rfl, ru⟩ := vals1 rv
  cases q : rd st DEEP d0 with
  | none => rw [q] at e; cases e
  | some t =>
    rw [q] at e
    cases q2 : t.py with
    | none => rw [show (some t).bind T.py = t.py from rfl, q2] at e; cases e
    | some p =>
      rw [show (some t).bind T.py = t.py from rfl, q2] at e
      dsimp only at e
      cases g : (p.showable && okS p.shown && decide (p.depth ≤ 50)) with
      | false => rw [g] at e; cases e
      | true =>
        rw [g] at e
        cases e
        simp only [Bool.and_eq_true, decide_eq_true_eq] at g
        obtain ⟨⟨g1, g2⟩, g3⟩ := g
        obtain ⟨as, rds, na⟩ := rd_reads hl I r _ h ru q q2
        have fin : ∀ h' t' tk, (∀ b o, s.heap.get? b = some o → h'.get? b = some o) → EP X pins σ Q (.str p.shown t') { s with heap := h', toks := tk } := fun h' t' tk hk =>
          ⟨.str p.shown, H, I.kept hk, ⟨_, rfl⟩, RS.same k r (.v (.str _ g2))⟩
        have sz : p.shown.length ≤ sizeLine := okS.len g2
        cases rds with
        | none => exact PySem.P.repr_of_none (fin s.heap _ _ fun _ _ z => z)
        | bool b => exact PySem.P.repr_of_bool (fin s.heap _ _ fun _ _ z => z)
        | int i t => exact PySem.P.repr_of_int (by simpa [PyData.showable] using g1) (fin s.heap _ _ fun _ _ z => z)
        | str x t => exact PySem.P.repr_of_str (fin s.heap _ _ fun _ _ z => z) sz
        | list h1 h2 h3 h4 => exact repr_of_reads' (.list h1 h2 h3 h4) g1 (fun _ => na) hg (by omega) (fun _ _ z => z) (fun h' u tk hk => fin h' u tk hk) sz
        | tuple h1 h2 h3 h4 => exact repr_of_reads' (.tuple h1 h2 h3 h4) g1 (fun _ => na) hg (by omega) (fun _ _ z => z) (fun h' u tk hk => fin h' u tk hk) sz
        | dict h1 h2 h3 h4 h5 => exact repr_of_reads' (.dict h1 h2 h3 h4 h5) g1 (fun _ => na) hg (by omega) (fun _ _ z => z) (fun h' u tk hk => fin h' u tk hk) sz
theorem cb_str : CallR X (.type "str") (rBq X.K ca (one1 biStr)) := by
  refine cb_one fun pins s σ H v us Q m st d0 d st' I rv r h e k => ?_
  unfold biStr at e
  split at e
  · rename_i i
    cases g : (decide (i.natAbs.log2 < 1920) && okS (toString i)) with
    | false => rw [g] at e; cases e
    | true =>
      rw [g] at e; cases e
      simp only [Bool.and_eq_true, decide_eq_true_eq] at g
      cases h; rename_i h; cases h
      exact call_str_int pins s σ H _ us Q I rv ⟨i, rfl, g.1, RS.same k r (.v (.str _ g.2))⟩
  · cases e
/-! ### dict -/
section
variable {K : PySem.W.Frag} {m : Mp} {H : Hp}
theorem RDk.any {k : T} {q : Key} (hk : tKey k = some q) : ∀ {kvs : List (T × D)} {ps : List (Key × V)}, RDk K ca m H kvs ps → (kvs.any fun p => T.keq p.1 k) = ps.any fun kv => decide (kv.1 = q)
  | _, _, .nil => rfl
  | _, _, .cons e _ r => by rw [List.any_cons, List.any_cons, RDk.any hk r, keq_key e hk]
theorem RDk.repl {k : T} {q : Key} {d : D} {v : V} (hk : tKey k = some q) (h : RD K ca m H d v) : ∀ {kvs : List (T × D)} {ps : List (Key × V)}, RDk K ca m H kvs ps →
    RDk K ca m H (kvs.map fun p => match T.keq p.1 k with
      | true => (p.1, d)
      | false => p) (ps.map fun kv => if kv.1 = q then (kv.1, v) else kv)
  | _, _, .nil => .nil
  | _, _, .cons (k := j) (q := jq) e h1 r => by
    rw [List.map_cons, List.map_cons]
    dsimp only
    rw [keq_key e hk]
    by_cases z : jq = q
    · rw [if_pos z, decide_eq_true z]; exact .cons e h (RDk.repl hk h r)
    · rw [if_neg z, decide_eq_false z]; exact .cons e h1 (RDk.repl hk h r)
theorem RDk.snoc {k : T} {q : Key} {d : D} {v : V} (hk : tKey k = some q) (h : RD K ca m H d v) : ∀ {kvs : List (T × D)} {ps : List (Key × V)}, RDk K ca m H kvs ps → RDk K ca m H (kvs ++ [(k, d)]) (ps ++ [(q, v)])
  | _, _, .nil => .cons hk h .nil
  | _, _, .cons e h1 r => .cons e h1 (RDk.snoc hk h r)
theorem RDk.put {k : T} {q : Key} {d : D} {v : V} {kvs : List (T × D)} {ps : List (Key × V)} (hk : tKey k = some q) (h : RD K ca m H d v) (r : RDk K ca m H kvs ps) : RDk K ca m H (kset k d kvs) (putK ps q v) := by
  unfold kset putK
  rw [RDk.any hk r]
  cases z : ps.any fun kv => decide (kv.1 = q) with
  | true => rw [if_pos rfl]; exact RDk.repl hk h r
  | false => rw [if_neg (by simp)]; exact RDk.snoc hk h r
theorem kput_some {tk : Bool} {kvs qs : List (T × D)} {k : T} {d : D} (h : kput tk kvs k d = some qs) : kfit tk k = true ∧ qs = kset k d kvs := by
  unfold kput at h
  cases e : kfit tk k <;> rw [e] at h <;> cases h
  exact ⟨rfl, rfl⟩
theorem kset_len {k : T} {d : D} {kvs : List (T × D)} : (kset k d kvs).length ≤ kvs.length + 1 := by
  unfold kset
  split
  · rw [List.length_map]; omega
  · rw [List.length_append, List.length_singleton]; omega
theorem kputs_len {tk : Bool} : ∀ {more kvs qs : List (T × D)}, kputs tk kvs more = some qs → qs.length ≤ kvs.length + more.length
  | [], kvs, qs, e => by cases e; simp
  | (k, d) :: r, kvs, qs, e => by
    unfold kputs at e
    cases e1 : kput tk kvs k d with
    | none => rw [e1] at e; cases e
    | some q =>
      rw [e1] at e
      obtain ⟨_, rfl⟩ := kput_some e1
      have := kputs_len (show kputs tk _ r = some qs from e)
      have := kset_len (k := k) (d := d) (kvs := kvs)
      rw [List.length_cons]; omega
/-- pairs put, one after the other; the keys lie as values -/
theorem RDk.puts : ∀ {more kvs qs : List (T × D)} {ps rs : List (Key × V)}, RDk K ca m H kvs ps → RDk K ca m H more rs → kputs false kvs more = some qs → RDk K ca m H qs (mergeK ps rs)
  | _, _, _, _, _, h, .nil, e => by cases e; exact h
  | _, kvs, qs, ps, _, h, .cons (k := k) (t := d) k1 h1 r, e => by
    unfold kputs at e
    cases e1 : kput false kvs k d with
    | none => rw [e1] at e; cases e
    | some q =>
      rw [e1] at e
      obtain ⟨_, rfl⟩ := kput_some e1
      have := RDk.puts (RDk.put k1 h1 h) r e
      exact this
theorem pairs1_of {st : Sto} (rs : RS K ca m H st) : ∀ {ds : List D} {vs : List V} {kvs qs acc : List (T × D)}, RDs K ca m H ds vs → asPairs1 ds = some kvs → kputs false acc kvs = some qs → ∃ ps bs, vs = bs.map V.ref ∧ RDk K ca m H kvs ps ∧ Paired (fun p kv => SqT K H p [kV kv.1, kv.2]) bs ps
  | _, _, _, _, _, .nil, e, _ => by cases e; exact ⟨[], [], rfl, .nil, .nil⟩
  | _, _, _, _, _, .cons (d := x) h r, e, z => by
    unfold asPairs1 at e
    split at e
    · rename_i k y q
      obtain ⟨kvs', e1, rfl⟩ := map_some e
      unfold kputs at z
      cases e2 : kput false _ k y with
      | none => rw [e2] at z; cases z
      | some q' =>
        rw [e2] at z
        obtain ⟨f, rfl⟩ := kput_some e2
        obtain ⟨a, ws, rfl, h1, h2, h3⟩ := RD.tupI q h
        obtain ⟨v, w, rfl, g1, g2⟩ := h3.two
        cases g1; rename_i g1
        obtain ⟨kq, hk⟩ := RT.has g1 (by simpa only [kfit] using f)
        obtain ⟨ps, bs, rfl, i1, i2⟩ := pairs1_of rs r e1 z
        refine ⟨(kq, w) :: ps, a :: bs, rfl, .cons hk g2 i1, .cons ?_ i2⟩
        rw [← RT.key g1 hk]
        exact SqT.of h1
    · cases e
theorem allV_rd : ∀ {kvs : List (T × D)} {ts : List (T × T)} {ps : List (Key × V)}, RDk K ca m H kvs ps → allV kvs = some ts → RTk K ca m H ts ps ∧ ts.length = kvs.length
  | _, _, _, .nil, e => by cases e; exact ⟨.nil, rfl⟩
  | _, _, _, .cons (t := d) k h r, e => by
    obtain ⟨b, bs, e1, e2, rfl⟩ := mapM_cons_some e
    cases d <;> cases e1
    cases h; rename_i h
    obtain ⟨i1, i2⟩ := allV_rd r e2
    exact ⟨.cons k h i1, by simp [i2]⟩
theorem allV_rdT : ∀ {kvs : List (T × D)} {ts : List (T × T)} {ps : List (List Key × V)}, RDt K ca m H kvs ps → allV kvs = some ts → RTt K ca m H ts ps ∧ ts.length = kvs.length
  | _, _, _, .nil, e => by cases e; exact ⟨.nil, rfl⟩
  | _, _, _, .cons (t := d) k h r, e => by
    obtain ⟨b, bs, e1, e2, rfl⟩ := mapM_cons_some e
    cases d <;> cases e1
    cases h; rename_i h
    obtain ⟨i1, i2⟩ := allV_rdT r e2
    exact ⟨.cons k h i1, by simp [i2]⟩
end
/-- a new dict's end -/
theorem mkK_end {mu : Bool} {m : Mp} {H : Hp} {st st' : Sto} {kvs : List (T × D)} {ps : List (Key × V)} {d : D} {Q : VK} (r : RS X.K ca m H st) (b : RDk X.K ca m H kvs ps) (l : kvs.length ≤ sizeLine) (e : mkK mu false kvs st = .ok d st') (k : Kq X ca m H d st' Q) : ∀ p, H p = none → Q (.ref p) (upd H p (.dK ps)) := fun p hp => by
  cases mu with
  | true =>
    cases e
    have ex : Ext m H (m.push p) (upd H p (.dK ps)) := Ext.newM hp
    refine k (m.push p) _ _ (r.push hp (.dctK upd_same l (b.ext ex))) (.ref ?_) ex
    show (m.l ++ [some p])[_]? = _
    rw [← r.len]; simp
  | false =>
    have ex : Ext m H m (upd H p (.dK ps)) := Ext.new hp
    unfold mkK at e
    cases q : allV kvs with
    | none => rw [q] at e; cases e
    | some ts =>
      rw [q] at e; cases e
      obtain ⟨i1, i2⟩ := allV_rd b q
      exact k m _ _ (r.new hp) (.v (.dctK (.inl upd_same) (r.outNew hp) (by rw [i2]; exact l) (i1.ext ex))) ex
theorem mkK_endT {mu : Bool} {m : Mp} {H : Hp} {st st' : Sto} {kvs : List (T × D)} {ps : List (List Key × V)} {d : D} {Q : VK} (r : RS X.K ca m H st) (b : RDt X.K ca m H kvs ps) (l : kvs.length ≤ sizeLine) (e : mkK mu true kvs st = .ok d st') (k : Kq X ca m H d st' Q) : ∀ p, H p = none → Q (.ref p) (upd H p (.dT ps)) := fun p hp => by
  cases mu with
  | true =>
    cases e
    have ex : Ext m H (m.push p) (upd H p (.dT ps)) := Ext.newM hp
    refine k (m.push p) _ _ (r.push hp (.dctT upd_same l (b.ext ex))) (.ref ?_) ex
    show (m.l ++ [some p])[_]? = _
    rw [← r.len]; simp
  | false =>
    have ex : Ext m H m (upd H p (.dT ps)) := Ext.new hp
    unfold mkK at e
    cases q : allV kvs with
    | none => rw [q] at e; cases e
    | some ts =>
      rw [q] at e; cases e
      obtain ⟨i1, i2⟩ := allV_rdT b q
      exact k m _ _ (r.new hp) (.v (.dctT (.inl upd_same) (r.outNew hp) (by rw [i2]; exact l) (i1.ext ex))) ex
theorem cb_dict (hc : X.calm = true) {mu : Bool} : CallR X (.type "dict") (rBq X.K ca (one1 (dictOf mu))) := by
  refine cb_one fun pins s σ H v us Q m st d0 d st' I rv r h e k => ?_
  unfold dictOf at e
  cases q2 : asDct st d0 with
  | some p =>
    obtain ⟨tk, kvs⟩ := p
    rw [q2] at e
    cases tk with
    | true => cases e
    | false =>
      obtain ⟨a, rfl, l, dd⟩ := RD.dctI r q2 h
      rcases dd with ⟨_, ps, h1, h2⟩ | ⟨z, _⟩
      · exact call_dictD pins s σ H _ us Q I rv ⟨a, ps, rfl, h1, mkK_end r h2 l e k⟩
      · cases z
  | none =>
    rw [q2] at e
    dsimp only at e
    cases q3 : asPairs st d0 with
    | none => rw [q3] at e; cases e
    | some kvs =>
      rw [q3] at e
      dsimp only at e
      unfold asPairs at q3
      cases q4 : asList st d0 with
      | none => rw [q4] at q3; cases q3
      | some ds =>
        rw [q4] at q3
        obtain ⟨a, vs, rfl, h1, h2, h3⟩ := RD.lstI r q4 h
        cases q5 : kputs false [] kvs with
        | none => rw [q5] at e; cases e
        | some qs =>
          rw [q5] at e
          obtain ⟨ps, bs, rfl, i1, i2⟩ := pairs1_of r h3 q3 q5
          refine call_dictP hc pins s σ H _ us Q I rv ⟨a, bs, ps, rfl, SqL.of h1, i2, mkK_end r (RDk.puts .nil i1 q5) ?_ e k⟩
          have l1 := kputs_len q5
          have l2 := i1.len
          have l3 := Paired.length i2
          have l4 := h3.len
          rw [List.length_map] at l4
          rw [List.length_nil] at l1
          omega
end
end PV
end
section
set_option Elab.async false
set_option linter.all false
set_option maxRecDepth 100000
set_option maxHeartbeats 1000000
/-! FB18: isinstance. -/
namespace PV
open PySem PySem.Spec PyProof.Rows L2
def Ty.nm : Ty → String
  | .bool => "bool"
  | .int => "int"
  | .str => "str"
  | .tuple => "tuple"
  | .list => "list"
  | .dict => "dict"
def Kd.val (ca : Nat → Addr) : Kd → Value
  | .non => .type "NoneType"
  | .bool => .type "bool"
  | .int => .type "int"
  | .str => .type "str"
  | .tuple => .type "tuple"
  | .list => .type "list"
  | .dict => .type "dict"
  | .own c => .ref (ca c)
def clsVal (ca : Nat → Addr) : Sum Ty Nat → Value
  | .inl t => .type t.nm
  | .inr c => .ref (ca c)
/-- what is known of an own class -/
structure ClsOk (K : PySem.W.Frag) (C : Addr) : Prop where
  cl : Cls K C
  ha : PySem.W.findIn K (.ref C) "__class__" = some (some (.builtin "object.__class__"))
  hn : PySem.W.specialIn K (.builtin "object.__class__") "__get__" = some (some (.builtin "getset_descriptor.__get__"))
  htk : PySem.W.takesIn K (.builtin "object.__class__") = some true
  hm : PySem.W.mroIn K C (.type "object") = some true
/-- a value's kind, of an instance its class -/
def KdOk (K : PySem.W.Frag) (ca : Nat → Addr) : Kd → Prop
  | .own c => ClsOk K (ca c)
  | _ => True
theorem kit_base (k : Kd) (hk : ∀ c, k ≠ .own c) (t : Ty) (K : PySem.W.Frag) (ca : Nat → Addr) : PySem.W.kitOne K (k.val ca) (clsVal ca (.inl t)) = some (k.is (.inl t)) := by
  cases k with
  | own c => exact (hk c rfl).elim
  | _ => cases t <;> exact kit_ty (by decide +kernel)
section
variable {X : Cx} {ca : Nat → Addr}
/-- the type of the value at x -/
def Kn (X : Cx) (H : Hp) (x : V) (t : Value) : Prop := ∀ (pins : List (Addr × Obj)) (s : Shared) (σ : L2.St), Inv X pins σ H s → ∀ v, RelV x v → ∃ P, PySem.W.KitX X.K v t P ∧ P s.heap ∧ v ≠ .builtin "__main__.__loader__#opaque"
theorem Kn.of {H : Hp} {x : V} {t : Value} (h : TyX X.K H x t) : Kn X H x t := fun pins s σ I v r => kit_of I r h
theorem Kn.dict {H : Hp} {a : Addr} {m : Mp} {tk : Bool} {kvs : List (T × D)} (h : DctAt X.K ca m H tk kvs a) : Kn X H (.ref a) (.type "dict") := fun pins s σ I v r => by
  cases r
  rcases h with ⟨_, ps, h1, _⟩ | ⟨_, ps, h1, _⟩
  · obtain ⟨_, _, vs, _, o, es, ep, h1, h2, _⟩ := (show ObjOk X.prog X.w H s.heap a (.dK ps) from h1.ok I.hok)
    exact ⟨_, PySem.W.kitx_dict, ⟨o, h1, h2.1⟩, fun z => nomatch z⟩
  · obtain ⟨_, _, vs, _, o, es, ep, h1, h2, _⟩ := (show ObjOk X.prog X.w H s.heap a (.dT ps) from h1.ok I.hok)
    exact ⟨_, PySem.W.kitx_dict, ⟨o, h1, h2.1⟩, fun z => nomatch z⟩
theorem RD.insI {m : Mp} {H : Hp} {st : Sto} {d : D} {c : Nat} {fs : List (Str × D)} {v : V} (r : RS X.K ca m H st) (h : asIns st d = some (c, fs)) (q : RD X.K ca m H d v) : ∃ a dx gs, v = .ref a ∧ H a = some (.ins (ca c) dx gs) ∧ RDf X.K ca m H fs gs := by
  unfold asIns at h
  split at h
  · cases h
    cases q with
    | v q => cases q with
      | obj h1 h2 h3 =>
        refine ⟨_, _, _, rfl, h1, ?_⟩
        clear h1 h2
        rename_i fs' _ _ gs
        have g : ∀ {fs : List (Str × T)} {gs : List (Str × V)}, RTf X.K ca m H fs gs → RDf X.K ca m H (fs.map fun p => (p.1, .v p.2)) gs := by
          intro fs
          induction fs with
          | nil => intro gs h; cases h; exact .nil
          | cons p r ih => intro gs h; cases h with
            | cons a b => exact .cons (.v a) (ih b)
        exact g h3
  · rename_i n
    split at h
    · rename_i c' fs' e
      cases h
      cases q with
      | ref z =>
        obtain ⟨c, h1, h2⟩ := r.cells n _ z
        rw [h1] at e; cases e
        cases h2 with
        | ins h3 h4 => exact ⟨_, _, _, rfl, h3, h4⟩
      | dead z =>
        have q2 := r.dead n z
        rw [cellAt_some] at e
        rw [e] at q2; cases q2
    · cases h
  · cases h
theorem Kn.rd {m : Mp} {H : Hp} {st : Sto} {d : D} {v : V} {k : Kd} (r : RS X.K ca m H st) (h : RD X.K ca m H d v) (e : kindOf st d = some k) (ok : ∀ c, k = .own c → ClsOk X.K (ca c)) : Kn X H v (k.val ca) := by
  unfold kindOf at e
  split at e
  · cases e; cases h; rename_i h; cases h; exact Kn.of (.base .non)
  · cases e; cases h; rename_i h; cases h; exact Kn.of (.base (.bl _))
  · cases e; cases h; rename_i h; cases h; exact Kn.of (.base (.int _))
  · cases e; cases h; rename_i h; cases h; exact Kn.of (.base (.str _))
  · split at e
    · rename_i q
      cases e
      obtain ⟨a, vs, rfl, h1, _⟩ := RD.tupI q h
      exact Kn.of (.base (.tup h1))
    · split at e
      · rename_i q
        cases e
        obtain ⟨a, vs, rfl, h1, _⟩ := RD.lstI r q h
        exact Kn.of (.base (.lst h1))
      · split at e
        · rename_i p q
          cases e
          obtain ⟨a, rfl, _, h1⟩ := RD.dctI (tk := p.1) (kvs := p.2) r q h
          exact Kn.dict h1
        · obtain ⟨p, q, rfl⟩ := map_some e
          obtain ⟨a, dx, gs, rfl, h1, _⟩ := RD.insI (c := p.1) (fs := p.2) r q h
          have o := ok _ rfl
          exact Kn.of (.base (.ins h1 o.cl o.ha o.hn o.htk o.hm))
/-- what isinstance answers of own classes -/
structure IsaOk (K : PySem.W.Frag) (ca : Nat → Addr) (own : List Nat) : Prop where
  ok : ∀ c ∈ own, ClsOk K (ca c)
  ob : ∀ c ∈ own, ∀ t, PySem.W.kitOne K (.ref (ca c)) (clsVal ca (.inl t)) = some false
  bo : ∀ c ∈ own, ∀ k : Kd, (∀ c, k ≠ .own c) → PySem.W.kitOne K (k.val ca) (.ref (ca c)) = some false
  oo : ∀ c ∈ own, ∀ k ∈ own, PySem.W.kitOne K (.ref (ca k)) (.ref (ca c)) = some (decide (k = c))
theorem IsaOk.one {K : PySem.W.Frag} {own : List Nat} (h : IsaOk K ca own) {k : Kd} {c : Sum Ty Nat} (h1 : ownIn own k = true) (h2 : clsIn own c = true) : PySem.W.kitOne K (k.val ca) (clsVal ca c) = some (k.is c) := by
  cases c with
  | inl t =>
    cases k with
    | own c => exact h.ob c (by simpa [ownIn] using h1) t
    | _ => refine kit_base _ ?_ t K ca; intro _ z; cases z
  | inr c =>
    have hc : c ∈ own := by simpa [clsIn] using h2
    cases k with
    | own k => exact h.oo c hc k (by simpa [ownIn] using h1)
    | _ => refine h.bo c hc _ ?_; intro _ z; cases z
theorem IsaOk.any {K : PySem.W.Frag} {own : List Nat} (h : IsaOk K ca own) {k : Kd} (h1 : ownIn own k = true) : ∀ {cs : List (Sum Ty Nat)}, cs.all (clsIn own) = true → PySem.W.kitAny K (k.val ca) (cs.map (clsVal ca)) = some (cs.any k.is)
  | [], _ => rfl
  | c :: r, e => by
    simp only [List.all_cons, Bool.and_eq_true] at e
    have e1 := h.one h1 e.1
    have e2 := h.any h1 e.2
    refine kitAny_cons e1 (fun z => ?_) fun z => ?_
    · rw [e2, List.any_cons, z, Bool.false_or]
    · rw [List.any_cons, z, Bool.true_or]
def rKit (X : Cx) (ca : Nat → Addr) (cs : List (Sum Ty Nat)) : List V → Hp → VK → Prop := fun xs H Q => ∃ x b, (xs = [x, match cs with
    | [.inl t] => .ty t.nm
    | [.inr c] => .ref (ca c)
    | _ => .non] ∧ cs.length = 1 ∨ ∃ tp ws, xs = [x, .ref tp] ∧ H tp = some (.tup ws) ∧ Paired ClsV ws (cs.map (clsVal ca))) ∧ (∃ t, Kn X H x t ∧ PySem.W.kitAny X.K t (cs.map (clsVal ca)) = some b) ∧ Q (.bl b) H
theorem kitAny_one {K : PySem.W.Frag} {t u : Value} {b : Bool} (h : PySem.W.kitAny K t [u] = some b) : PySem.W.kitOne K t u = some b := by
  unfold PySem.W.kitAny at h
  split at h <;> cases h
  · assumption
  · assumption
theorem call_kit {cs : List (Sum Ty Nat)} : CallR X (.builtin "isinstance") (rKit X ca cs) := by
  intro pins s σ H xs us Q I r h
  obtain ⟨x, b, hx, ⟨t, kn, e⟩, q⟩ := h
  rcases hx with ⟨rfl, hl⟩ | ⟨tp, ws, rfl, hT, hp⟩
  · obtain ⟨u1, u2, rfl, r1, r2⟩ := vals2 r
    obtain ⟨P, Z, p, hx⟩ := kn pins s σ I u1 r1
    rcases cs with _ | ⟨c, _ | ⟨c2, rest⟩⟩
    · cases hl
    · have e2 := kitAny_one e
      have eu : u2 = clsVal ca c := by cases c <;> exact r2
      subst eu
      exact PySem.W.kia_one Z I.kIn p e2 hx fun tk => ⟨.bl b, H, I.tok tk, rfl, q⟩
    · simp at hl
  · obtain ⟨u1, u2, rfl, r1, r2⟩ := vals2 r
    cases (show u2 = Value.ref tp from r2)
    obtain ⟨P, Z, p, hx⟩ := kn pins s σ I u1 r1
    obtain ⟨_, its, rv, o, h1, h2, n, h3⟩ := (show ObjOk X.prog X.w H s.heap tp (.tup ws) from I.hok tp _ hT)
    have e3 := ClsV.all hp rv
    subst e3
    obtain ⟨oc, od, dt, sl⟩ := o
    simp only at h2 h3
    subst h2 h3
    exact PySem.W.kia_tup Z I.kIn p h1 e hx fun tk => ⟨.bl b, H, I.tok tk, rfl, q⟩
end
end PV
end
section
set_option Elab.async false
set_option linter.all false
set_option maxRecDepth 100000
set_option maxHeartbeats 1000000
/-! FB19: isinstance of an expression. -/
namespace PV
open PySem PySem.Spec PyProof.Rows L2
section
variable {X : Cx} {ca : Nat → Addr} {W : WX}
def clsV (ca : Nat → Addr) : Sum Ty Nat → V
  | .inl t => .ty t.nm
  | .inr c => .ref (ca c)
theorem clsV_is (c : Sum Ty Nat) : ClsV (clsV ca c) (clsVal ca c) := by
  cases c
  · exact .ty _
  · exact .own _
theorem clsV_all : ∀ cs : List (Sum Ty Nat), Paired ClsV (cs.map (clsV ca)) (cs.map (clsVal ca))
  | [] => .nil
  | c :: r => .cons (clsV_is c) (clsV_all r)
theorem isaK_some {own : List Nat} {k : Kd} {cs : List (Sum Ty Nat)} {b : Bool} (h : isaK own k cs = some b) : ownIn own k = true ∧ cs.all (clsIn own) = true ∧ cs.any k.is = b := by
  unfold isaK at h
  split at h
  · rename_i e
    cases h
    rw [Bool.and_eq_true] at e
    exact ⟨e.1, e.2, rfl⟩
  · cases h
theorem isin_kit {own : List Nat} (ok : IsaOk X.K ca own) {m : Mp} {H : Hp} {st : Sto} {d : D} {v : V} {cs : List (Sum Ty Nat)} {σ : L2.St} {Q : VK} (r : RS X.K ca m H st) (h : RD X.K ca m H d v) (p : Post X.K ca W σ m H (isiK own cs d st) Q) :
    ∃ b t, Kn X H v t ∧ PySem.W.kitAny X.K t (cs.map (clsVal ca)) = some b ∧ Post X.K ca W σ m H (.ok (.v (.bl b)) st) Q := by
  unfold isiK isinst at p
  cases e : kindOf st d with
  | none => rw [e] at p; exact p.elim
  | some k =>
    rw [e] at p
    dsimp only at p
    cases e2 : isaK own k cs with
    | none => rw [e2] at p; exact p.elim
    | some b =>
      rw [e2] at p
      obtain ⟨g1, g2, rfl⟩ := isaK_some e2
      refine ⟨_, _, Kn.rd r h e fun c z => ?_, ok.any g1 g2, p⟩
      subst z
      exact ok.ok c (by simpa [ownIn] using g1)
/-- isinstance(a, C) -/
theorem pe_isi1 {a b : Expr} {p pos : Pos} {fa : Env → M D} {own : List Nat} {c : Sum Ty Nat} (ok : IsaOk X.K ca own) (hg : Gl X "isinstance") (hm : X.mg "isinstance" = none) (ha : PE X a (rdE X.K ca W fa)) (hb : PE X b (tC (clsV ca c)))
    (ka : notStar a = true) (kb : notStar b = true) : PE X (.Call (.Name "isinstance" p) [a, b] [] pos) (rdE X.K ca W fun env => (fa env).bind (isiK own [c])) := by
  refine (pe_callB (call_kit (ca := ca) (cs := [c])) hg hm PyProof.Rows.boot_isinstance (pa_cons ha (pa_cons hb pa_nil (starEach_no kb)) (starEach_no ka)) (by decide) (by decide) (starEach_no ka) (stars_no (by simp [kb]))).imp fun σ H Q h => ?_
  obtain ⟨m, st, env, r, e, p0⟩ := rdE.one h
  refine ⟨m, st, env, r, e, p0.mono fun v H1 ⟨m1, st1, env1, d, r1, e1, d1, p1⟩ => ?_⟩
  obtain ⟨b, t, kn, ka, p2⟩ := isin_kit ok r1 d1 p1
  exact ⟨v, b, .inl ⟨by cases c <;> rfl, rfl⟩, ⟨t, kn, ka⟩, p2.here r1 (.v (.bl b))⟩
/-- the classes of a tuple -/
def tCs (ws : List V) : TA := fun _ H Q => Q ws H
theorem pa_cs0 : PA X [] (tCs []) := pa_nil
theorem pa_cs {b : Expr} {es : List Expr} {w : V} {ws : List V} (hb : PE X b (tC w)) (h : PA X es (tCs ws)) (kb : notStar b = true) : PA X (b :: es) (tCs (w :: ws)) := pa_cons hb h (starEach_no kb)
theorem Kn.upd {H : Hp} {x : V} {t : Value} {p : Addr} {u : HO} {m : Mp} {st : Sto} {d : D} {k : Kd} (hp : H p = none) (r : RS X.K ca m H st) (h : RD X.K ca m H d x) (e : kindOf st d = some k) (ok : ∀ c, k = .own c → ClsOk X.K (ca c)) : Kn X (upd H p u) x (k.val ca) :=
  Kn.rd (r.new hp) (h.ext (Ext.new hp)) e ok
/-- isinstance(a, (C, ..)) -/
theorem pe_isiN {a : Expr} {es : List Expr} {k : Nat} {p pos tpos : Pos} {fa : Env → M D} {own : List Nat} {cs : List (Sum Ty Nat)} (ok : IsaOk X.K ca own) (hg : Gl X "isinstance") (hm : X.mg "isinstance" = none) (ha : PE X a (rdE X.K ca W fa)) (hb : PA X es (tCs (cs.map (clsV ca))))
    (ka : notStar a = true) (hl : cs.length ≤ sizeLine) : PE X (.Call (.Name "isinstance" p) [a, .Tuple es k tpos] [] pos) (rdE X.K ca W fun env => (fa env).bind (isiK own cs)) := by
  refine (pe_callB (call_kit (ca := ca) (cs := cs)) hg hm PyProof.Rows.boot_isinstance (pa_cons ha (pa_cons (pe_tup hb) pa_nil (starEach_no rfl)) (starEach_no ka)) (by decide) (by decide) (starEach_no ka) (stars_no rfl)).imp fun σ H Q h => ?_
  obtain ⟨m, st, env, r, e, p0⟩ := rdE.one h
  refine ⟨m, st, env, r, e, p0.mono fun v H1 ⟨m1, st1, env1, d, r1, e1, d1, p1⟩ => ?_⟩
  refine ⟨by rw [List.length_map]; exact hl, fun q hq => ?_⟩
  have ex : Ext m1 H1 m1 (upd H1 q (.tup (cs.map (clsV ca)))) := Ext.new hq
  obtain ⟨b, t, kn, ka, p2⟩ := isin_kit ok (r1.new hq) (d1.ext ex) (p1.at ex)
  exact ⟨v, b, .inr ⟨q, _, rfl, upd_same, clsV_all cs⟩, ⟨t, kn, ka⟩, p2.here (r1.new hq) (.v (.bl b))⟩
/-- a class's name -/
theorem pe_tyN {x : Str} {t : Ty} {pos : Pos} (hg : Gl X x) (hm : X.mg x = none) (hv : bootBuiltins x = some (.type t.nm)) (hn : x ≠ "__name__") (hd : (x == ("__debug__" : Str)) = false) : PE X (.Name x pos) (tC (clsV ca (.inl t))) := pe_bltn hg hm hv rfl hn hd
theorem pe_ownN {x : Str} {c : Nat} {pos : Pos} (hg : Gl X x) (hm : X.mg x = some (.ref (ca c))) (hd : (x == ("__debug__" : Str)) = false) : PE X (.Name x pos) (tC (clsV ca (.inr c))) := pe_glob hg hm rfl hd
end
end PV
end
section
set_option Elab.async false
set_option linter.all false
set_option maxRecDepth 100000
set_option maxHeartbeats 1000000
/-! FB20: methods of built-in types. -/
namespace PV
open PySem PySem.Spec PyProof.Rows L2
section
variable {X : Cx} {ca : Nat → Addr} {W : WX}
def plainBase : Expr → Bool
  | .Call (.Name _ _) [] [] _ => false
  | _ => true
theorem base_of {o : Expr} {name : Str} {env : PySem.Env} {m : Sem Value} (h : plainBase o = true) : attributeBase o name env m = m := by
  unfold attributeBase
  split
  · simp [plainBase] at h
  · rfl
/-- the receiver is of that type -/
def TyR (X : Cx) (H : Hp) (x : V) (T : String) : Prop := ∀ (pins : List (Addr × Obj)) (s : Shared) (σ : L2.St), Inv X pins σ H s → ∀ v, RelV x v → s.TypeIs v T ∧ ∀ a, v = .ref a → ∃ ob, s.heap.get? a = some ob ∧ ob.dict = none
theorem TyR.ty {H : Hp} {x : V} {T : String} (h : tyV X.K T x H) : TyR X H x T := fun pins s σ I v r => tyV_is I r h
theorem few_plain {es : List Expr} {pos : Pos} {env : PySem.Env} (h : es.all notStar = true) : (backTo pos (starEach es env)).all (fun x => !x.1) = true := by
  induction es with
  | nil => rfl
  | cons e r ih =>
    simp only [List.all_cons, Bool.and_eq_true] at h
    rw [starEach_no h.1]
    show (!false && (backTo pos (starEach r env)).all fun x => !x.1) = true
    rw [ih h.2]; rfl
def tTM (X : Cx) (T : String) (r : V → List V → Hp → VK → Prop) (to : TE) (t : TA) : TE := fun σ H Q => to σ H fun x H1 => TyR X H1 x T ∧ t σ H1 fun xs H2 => r x xs H2 Q
theorem pe_tm {T id : String} {name : Str} {r : V → List V → Hp → VK → Prop} {o e : Expr} {es : List Expr} {to : TE} {t : TA} {apos cpos : Pos} (pa : PlainAttrs T) (slot : Slot T name id) (hty : typeOf (.builtin id) = pure (.type "method_descriptor")) (hm : MtR X id r) (ho : PE X o to) (ha : PA X (e :: es) t)
    (hb : plainBase o = true) (hl : es.length < 28) (hs : (e :: es).all notStar = true) (hline : (apos.endLine == cpos.line) = true) : PE X (.Call (.Attribute o name apos) (e :: es) [] cpos) (tTM X T r to t) := by
  refine ⟨fun pins s σ H Q I h => ?_⟩
  refine wpAny_Call_method_late (base_of hb) ?_ hline rfl (thn (ho.run pins s σ H _ I h) fun v s1 ⟨x, H1, I1, r1, ty, q1⟩ => ?_)
  · rw [few_plain hs]
    show decide (es.length + 1 + 0 + 0 < 30) = true
    exact decide_eq_true (by omega)
  · obtain ⟨h1, h2⟩ := ty pins s1 σ I1 v r1
    refine ⟨T, id, pa, slot, hty, h1, h2, ?_⟩
    have hA := ha.run cpos pins s1 σ H1 _ I1 q1
    have h2 := hs
    simp only [List.all_cons, Bool.and_eq_true] at h2
    have hz := stars_no (pos := cpos) (env := X.env) hs
    rw [starEach_no h2.1] at hA hz ⊢
    exact Calls.callWith_builtin hz (Calls.evalArgs_plain (thn hA fun us s2 ⟨vs, H2, I2, r2, q2⟩ => hm pins s2 σ H2 x vs v us Q I2 r1 r2 q2))
def tTM0 (X : Cx) (T : String) (r : V → List V → Hp → VK → Prop) (to : TE) : TE := fun σ H Q => to σ H fun x H1 => TyR X H1 x T ∧ r x [] H1 Q
theorem pe_tm0 {T id : String} {name : Str} {r : V → List V → Hp → VK → Prop} {o : Expr} {to : TE} {apos cpos : Pos} (pa : PlainAttrs T) (slot : Slot T name id) (hty : typeOf (.builtin id) = pure (.type "method_descriptor")) (hm : MtR X id r) (ho : PE X o to)
    (hb : plainBase o = true) (hline : (apos.endLine == cpos.line) = true) : PE X (.Call (.Attribute o name apos) [] [] cpos) (tTM0 X T r to) := by
  refine ⟨fun pins s σ H Q I h => ?_⟩
  refine wpAny_Call_method0_late (base_of hb) hline (thn (ho.run pins s σ H _ I h) fun v s1 ⟨x, H1, I1, r1, ty, q1⟩ => ?_)
  obtain ⟨h1, h2⟩ := ty pins s1 σ I1 v r1
  exact ⟨T, id, pa, slot, hty, h1, h2, Calls.callWith_builtin rfl (PySem.evalArgs_none (hm pins s1 σ H1 x [] v [] Q I1 r1 .nil q1))⟩
/-- a method's reading -/
def rMq (K : PySem.W.Frag) (ca : Nat → Addr) (g : D → List D → M D) : V → List V → Hp → VK → Prop := fun x vs H Q => ∃ m st d0 ds, RS K ca m H st ∧ RD K ca m H d0 x ∧ RDs K ca m H ds vs ∧ ∃ d st', g d0 ds st = .ok d st' ∧ ∀ m' H' v, RS K ca m' H' st' → RD K ca m' H' d v → Ext m H m' H' → Q v H'
def QuietM (g : D → List D → M D) : Prop := ∀ d, QuietL (g d)
theorem pe_tq {T id : String} {name : Str} {o e : Expr} {es : List Expr} {apos cpos : Pos} {fo : Env → M D} {f : Env → M (List D)} {g : D → List D → M D} {ok : Option Kd → Bool} (hok : ∀ {m H st d x}, RS X.K ca m H st → RD X.K ca m H d x → ok (kindOf st d) = true → TyR X H x T)
    (pa : PlainAttrs T) (slot : Slot T name id) (hty : typeOf (.builtin id) = pure (.type "method_descriptor")) (hq : QuietM g) (hm : MtR X id (rMq X.K ca g)) (ho : PE X o (rdE X.K ca W fo)) (ha : PA X (e :: es) (rdL X.K ca W f))
    (hb : plainBase o = true) (hl : es.length < 28) (hs : (e :: es).all notStar = true) (hline : (apos.endLine == cpos.line) = true) : PE X (.Call (.Attribute o name apos) (e :: es) [] cpos) (rdE X.K ca W fun env => (fo env).bind fun x s => (guardM (ok (kindOf s x)) s).bind fun _ => (f env).bind fun ds => g x ds) := by
  refine (pe_tm pa slot hty hm ho ha hb hl hs hline).imp fun σ H Q ⟨m, st, env, r, e, p⟩ => ?_
  refine ⟨m, st, env, r, e, (Post.bind p).mono fun x H1 ⟨m1, st1, d, r1, d1, ex, p1⟩ => ?_⟩
  obtain ⟨k, p1⟩ := guard_ok (α := Unit) (g := fun _ => (f env).bind fun ds => g d ds) p1
  refine ⟨hok r1 d1 k, m1, st1, env, r1, e.ext ex, (Post.bindL p1).mono fun vs H2 ⟨m2, st2, ds, r2, d2, ex2, p2⟩ => ?_⟩
  obtain ⟨d', st', e', k'⟩ := PostL.quiet (hq d) p2
  exact ⟨m2, st2, d, ds, r2, d1.ext ex2, d2, d', st', e', k'⟩
theorem pe_tq0 {T id : String} {name : Str} {o : Expr} {apos cpos : Pos} {fo : Env → M D} {g : D → List D → M D} {ok : Option Kd → Bool} (hok : ∀ {m H st d x}, RS X.K ca m H st → RD X.K ca m H d x → ok (kindOf st d) = true → TyR X H x T)
    (pa : PlainAttrs T) (slot : Slot T name id) (hty : typeOf (.builtin id) = pure (.type "method_descriptor")) (hq : QuietM g) (hm : MtR X id (rMq X.K ca g)) (ho : PE X o (rdE X.K ca W fo))
    (hb : plainBase o = true) (hline : (apos.endLine == cpos.line) = true) : PE X (.Call (.Attribute o name apos) [] [] cpos) (rdE X.K ca W fun env => (fo env).bind fun x s => (guardM (ok (kindOf s x)) s).bind fun _ => g x []) := by
  refine (pe_tm0 pa slot hty hm ho hb hline).imp fun σ H Q ⟨m, st, env, r, e, p⟩ => ?_
  refine ⟨m, st, env, r, e, (Post.bind p).mono fun x H1 ⟨m1, st1, d, r1, d1, ex, p1⟩ => ?_⟩
  obtain ⟨k, p1⟩ := guard_ok (α := Unit) (g := fun _ => g d []) p1
  obtain ⟨d', st', e', k'⟩ := PostL.quiet (hq d) p1
  exact ⟨hok r1 d1 k, m1, st1, d, [], r1, d1, .nil, d', st', e', k'⟩
/-- by which place of the store is written -/
theorem Ext.set {m : Mp} {H : Hp} {n : Nat} {a : Addr} {u : HO} (h : m.l[n]? = some (some a)) (hh : a ∉ m.h) (hf : ∀ o w, H a ≠ some (.frz o w)) : Ext m H m (upd H a u) := by
  have ne : ∀ b, Out m b → b ≠ a := fun b o z => o.c n (by rw [z]; exact h)
  refine ⟨fun _ _ h => .inl h, fun b w r o => ?_, fun b w e o _ _ => ?_, fun b o w e => ?_, fun b w e o => o, fun b w h e => ?_, rfl⟩
  · rcases r with r | ⟨ob, r⟩
    · exact .inl (by rw [upd_ne (ne b o)]; exact r)
    · exact .inr ⟨ob, by rw [upd_ne (ne b o)]; exact r⟩
  · rw [upd_ne (ne b o)]; exact e
  · rw [upd_ne]
    · exact e
    · intro z; rw [z] at e; exact hf _ _ e
  · rw [upd_ne]
    · exact e
    · intro z; rw [z] at h; exact hh h
theorem RS.set {m : Mp} {H : Hp} {st : Sto} {n : Nat} {a : Addr} {u : HO} {c : Cell} (r : RS X.K ca m H st) (h : m.l[n]? = some (some a)) (hf : ∀ o w, H a ≠ some (.frz o w)) (hc : RC X.K ca m (upd H a u) c a) : RS X.K ca m (upd H a u) (st.set n (some c)) := by
  have ex : Ext m H m (upd H a u) := Ext.set h (r.apart n a h) hf
  have ln : n < st.length := by
    rw [← r.len]
    exact (List.getElem?_eq_some_iff.mp h).1
  refine ⟨by rw [List.length_set]; exact r.len, r.inj, fun k b hk => ?_, fun k hk => ?_, r.apart, fun b hb => ?_⟩
  · by_cases z : k = n
    · subst z
      rw [h] at hk; cases hk
      exact ⟨c, by rw [cellAt_some, List.getElem?_set_self ln], hc⟩
    · obtain ⟨c', h1, h2⟩ := r.cells k b hk
      refine ⟨c', ?_, h2.ext ex ?_⟩
      · rw [cellAt_some] at h1 ⊢
        rw [List.getElem?_set_ne (Ne.symm z)]; exact h1
      · rw [upd_ne]
        intro e; subst e
        exact z (r.inj _ _ _ hk h)
  · rw [List.getElem?_set_ne]
    · exact r.dead k hk
    · intro z; subst z; rw [h] at hk; cases hk
  · rcases r.hs b hb with ⟨_, e⟩ | ⟨_, e⟩ | ⟨_, e⟩
    · exact .inl ⟨_, ex.hid _ _ hb e⟩
    · exact .inr (.inl ⟨_, ex.hid _ _ hb e⟩)
    · exact .inr (.inr ⟨_, ex.hid _ _ hb e⟩)
theorem kd_list {m : Mp} {H : Hp} {st : Sto} {d : D} {x : V} (r : RS X.K ca m H st) (h : RD X.K ca m H d x) (e : kindOf st d = some .list) : TyR X H x "list" := by
  unfold kindOf at e
  split at e <;> try cases e
  split at e
  · cases e
  · split at e
    · rename_i q
      obtain ⟨a, vs, rfl, h1, _⟩ := RD.lstI r q h
      exact TyR.ty (.inl ⟨rfl, vs, SqL.of h1⟩)
    · split at e
      · cases e
      · obtain ⟨_, _, z⟩ := map_some e; cases z
theorem kd_dict {m : Mp} {H : Hp} {st : Sto} {d : D} {x : V} (r : RS X.K ca m H st) (h : RD X.K ca m H d x) (e : kindOf st d = some .dict) : TyR X H x "dict" := by
  unfold kindOf at e
  split at e <;> try cases e
  split at e
  · cases e
  · split at e
    · cases e
    · split at e
      · rename_i p q
        obtain ⟨a, rfl, _, h1⟩ := RD.dctI (tk := p.1) (kvs := p.2) r q h
        intro pins s σ I v rv
        cases rv
        have hd : IsD H a := by
          rcases h1 with ⟨_, ps, h1, _⟩ | ⟨_, ps, h1, _⟩
          · exact .inl ⟨ps, h1⟩
          · exact .inr ⟨ps, h1⟩
        obtain ⟨t1, t2, _⟩ := isD_at I hd
        exact ⟨t1, t2⟩
      · obtain ⟨_, _, z⟩ := map_some e; cases z
theorem kd_str {m : Mp} {H : Hp} {st : Sto} {d : D} {x : V} (r : RS X.K ca m H st) (h : RD X.K ca m H d x) (e : kindOf st d = some .str) : TyR X H x "str" := by
  unfold kindOf at e
  split at e <;> try cases e
  · cases h; rename_i h; cases h
    exact TyR.ty rfl
  · split at e
    · cases e
    · split at e
      · cases e
      · split at e
        · cases e
        · obtain ⟨_, _, z⟩ := map_some e; cases z
theorem lstAt_I {m : Mp} {H : Hp} {st : Sto} {d : D} {x : V} {n : Nat} {xs : List D} (r : RS X.K ca m H st) (h : RD X.K ca m H d x) (e : lstAt st d = some (n, xs)) : ∃ a vs, x = .ref a ∧ m.l[n]? = some (some a) ∧ H a = some (.lst vs) ∧ xs.length ≤ sizeLine ∧ RDs X.K ca m H xs vs := by
  unfold lstAt at e
  split at e
  · rename_i k
    split at e
    · rename_i ds q
      cases e
      cases h with
      | ref z =>
        obtain ⟨c, h1, h2⟩ := r.cells n _ z
        rw [h1] at q; cases q
        cases h2 with
        | lst h3 h4 h5 => exact ⟨_, _, rfl, z, h3, h4, h5⟩
      | dead z =>
        have q2 := r.dead n z
        rw [cellAt_some] at q
        rw [q] at q2; cases q2
    · cases e
  · cases e
/-- a list's cell written: the end -/
theorem lst_end {m : Mp} {H : Hp} {st : Sto} {n : Nat} {a : Addr} {vs vs' : List V} {ds : List D} {d : D} {v : V} {Q : VK} (r : RS X.K ca m H st) (h : m.l[n]? = some (some a)) (ha : H a = some (.lst vs)) (b : RDs X.K ca m H ds vs') (l : ds.length ≤ sizeLine) (hd : RD X.K ca m H d v)
    (k : Kq X ca m H d (st.set n (some (.lst ds))) Q) : Q v (upd H a (.lst vs')) := by
  have hf : ∀ o w, H a ≠ some (.frz o w) := fun o w z => by rw [ha] at z; cases z
  have ex : Ext m H m (upd H a (.lst vs')) := Ext.set h (r.apart n a h) hf
  exact k m _ _ (r.set h hf (.lst upd_same l (b.ext ex))) (hd.ext ex) ex
theorem quiet_guard {α : Type} {b : Bool} {st st' : Sto} {k : Unit → M α} {d : α} (h : (guardM b st).bind k = .ok d st') : b = true ∧ k () st = .ok d st' := by
  cases b
  · cases h
  · exact ⟨rfl, h⟩
def gOne (g : D → D → M D) : D → List D → M D := fun d ds => match ds with
  | [x] => g d x
  | _ => M.bad
def gNone (g : D → M D) : D → List D → M D := fun d ds => match ds with
  | [] => g d
  | _ => M.bad
def gTwo (g : D → D → D → M D) : D → List D → M D := fun d ds => match ds with
  | [x, y] => g d x y
  | _ => M.bad
theorem gOne_q {g : D → D → M D} (h : ∀ d, QuietD (g d)) : QuietM (gOne g) := fun d ds st c fs s e => by
  unfold gOne at e
  split at e
  · exact h _ _ _ _ _ _ e
  · cases e
theorem gNone_q {g : D → M D} (h : QuietD g) : QuietM (gNone g) := fun d ds st c fs s e => by
  unfold gNone at e
  split at e
  · exact h _ _ _ _ _ e
  · cases e
theorem gTwo_q {g : D → D → D → M D} (h : ∀ d x, QuietD (g d x)) : QuietM (gTwo g) := fun d ds st c fs s e => by
  unfold gTwo at e
  split at e
  · exact h _ _ _ _ _ _ _ e
  · cases e
theorem tmeth_append {m : Bool} {o : D} {ds : List D} : tmeth m o .append ds = gOne tmAppend o ds := by
  rcases ds with _ | ⟨a, _ | ⟨b, r⟩⟩ <;> rfl
theorem tmeth_extend {m : Bool} {o : D} {ds : List D} : tmeth m o .extend ds = gOne tmExtend o ds := by
  rcases ds with _ | ⟨a, _ | ⟨b, r⟩⟩ <;> rfl
theorem tmeth_popi {m : Bool} {o : D} {ds : List D} : tmeth m o .popi ds = gOne tmPopi o ds := by
  rcases ds with _ | ⟨a, _ | ⟨b, r⟩⟩ <;> rfl
theorem tmeth_pop {m : Bool} {o : D} {ds : List D} : tmeth m o .pop ds = gNone tmPop o ds := by
  rcases ds with _ | ⟨a, _ | ⟨b, r⟩⟩ <;> rfl
theorem tmeth_clear {m : Bool} {o : D} {ds : List D} : tmeth m o .clear ds = gNone tmClear o ds := by
  rcases ds with _ | ⟨a, _ | ⟨b, r⟩⟩ <;> rfl
theorem tmeth_get {m : Bool} {o : D} {ds : List D} : tmeth m o .get ds = gOne (fun o k => tmGet o k (.v .non)) o ds := by
  rcases ds with _ | ⟨a, _ | ⟨b, r⟩⟩ <;> rfl
theorem tmeth_get2 {m : Bool} {o : D} {ds : List D} : tmeth m o .get2 ds = gTwo tmGet o ds := by
  rcases ds with _ | ⟨a, _ | ⟨b, _ | ⟨c, r⟩⟩⟩ <;> rfl
theorem mq_append : MtR X "list.append" (rMq X.K ca (gOne tmAppend)) := by
  intro pins s σ H x xs v us Q I rx rv ⟨m, st, d0, ds, r, rd0, rds, d, st', e, k⟩
  rcases ds with _ | ⟨y, _ | ⟨y2, ds⟩⟩
  · cases e
  · obtain ⟨w, rfl, ry⟩ := rds.one
    have e : tmAppend d0 y st = .ok d st' := e
    unfold tmAppend at e
    cases q : lstAt st d0 with
    | none => rw [q] at e; cases e
    | some p =>
      obtain ⟨n, xs⟩ := p
      rw [q] at e
      have e : (guardM (decide (xs.length < LIM)) st).bind (fun (_ : Unit) s => Res.ok (D.v .non) (s.set n (some (.lst (xs ++ [y]))))) = .ok d st' := e
      obtain ⟨g, e⟩ := quiet_guard e
      cases e
      have g := of_decide_eq_true g
      obtain ⟨a, vs, rfl, h1, h2, h3, h4⟩ := lstAt_I r rd0 q
      refine mt_append pins s σ H _ _ v us Q I rx rv ⟨a, vs, w, rfl, rfl, h2, ?_, ?_⟩
      · rw [← h4.len, sizeLine_eq]; unfold LIM at g; omega
      · refine lst_end r h1 h2 (h4.app (.cons ry .nil)) ?_ (.v .non) k
        rw [List.length_append, List.length_singleton, sizeLine_eq]; unfold LIM at g; omega
  · cases e
theorem mq_extend : MtR X "list.extend" (rMq X.K ca (gOne tmExtend)) := by
  intro pins s σ H x xs v us Q I rx rv ⟨m, st, d0, ds, r, rd0, rds, d, st', e, k⟩
  rcases ds with _ | ⟨y, _ | ⟨y2, ds⟩⟩
  · cases e
  · obtain ⟨w, rfl, ry⟩ := rds.one
    have e : tmExtend d0 y st = .ok d st' := e
    unfold tmExtend at e
    cases q : lstAt st d0 with
    | none => rw [q] at e; cases e
    | some p =>
      obtain ⟨n, xs⟩ := p
      rw [q] at e
      cases q2 : asList st y with
      | none => rw [q2] at e; cases e
      | some ys =>
        rw [q2] at e
        have e : (guardM (decide (xs.length + ys.length ≤ LIM)) st).bind (fun (_ : Unit) s => Res.ok (D.v .non) (s.set n (some (.lst (xs ++ ys))))) = .ok d st' := e
        obtain ⟨g, e⟩ := quiet_guard e
        cases e
        have g := lim_le (of_decide_eq_true g)
        obtain ⟨a, vs, rfl, h1, h2, h3, h4⟩ := lstAt_I r rd0 q
        obtain ⟨b, ws, rfl, g2, g3, g4⟩ := RD.lstI r q2 ry
        refine mt_extend pins s σ H _ _ v us Q I rx rv ⟨a, b, vs, ws, rfl, rfl, h2, g2, ?_, ?_⟩
        · rw [← h4.len, ← g4.len]; exact g
        · refine lst_end r h1 h2 (h4.app g4) ?_ (.v .non) k
          rw [List.length_append]; exact g
  · cases e
theorem RDs.erase {K : PySem.W.Frag} {m : Mp} {H : Hp} : ∀ {ds : List D} {vs : List V} (j : Nat), RDs K ca m H ds vs → RDs K ca m H (ds.eraseIdx j) (vs.eraseIdx j)
  | _, _, _, .nil => .nil
  | _, _, 0, .cons h r => r
  | _, _, j + 1, .cons h r => .cons h (RDs.erase j r)
theorem mq_popi : MtR X "list.pop" (rMq X.K ca (gOne tmPopi)) := by
  intro pins s σ H x xs v us Q I rx rv ⟨m, st, d0, ds, r, rd0, rds, d, st', e, k⟩
  rcases ds with _ | ⟨y, _ | ⟨y2, ds⟩⟩
  · cases e
  · obtain ⟨w, rfl, ry⟩ := rds.one
    have e : tmPopi d0 y st = .ok d st' := e
    unfold tmPopi at e
    cases q : lstAt st d0 with
    | none => rw [q] at e; cases e
    | some p =>
      obtain ⟨n, xs⟩ := p
      rw [q] at e
      cases q2 : asI y with
      | none => rw [q2] at e; cases e
      | some i =>
        rw [q2] at e
        dsimp only at e
        cases q3 : place xs.length i with
        | none => rw [q3] at e; cases e
        | some j =>
          rw [q3] at e
          dsimp only at e
          cases q4 : xs[j]? with
          | none => rw [q4] at e; cases e
          | some z =>
            rw [q4] at e
            cases e
            obtain ⟨a, vs, rfl, h1, h2, h3, h4⟩ := lstAt_I r rd0 q
            have ew : w = .int i := by
              unfold asI at q2
              split at q2 <;> cases q2
              cases ry; rename_i ry; cases ry; rfl
            subst ew
            obtain ⟨zv, hz, rz⟩ := h4.get q4
            have hs : sizeLine = 16777216 := sizeLine_eq
            obtain ⟨hx1, hx2, hx3, hx4⟩ := ixN_seq (show ixN xs.length i = some j from q3)
            refine mt_popAt pins s σ H _ _ v us Q I rx rv ⟨a, vs, i, j, zv, rfl, rfl, h2, by omega, by omega, ?_, hz, ?_⟩
            · rw [← h4.len]; exact hx1
            · refine lst_end r h1 h2 (h4.erase j) ?_ rz k
              exact Nat.le_trans (List.length_eraseIdx_le ..) h3
  · cases e
end
end PV
end
section
set_option Elab.async false
set_option linter.all false
set_option maxRecDepth 100000
set_option maxHeartbeats 1000000
/-! FB21: methods of built-in types, more. -/
namespace PV
open PySem PySem.Spec PyProof.Rows L2
section
variable {X : Cx} {ca : Nat → Addr} {W : WX}
theorem quietD_guard {α : Type} {b : Bool} {st : Sto} {k : Unit → M α} {c fs s} (h : (guardM b st).bind k = .ex c fs s) : k () st = .ex c fs s := guard_q h
theorem tmAppend_q (o : D) : QuietD (tmAppend o) := fun d st c fs s h => by
  unfold tmAppend at h
  split at h
  · exact absurd (guard_q h) (by intro z; cases z)
  · cases h
theorem tmExtend_q (o : D) : QuietD (tmExtend o) := fun d st c fs s h => by
  unfold tmExtend at h
  split at h
  · exact absurd (guard_q h) (by intro z; cases z)
  · cases h
theorem tmPopi_q (o : D) : QuietD (tmPopi o) := fun d st c fs s h => by
  unfold tmPopi at h
  (repeat (first | cases h | (split at h)))
theorem tmPop_q : QuietD tmPop := fun d st c fs s h => by
  unfold tmPop at h
  (repeat (first | cases h | (split at h)))
theorem tmClear_q : QuietD tmClear := fun d st c fs s h => by
  unfold tmClear at h
  (repeat (first | cases h | (split at h)))
theorem tmGet_q (o k : D) : QuietD (tmGet o k) := fun d st c fs s h => by
  unfold tmGet at h
  split at h
  · exact absurd (guard_q h) (by intro z; cases z)
  · cases h
theorem RDs.last {K : PySem.W.Frag} {m : Mp} {H : Hp} {ds : List D} {vs : List V} {d : D} (h : RDs K ca m H ds vs) (e : ds.getLast? = some d) : ∃ v, vs[vs.length - 1]? = some v ∧ RD K ca m H d v := by
  rw [List.getLast?_eq_getElem?, h.len] at e
  exact h.get e
theorem RDs.dropLast {K : PySem.W.Frag} {m : Mp} {H : Hp} : ∀ {ds : List D} {vs : List V}, RDs K ca m H ds vs → RDs K ca m H ds.dropLast vs.dropLast
  | _, _, .nil => .nil
  | _, _, .cons h .nil => .nil
  | _, _, .cons h (.cons h2 r) => .cons h (RDs.dropLast (.cons h2 r))
theorem mq_pop : MtR X "list.pop" (rMq X.K ca (gNone tmPop)) := by
  intro pins s σ H x xs v us Q I rx rv ⟨m, st, d0, ds, r, rd0, rds, d, st', e, k⟩
  rcases ds with _ | ⟨y, ds⟩
  · cases rds
    have e : tmPop d0 st = .ok d st' := e
    unfold tmPop at e
    cases q : lstAt st d0 with
    | none => rw [q] at e; cases e
    | some p =>
      obtain ⟨n, xs⟩ := p
      rw [q] at e
      dsimp only at e
      cases q4 : xs.getLast? with
      | none => rw [q4] at e; cases e
      | some z =>
        rw [q4] at e
        cases e
        obtain ⟨a, vs, rfl, h1, h2, h3, h4⟩ := lstAt_I r rd0 q
        obtain ⟨zv, hz, rz⟩ := h4.last q4
        refine mt_pop pins s σ H _ _ v us Q I rx rv ⟨a, vs, zv, rfl, rfl, h2, hz, ?_⟩
        refine lst_end r h1 h2 h4.dropLast ?_ rz k
        rw [List.length_dropLast]; omega
  · cases e
theorem mq_clear : MtR X "list.clear" (rMq X.K ca (gNone tmClear)) := by
  intro pins s σ H x xs v us Q I rx rv ⟨m, st, d0, ds, r, rd0, rds, d, st', e, k⟩
  rcases ds with _ | ⟨y, ds⟩
  · cases rds
    have e : tmClear d0 st = .ok d st' := e
    unfold tmClear at e
    cases q : lstAt st d0 with
    | none => rw [q] at e; cases e
    | some p =>
      obtain ⟨n, xs⟩ := p
      rw [q] at e
      cases e
      obtain ⟨a, vs, rfl, h1, h2, h3, h4⟩ := lstAt_I r rd0 q
      exact mt_clear pins s σ H _ _ v us Q I rx rv ⟨a, vs, rfl, rfl, h2, lst_end r h1 h2 .nil (Nat.zero_le _) (.v .non) k⟩
  · cases e
theorem RO.getD {K : PySem.W.Frag} {m : Mp} {H : Hp} {o : Option D} {r : Option V} {d : D} {v : V} (h : RO K ca m H o r) (q : RD K ca m H d v) : RD K ca m H (o.getD d) (r.getD v) := by
  rcases h with ⟨rfl, rfl⟩ | ⟨d', v', rfl, rfl, h⟩
  · exact q
  · exact h
theorem get_at (hu : X.A.units + 1 < cLine) {pins : List (Addr × Obj)} {s : Shared} {σ : L2.St} {H : Hp} {x y z : V} {v u : Value} {Q : VK} {m : Mp} {st st' : Sto} {o k d r : D} (I : Inv X pins σ H s) (rx : RelV x v) (ry : RelV y u) (rs : RS X.K ca m H st) (ro : RD X.K ca m H o x) (rk : RD X.K ca m H k y)
    (rd : RD X.K ca m H d z) (e : tmGet o k d st = .ok r st') (kq : Kq X ca m H r st' Q) : ∃ a ov, v = .ref a ∧ DGet H a y ov ∧ Q (ov.getD z) H := by
  unfold tmGet at e
  cases q : asDct st o with
  | none => rw [q] at e; cases e
  | some p =>
    obtain ⟨tk, kvs⟩ := p
    rw [q] at e
    cases k with
    | v kt =>
      have e : (guardM (kfit tk kt) st).bind (fun (_ : Unit) => M.ret ((kget kvs kt).getD d)) = .ok r st' := e
      obtain ⟨g, e⟩ := quiet_guard e
      cases e
      obtain ⟨a, rfl, l, dd⟩ := RD.dctI rs q ro
      cases rk; rename_i rk
      obtain ⟨ov, g1, g2⟩ := kfit_get dd rk g
      cases rx
      exact ⟨a, ov, rfl, g1, RS.same kq rs (g2.getD rd)⟩
    | _ => cases e
theorem mq_get (hu : X.A.units + 1 < cLine) : MtR X "dict.get" (rMq X.K ca (gOne fun o k => tmGet o k (.v .non))) := by
  intro pins s σ H x xs v us Q I rx rv ⟨m, st, d0, ds, r, rd0, rds, d, st', e, k⟩
  rcases ds with _ | ⟨y, _ | ⟨y2, ds⟩⟩
  · cases e
  · obtain ⟨w, rfl, ry⟩ := rds.one
    obtain ⟨u, rfl, ru⟩ := vals1 rv
    obtain ⟨a, ov, rfl, g1, g2⟩ := get_at hu I rx ru r rd0 ry (.v .non) e k
    exact d_get1 hu I g1 ru fun w' s' I' rw' => ⟨_, H, I', rw', g2⟩
  · cases e
theorem mq_get2 (hu : X.A.units + 1 < cLine) : MtR X "dict.get" (rMq X.K ca (gTwo tmGet)) := by
  intro pins s σ H x xs v us Q I rx rv ⟨m, st, d0, ds, r, rd0, rds, d, st', e, k⟩
  rcases ds with _ | ⟨y, _ | ⟨y2, _ | ⟨y3, ds⟩⟩⟩
  · cases e
  · cases e
  · obtain ⟨w, w2, rfl, ry, ry2⟩ := rds.two
    obtain ⟨u, u2, rfl, ru, ru2⟩ := vals2 rv
    obtain ⟨a, ov, rfl, g1, g2⟩ := get_at hu I rx ru r rd0 ry ry2 e k
    exact d_get2 hu I g1 ru ru2 fun w' s' I' rw' => ⟨_, H, I', rw', g2⟩
  · cases e
end
end PV
end
section
set_option Elab.async false
set_option linter.all false
set_option maxRecDepth 100000
set_option maxHeartbeats 1000000
/-! FB22: a call's end: cells that nobody names any more are dropped. -/
namespace PV
open PySem PySem.Spec PyProof.Rows L2
section
variable {K : PySem.W.Frag} {ca : Nat → Addr} {m m' : Mp} {H : Hp}
/-- a smaller map, as far as L -/
structure Cut (L : Nat) (m m' : Mp) : Prop where
  at_ : ∀ n, n < L → m'.l[n]? = m.l[n]?
  out : ∀ a, Out m a → Out m' a
mutual
theorem RT.fewer (h : ∀ a, Out m a → Out m' a) : ∀ {t : T} {v : V}, RT K ca m H t v → RT K ca m' H t v
  | _, _, .non => .non
  | _, _, .bl b => .bl b
  | _, _, .int i => .int i
  | _, _, .str x o => .str x o
  | _, _, .tup a o l r => .tup a (h _ o) l (RTs.fewer h r)
  | _, _, .lst a o l r => .lst a (h _ o) l (RTs.fewer h r)
  | _, _, .scr a => .scr a
  | _, _, .dctK a o l r => .dctK a (h _ o) l (RTk.fewer h r)
  | _, _, .dctT a o l r => .dctT a (h _ o) l (RTt.fewer h r)
  | _, _, .obj a o r => .obj a (h _ o) (RTf.fewer h r)
theorem RTs.fewer (h : ∀ a, Out m a → Out m' a) : ∀ {ts : List T} {vs : List V}, RTs K ca m H ts vs → RTs K ca m' H ts vs
  | _, _, .nil => .nil
  | _, _, .cons a r => .cons (RT.fewer h a) (RTs.fewer h r)
theorem RTk.fewer (h : ∀ a, Out m a → Out m' a) : ∀ {ts : List (T × T)} {vs : List (Key × V)}, RTk K ca m H ts vs → RTk K ca m' H ts vs
  | _, _, .nil => .nil
  | _, _, .cons k a r => .cons k (RT.fewer h a) (RTk.fewer h r)
theorem RTt.fewer (h : ∀ a, Out m a → Out m' a) : ∀ {ts : List (T × T)} {vs : List (List Key × V)}, RTt K ca m H ts vs → RTt K ca m' H ts vs
  | _, _, .nil => .nil
  | _, _, .cons k a r => .cons k (RT.fewer h a) (RTt.fewer h r)
theorem RTf.fewer (h : ∀ a, Out m a → Out m' a) : ∀ {ts : List (Str × T)} {vs : List (Str × V)}, RTf K ca m H ts vs → RTf K ca m' H ts vs
  | _, _, .nil => .nil
  | _, _, .cons a r => .cons (RT.fewer h a) (RTf.fewer h r)
end
variable {L : Nat}
mutual
theorem RD.lower (c : Cut L m m') : ∀ {d : D} {v : V}, D.closed L d = true → RD K ca m H d v → RD K ca m' H d v
  | _, _, e, .v h => .v (h.fewer c.out)
  | _, _, e, .ref h => .ref (by rw [c.at_ _ (of_decide_eq_true e)]; exact h)
  | _, _, e, .dead h => .dead (by rw [c.at_ _ (of_decide_eq_true e)]; exact h)
  | _, _, e, .tp a o l r => .tp a (c.out _ o) l (RDs.lower c e r)
  | _, _, e, .lp a o l r => .lp a (c.out _ o) l (RDs.lower c e r)
theorem RDs.lower (c : Cut L m m') : ∀ {ds : List D} {vs : List V}, D.closeds L ds = true → RDs K ca m H ds vs → RDs K ca m' H ds vs
  | _, _, _, .nil => .nil
  | _, _, e, .cons h r => by
    simp only [D.closeds, Bool.and_eq_true] at e
    exact .cons (RD.lower c e.1 h) (RDs.lower c e.2 r)
end
theorem RDk.lower (c : Cut L m m') : ∀ {ts : List (T × D)} {vs : List (Key × V)}, (ts.all fun p => p.2.closed L) = true → RDk K ca m H ts vs → RDk K ca m' H ts vs
  | _, _, _, .nil => .nil
  | _, _, e, .cons k h r => by
    simp only [List.all_cons, Bool.and_eq_true] at e
    exact .cons k (h.lower c e.1) (RDk.lower c e.2 r)
theorem RDt.lower (c : Cut L m m') : ∀ {ts : List (T × D)} {vs : List (List Key × V)}, (ts.all fun p => p.2.closed L) = true → RDt K ca m H ts vs → RDt K ca m' H ts vs
  | _, _, _, .nil => .nil
  | _, _, e, .cons k h r => by
    simp only [List.all_cons, Bool.and_eq_true] at e
    exact .cons k (h.lower c e.1) (RDt.lower c e.2 r)
theorem RDf.lower (c : Cut L m m') : ∀ {ts : List (Str × D)} {vs : List (Str × V)}, (ts.all fun p => p.2.closed L) = true → RDf K ca m H ts vs → RDf K ca m' H ts vs
  | _, _, _, .nil => .nil
  | _, _, e, .cons h r => by
    simp only [List.all_cons, Bool.and_eq_true] at e
    exact .cons (h.lower c e.1) (RDf.lower c e.2 r)
theorem RC.lower (c : Cut L m m') {x : Cell} {a : Addr} (e : x.closed L = true) (h : RC K ca m H x a) : RC K ca m' H x a := by
  cases h with
  | lst h l r => exact .lst h l (r.lower c e)
  | dctK h l r => exact .dctK h l (r.lower c e)
  | dctT h l r => exact .dctT h l (r.lower c e)
  | ins h r => exact .ins h (r.lower c e)
theorem take_get {α : Type} {l : List α} {L n : Nat} (h : n < L) : (l.take L)[n]? = l[n]? := List.getElem?_take_of_lt h
theorem take_out {α : Type} {l : List α} {L n : Nat} {x : α} (h : (l.take L)[n]? = some x) : n < L ∧ l[n]? = some x := by
  by_cases z : n < L
  · exact ⟨z, by rw [← take_get z]; exact h⟩
  · rw [List.getElem?_take_eq_none (by omega)] at h; cases h
theorem Cut.mk' (L : Nat) (m : Mp) : Cut L m (m.cut L) := ⟨fun n h => take_get h, fun a o => ⟨fun n h => o.c n (take_out h).2, o.h⟩⟩
theorem closed_at {st : Sto} {L n : Nat} {c : Cell} (h : Sto.closed L (st.take L) = true) (hn : n < L) (e : cellAt st n = some c) : c.closed L = true := by
  rw [cellAt_some] at e
  have q : (st.take L)[n]? = some (some c) := by rw [take_get hn]; exact e
  have := List.all_eq_true.mp h _ (List.mem_of_getElem? q)
  exact this
theorem RS.cutTo {st : Sto} (r : RS K ca m H st) (hc : Sto.closed L (st.take L) = true) : RS K ca (m.cut L) H (st.take L) := by
  refine ⟨?_, fun i j a h1 h2 => r.inj i j a (take_out h1).2 (take_out h2).2, fun n a h => ?_, fun n h => ?_, fun n a h => r.apart n a (take_out h).2, r.hs⟩
  · show (m.l.take L).length = _
    rw [List.length_take, List.length_take, r.len]
  · obtain ⟨hn, h'⟩ := take_out h
    obtain ⟨c, h1, h2⟩ := r.cells n a h'
    refine ⟨c, ?_, h2.lower (Cut.mk' L m) (closed_at hc hn h1)⟩
    rw [cellAt_some] at h1 ⊢
    rw [take_get hn]; exact h1
  · obtain ⟨hn, h'⟩ := take_out h
    rw [take_get hn]; exact r.dead n h'
theorem Ext.cutTo {m0 : Mp} {H0 : Hp} (e : Ext m0 H0 m H) (hl : m0.l.length = L) : Ext m0 H0 (m.cut L) H := by
  refine ⟨fun n o h => ?_, e.keep, e.keepE, e.frz, fun a u h o => (Cut.mk' L m).out a (e.out a u h o), e.hid, e.hh⟩
  have : n < L := by rw [← hl]; exact (List.getElem?_eq_some_iff.mp h).1
  show (m.l.take L)[n]? = some o ∨ (m.l.take L)[n]? = some none
  rw [take_get this]
  exact e.le n o h
end
section
variable {K : PySem.W.Frag} {ca : Nat → Addr} {W : WX} {σ : L2.St} {m : Mp} {H : Hp} {Q : VK}
/-- what a call's end is told of -/
abbrev End (K : PySem.W.Frag) (ca : Nat → Addr) (m : Mp) (H : Hp) (d : D) (st : Sto) (Q : VK) : Prop := ∀ m' H' v, RS K ca m' H' st → RD K ca m' H' d v → Ext m H m' H' → Q v H'
/-- the first L cells and one of the others -/
theorem one_more {m' : Mp} {H' : Hp} {st' : Sto} {L n : Nat} {a : Addr} {c : Cell} (hm : L ≤ m'.l.length) (r' : RS K ca m' H' st') (z : m'.l[n]? = some (some a)) (h1 : cellAt st' n = some c) (h2 : RC K ca m' H' c a) (hn : L ≤ n) (e1 : c.closed L = true) (e2 : Sto.closed L (st'.take L) = true) :
    RS K ca ((m'.cut L).push a) H' (st'.take L ++ [some c]) ∧ Cut L m' ((m'.cut L).push a) ∧ ((m'.cut L).push a).l[L]? = some (some a) := by
  have lm : (m'.l.take L).length = L := by rw [List.length_take]; omega
  have ls : (st'.take L).length = L := by rw [List.length_take, ← r'.len]; omega
  have key : ∀ k o, (m'.l.take L ++ [some a])[k]? = some o → (k < L ∧ m'.l[k]? = some o) ∨ (k = L ∧ o = some a) := fun k o hk => by
    by_cases hk2 : k < (m'.l.take L).length
    · rw [List.getElem?_append_left hk2] at hk
      exact .inl (take_out hk)
    · rw [List.getElem?_append_right (by omega)] at hk
      cases z2 : k - (m'.l.take L).length with
      | zero => rw [z2] at hk; cases hk; exact .inr ⟨by omega, rfl⟩
      | succ j => rw [z2] at hk; simp at hk
  have out : ∀ b, Out m' b → Out ((m'.cut L).push a) b := fun b o => ⟨fun k hk => by
    rcases key k _ hk with ⟨_, q⟩ | ⟨_, q⟩
    · exact o.c k q
    · cases q; exact o.c n z, o.h⟩
  have ct : Cut L m' ((m'.cut L).push a) := ⟨fun k hk => by
    show (m'.l.take L ++ [some a])[k]? = _
    rw [List.getElem?_append_left (by omega), take_get hk], out⟩
  refine ⟨⟨?_, fun i j b g1 g2 => ?_, fun k b hk => ?_, fun k hk => ?_, fun k b hk => ?_, r'.hs⟩, ct, ?_⟩
  · show (m'.l.take L ++ [some a]).length = _
    rw [List.length_append, List.length_append, lm, ls]; rfl
  · rcases key i _ g1 with ⟨a1, a2⟩ | ⟨a1, a2⟩ <;> rcases key j _ g2 with ⟨b1, b2⟩ | ⟨b1, b2⟩
    · exact r'.inj i j b a2 b2
    · cases b2; have := r'.inj i n _ a2 z; omega
    · cases a2; have := r'.inj j n _ b2 z; omega
    · omega
  · rcases key k _ hk with ⟨k1, k2⟩ | ⟨k1, k2⟩
    · obtain ⟨c2, g1, g2⟩ := r'.cells k b k2
      refine ⟨c2, ?_, g2.lower ct (closed_at e2 k1 g1)⟩
      rw [cellAt_some] at g1 ⊢
      rw [List.getElem?_append_left (by omega), take_get k1]; exact g1
    · cases k2
      refine ⟨c, ?_, h2.lower ct e1⟩
      rw [cellAt_some, List.getElem?_append_right (by omega), show k - (st'.take L).length = 0 by omega]
      rfl
  · rcases key k _ hk with ⟨k1, k2⟩ | ⟨k1, k2⟩
    · rw [List.getElem?_append_left (by omega), take_get k1]
      exact r'.dead k k2
    · cases k2
  · rcases key k _ hk with ⟨k1, k2⟩ | ⟨k1, k2⟩
    · exact r'.apart k b k2
    · cases k2; exact r'.apart n _ z
  · show (m'.l.take L ++ [some a])[L]? = _
    rw [List.getElem?_append_right (by omega), lm, Nat.sub_self]; rfl
theorem trim_ok {st st' : Sto} {d : D} (r : RS K ca m H st) (p : Post K ca W σ m H (trim st.length d st') Q) : End K ca m H d st' Q := by
  intro m' H' v r' d' ex
  have hl : m.l.length = st.length := r.len
  unfold trim at p
  split at p
  · rename_i e
    rw [Bool.and_eq_true] at e
    exact p _ H' v (r'.cutTo e.2) (d'.lower (Cut.mk' _ _) e.1) (ex.cutTo hl)
  · split at p
    · rename_i n _
      split at p
      · rename_i c e1 e2
        have e1 := of_decide_eq_true e1
        split at p
        · rename_i e
          rw [Bool.and_eq_true] at e
          cases d' with
          | dead z =>
            have q2 := r'.dead n z
            rw [cellAt_some] at e2
            rw [e2] at q2; cases q2
          | @ref _ a z =>
            obtain ⟨c', h1, h2⟩ := r'.cells n _ z
            rw [h1] at e2; cases e2
            have hm : st.length ≤ m'.l.length := by
              have : n < m'.l.length := (List.getElem?_eq_some_iff.mp z).1
              omega
            obtain ⟨g1, g2, g3⟩ := one_more hm r' z h1 h2 e1 e.1 e.2
            refine p _ H' (.ref a) g1 (.ref g3) ⟨fun k o h => ?_, ex.keep, ex.keepE, ex.frz, fun b u h o => g2.out b (ex.out b u h o), ex.hid, ex.hh⟩
            have : k < st.length := by rw [← hl]; exact (List.getElem?_eq_some_iff.mp h).1
            rw [g2.at_ k this]
            exact ex.le k o h
        · exact p m' H' v r' d' ex
      · exact p m' H' v r' d' ex
    · exact p m' H' v r' d' ex
end
end PV
end
section
set_option Elab.async false
set_option linter.all false
set_option maxRecDepth 100000
set_option maxHeartbeats 1000000
/-! FB23: a value frozen at a call's end. -/
namespace PV
open PySem PySem.Spec PyProof.Rows L2
section
variable {K : PySem.W.Frag} {ca : Nat → Addr} {m : Mp} {H : Hp} {st : Sto} {L : Nat}
theorem frz_ds {f : D → Option T} {g : D → Bool} (hf : ∀ {d v t}, RD K ca m H d v → g d = true → f d = some t → RT K ca (m.cut L) H t v) : ∀ {ds : List D} {vs : List V} {ts : List T}, RDs K ca m H ds vs → ds.all g = true → ds.mapM f = some ts → RTs K ca (m.cut L) H ts vs ∧ ts.length = ds.length
  | _, _, _, .nil, _, e => by cases e; exact ⟨.nil, rfl⟩
  | _, _, _, .cons h r, a, e => by
    obtain ⟨t, ts, e1, e2, rfl⟩ := mapM_cons_some e
    simp only [List.all_cons, Bool.and_eq_true] at a
    obtain ⟨i1, i2⟩ := frz_ds hf r a.2 e2
    exact ⟨.cons (hf h a.1 e1) i1, by simp [i2]⟩
theorem frz_dk {f : D → Option T} {g : D → Bool} (hf : ∀ {d v t}, RD K ca m H d v → g d = true → f d = some t → RT K ca (m.cut L) H t v) : ∀ {ds : List (T × D)} {vs : List (Key × V)} {ts : List (T × T)}, RDk K ca m H ds vs → (ds.all fun p => g p.2) = true → (ds.mapM fun p => (f p.2).map fun t => (p.1, t)) = some ts → RTk K ca (m.cut L) H ts vs ∧ ts.length = ds.length
  | _, _, _, .nil, _, e => by cases e; exact ⟨.nil, rfl⟩
  | _, _, _, .cons k h r, a, e => by
    obtain ⟨t, ts, e1, e2, rfl⟩ := mapM_cons_some e
    obtain ⟨t0, e3, rfl⟩ := map_some e1
    simp only [List.all_cons, Bool.and_eq_true] at a
    obtain ⟨i1, i2⟩ := frz_dk hf r a.2 e2
    exact ⟨.cons k (hf h a.1 e3) i1, by simp [i2]⟩
theorem frz_dt {f : D → Option T} {g : D → Bool} (hf : ∀ {d v t}, RD K ca m H d v → g d = true → f d = some t → RT K ca (m.cut L) H t v) : ∀ {ds : List (T × D)} {vs : List (List Key × V)} {ts : List (T × T)}, RDt K ca m H ds vs → (ds.all fun p => g p.2) = true → (ds.mapM fun p => (f p.2).map fun t => (p.1, t)) = some ts → RTt K ca (m.cut L) H ts vs ∧ ts.length = ds.length
  | _, _, _, .nil, _, e => by cases e; exact ⟨.nil, rfl⟩
  | _, _, _, .cons k h r, a, e => by
    obtain ⟨t, ts, e1, e2, rfl⟩ := mapM_cons_some e
    obtain ⟨t0, e3, rfl⟩ := map_some e1
    simp only [List.all_cons, Bool.and_eq_true] at a
    obtain ⟨i1, i2⟩ := frz_dt hf r a.2 e2
    exact ⟨.cons k (hf h a.1 e3) i1, by simp [i2]⟩
theorem frz_df {f : D → Option T} {g : D → Bool} (hf : ∀ {d v t}, RD K ca m H d v → g d = true → f d = some t → RT K ca (m.cut L) H t v) : ∀ {ds : List (Str × D)} {vs : List (Str × V)} {ts : List (Str × T)}, RDf K ca m H ds vs → (ds.all fun p => g p.2) = true → (ds.mapM fun p => (f p.2).map fun t => (p.1, t)) = some ts → RTf K ca (m.cut L) H ts vs
  | _, _, _, .nil, _, e => by cases e; exact .nil
  | _, _, _, .cons h r, a, e => by
    obtain ⟨t, ts, e1, e2, rfl⟩ := mapM_cons_some e
    obtain ⟨t0, e3, rfl⟩ := map_some e1
    simp only [List.all_cons, Bool.and_eq_true] at a
    exact .cons (hf h a.1 e3) (frz_df hf r a.2 e2)
theorem out_frz (rs : RS K ca m H st) {n : Nat} {a : Addr} (z : m.l[n]? = some (some a)) (hn : L ≤ n) : Out (m.cut L) a := ⟨fun k hk => by
  obtain ⟨k1, k2⟩ := take_out hk
  have := rs.inj k n a k2 z
  omega, rs.apart n a z⟩
theorem frz_ok (rs : RS K ca m H st) : ∀ (j : Nat) {d : D} {v : V} {t : T}, RD K ca m H d v → freshAbove st L j d = true → rd st j d = some t → RT K ca (m.cut L) H t v
  | j, .v t0, v, t, h, _, e => by
    have e' : t0 = t := by cases j <;> (simp only [rd, Option.some.injEq] at e; exact e)
    subst e'
    cases h with
    | v h => exact h.fewer (Cut.mk' L m).out
  | 0, .ref _, _, _, _, _, e => by simp [rd] at e
  | 0, .tp _, _, _, _, _, e => by simp [rd] at e
  | 0, .lp _, _, _, _, _, e => by simp [rd] at e
  | j, .exv _ _, _, _, _, _, e => by cases j <;> simp [rd] at e
  | j, .lam _ _, _, _, _, _, e => by cases j <;> simp [rd] at e
  | j + 1, .ref n, v, t, h, f, e => by
    have hf := @frz_ok rs j
    simp only [rd] at e
    simp only [freshAbove, Bool.and_eq_true, decide_eq_true_eq] at f
    cases q0 : cellAt st n with
    | none => rw [q0] at e; cases e
    | some c =>
      rw [q0] at e f
      cases h with
      | dead z =>
        have q2 := rs.dead n z
        rw [cellAt_some] at q0
        rw [q0] at q2; cases q2
      | ref z =>
        have o := out_frz rs z f.1
        obtain ⟨c', h1, h2⟩ := rs.cells n _ z
        rw [h1] at q0; cases q0
        cases h2 with
        | lst h3 h4 h5 =>
          obtain ⟨ts, e1, rfl⟩ := map_some e
          obtain ⟨i1, i2⟩ := frz_ds hf h5 f.2 e1
          exact .lst h3 o (by rw [i2]; exact h4) i1
        | dctK h3 h4 h5 =>
          obtain ⟨ts, e1, rfl⟩ := map_some e
          obtain ⟨i1, i2⟩ := frz_dk hf h5 f.2 e1
          exact .dctK (.inl h3) o (by rw [i2]; exact h4) i1
        | dctT h3 h4 h5 =>
          obtain ⟨ts, e1, rfl⟩ := map_some e
          obtain ⟨i1, i2⟩ := frz_dt hf h5 f.2 e1
          exact .dctT (.inl h3) o (by rw [i2]; exact h4) i1
        | ins h3 h4 =>
          obtain ⟨ts, e1, rfl⟩ := map_some e
          exact .obj h3 o (frz_df hf h4 f.2 e1)
  | j + 1, .tp ds, v, t, h, f, e => by
    have hf := @frz_ok rs j
    simp only [rd] at e
    simp only [freshAbove] at f
    obtain ⟨ts, e1, rfl⟩ := map_some e
    cases h with
    | tp h1 h2 h3 h4 =>
      obtain ⟨i1, i2⟩ := frz_ds hf h4 f e1
      exact .tup h1 ((Cut.mk' L m).out _ h2) (by rw [i2]; exact h3) i1
  | j + 1, .lp ds, v, t, h, f, e => by
    have hf := @frz_ok rs j
    simp only [rd] at e
    simp only [freshAbove] at f
    obtain ⟨ts, e1, rfl⟩ := map_some e
    cases h with
    | lp h1 h2 h3 h4 =>
      obtain ⟨i1, i2⟩ := frz_ds hf h4 f e1
      exact .lst h1 ((Cut.mk' L m).out _ h2) (by rw [i2]; exact h3) i1
end
section
variable {K : PySem.W.Frag} {ca : Nat → Addr} {W : WX} {σ : L2.St} {m : Mp} {H : Hp} {Q : VK}
theorem trimZ_ok {st st' : Sto} {d : D} (r : RS K ca m H st) (p : Post K ca W σ m H (trimZ st.length d st') Q) : End K ca m H d st' Q := by
  intro m' H' v r' d' ex
  unfold trimZ at p
  split at p
  · rename_i e1 e2
    rw [Bool.and_eq_true] at e1
    exact p _ H' v (r'.cutTo e1.2) (.v (frz_ok r' _ d' e1.1 e2)) (ex.cutTo r.len)
  · exact p.elim
theorem trimX_ok {st st' : Sto} {c : Nat} {fs : List (Str × D)} (r : RS K ca m H st) (p : Post K ca W σ m H (trimX st.length c fs st') Q) :
    ∀ m' H' dd, RS K ca m' H' st' → RX K ca m' H' fs dd → Ext m H m' H' → W (.ref (ca c)) dd σ H' := by
  intro m' H' dd r' d' ex
  unfold trimX at p
  split at p
  · rename_i e
    rw [Bool.and_eq_true] at e
    obtain ⟨d, gs, h1, h2, h3⟩ := d'
    exact p _ H' dd (r'.cutTo e.2) ⟨d, gs, h1, h2, h3.lower (Cut.mk' _ _) e.1⟩ (ex.cutTo r.len)
  · exact p m' H' dd r' d' ex
end
end PV
end
section
set_option Elab.async false
set_option linter.all false
set_option maxRecDepth 100000
set_option maxHeartbeats 1000000
/-! FB24: own defs called. -/
namespace PV
open PySem PySem.Spec PyProof.Rows L2
theorem make_guards {A : Around} {C : Addr} {us : List Value} {kw : List (Str × Value)} (h : A.guards = some []) : (A.under (.builtin "type.__call__" ⟨.ref C :: us, kw⟩)).guards = some [] := by
  simp [Around.under, Code.weight, Code.isCreation, Code.isGuard, Code.isCaller, Code.frames, Code.isFrame, guardIds, h, pushGuards, Code.guards]
/-- a def's promise, where no repr runs around it -/
structure FnG (P : Program) (w : World) (K : PySem.W.Frag) (mg : Str → Option Value) (base : Heap) (k : Nat) (f : Addr) (fd : FuncData) (ps : List Str) (sp : Sp) : Prop where
  len : ∀ vs H Q E, sp vs H Q E → vs.length = ps.length
  run : ∀ (A : Around) (outer : List PySem.Env) (s : Shared) (H : Hp) (args : Args) (us : List Value) (vs : List V) (Q : VK) (E : XK), Room k A → A.guards = some [] → Env0 P w K mg base A outer s H → BindsTo s fd args (ps.zip us) → Vals vs us → sp vs H Q E →
    codeAny (model P w) A (.call (.ref f) args) (CR (L2.CX P w) outer P w H s Q E) s
/-- how values by place and by name are bound: n by place, those of ks by name -/
structure Bnd (K : PySem.W.Frag) (fd : FuncData) (ps : List Str) (n : Nat) (ks : List Str) (g : List Value → List Value → List Value) (gV : List V → List V → List V) : Prop where
  to : ∀ (s : Shared) (us ws : List Value), us.length = n → ws.length = ks.length → BindsTo s fd ⟨us, ks.zip ws⟩ (ps.zip (g us ws))
  rel : ∀ {vs : List V} {us : List Value} {zs : List V} {ws : List Value}, vs.length = n → zs.length = ks.length → Vals vs us → Vals zs ws → Vals (gV vs zs) (g us ws)
section
variable {X : Cx} {k n : Nat} {f C : Addr} {fd : FuncData} {ps ks : List Str} {sp : Sp} {W : WX} {x m : Str} {p pos apos : Pos} {e o : Expr} {es : List Expr} {kws : List Keyword} {ta : TE} {t tk : TA} {g : List Value → List Value → List Value} {gV : List V → List V → List V}
theorem g_run {pins : List (Addr × Obj)} {σ : L2.St} {H : Hp} {s : Shared} {Q : VK} {us ws : List Value} {vs zs : List V} (F : FnG X.prog X.w X.K X.mg X.base k f fd ps sp) (hr : Room k X.A) (hg : X.A.guards = some []) (hb : Bnd X.K fd ps n ks g gV) (tk : Takes X W)
    (I : Inv X pins σ H s) (r : Vals vs us) (rz : Vals zs ws) (l1 : vs.length = n) (l2 : zs.length = ks.length) (h : sp (gV vs zs) H Q (WE W σ)) : wpAny (model X.prog X.w) X.A (call (.ref f) us (ks.zip ws)) (EP X pins σ Q) X.xe s := by
  have b := hb.to s us ws (r.length.symm.trans l1) (rz.length.symm.trans l2)
  refine wpAny_call (codeAny_mono (F.run X.A X.stack s H ⟨us, ks.zip ws⟩ (g us ws) (gV vs zs) Q (WE W σ) hr hg I.env0 b (hb.rel l1 l2 r rz) h) fun r s' hq => ?_)
  cases r with
  | error e => exact passAt tk σ pins H s e s' I hq
  | ok fl =>
    cases fl with
    | ret u => exact I.after hq
    | next => exact hq.elim
    | brk => exact hq.elim
    | cont => exact hq.elim
theorem g_make {pins : List (Addr × Obj)} {σ : L2.St} {H : Hp} {s : Shared} {Q : VK} {us ws : List Value} {vs zs : List V} (M : Mk X.K C f) (F : FnG X.prog X.w X.K X.mg X.base k f fd ps sp) (hr : Room (k + 1) X.A) (hg : X.A.guards = some []) (hb : Bnd X.K fd ps (n + 1) ks g gV) (tk : Takes X W)
    (I : Inv X pins σ H s) (r : Vals vs us) (rz : Vals zs ws) (l1 : vs.length = n) (l2 : zs.length = ks.length)
    (h : ∀ x dx, H x = none → H dx = none → dx ≠ x → sp (gV (.ref x :: vs) zs) (upd (upd H dx (.own x)) x (.ins C dx [])) (fun v H2 => v = .non ∧ Q (.ref x) H2) (WE W σ)) :
    wpAny (model X.prog X.w) X.A (call (.ref C) us (ks.zip ws)) (EP X pins σ Q) X.xe s := by
  have hq := h (s.heap.objs.size + 1) s.heap.objs.size (I.hok.fresh (Nat.le_succ _)) (I.hok.fresh (Nat.le_refl _)) (Nat.ne_of_lt (Nat.lt_succ_self _))
  have I2 := Inv.made (C := C) I
  have r1 : Vals (V.ref (s.heap.objs.size + 1) :: vs) (Value.ref (s.heap.objs.size + 1) :: us) := .cons rfl r
  have l3 : (V.ref (s.heap.objs.size + 1) :: vs).length = n + 1 := by rw [List.length_cons, l1]
  refine wpAny_call (make_map (f := f) I.kIn M.makes M.init (beq_iff_eq.mp M.fn) ?_)
  refine codeAny_mono (F.run _ X.stack _ _ ⟨Value.ref (s.heap.objs.size + 1) :: us, ks.zip ws⟩ (g (Value.ref (s.heap.objs.size + 1) :: us) ws) _ _ (WE W σ) (hr.make C us (ks.zip ws)) (make_guards hg)
    (I2.env0.make C us (ks.zip ws)) (hb.to _ (Value.ref (s.heap.objs.size + 1) :: us) ws (r1.length.symm.trans l3) (rz.length.symm.trans l2)) (hb.rel l3 l2 r1 rz) hq) fun r s' hq' => ?_
  cases r with
  | error e => exact passAt tk σ pins _ _ e s' I2 hq'
  | ok fl =>
    cases fl with
    | ret u =>
      obtain ⟨v, H', I3, rv, ev, q3⟩ := I2.after hq'
      subst ev
      exact ⟨rv, ⟨V.ref (s.heap.objs.size + 1), H', I3, rfl, q3⟩⟩
    | next => exact hq'.elim
    | brk => exact hq'.elim
    | cont => exact hq'.elim
/-- all by place -/
theorem Bnd.all (h : ∀ us : List Value, us.length = ps.length → bindArgs fd ⟨us, []⟩ = pure (ps.zip us)) : Bnd X.K fd ps ps.length [] (fun us _ => us) (fun vs _ => vs) :=
  ⟨fun s us ws l1 l2 => by
    have : ([] : List Str).zip ws = [] := rfl
    rw [this]
    exact .of_eq (h us l1), fun _ _ r _ => r⟩
def tCallG (sp : Sp) (W : WX) (n m : Nat) (gV : List V → List V → List V) (t tk : TA) : TE := fun σ H Q => t σ H fun vs H1 => tk σ H1 fun zs H2 => vs.length = n ∧ zs.length = m ∧ sp (gV vs zs) H2 Q (WE W σ)
/-- f(e, ..) -/
theorem pe_cg (F : FnG X.prog X.w X.K X.mg X.base k f fd ps sp) (hr : Room k X.A) (hgd : X.A.guards = some []) (hg : Gl X x) (hm : X.mg x = some (.ref f)) (hk : PySem.W.keepIn X.K (.ref f) = true) (hb : Bnd X.K fd ps n [] g gV) (tx : Takes X W)
    (ha : PA X (e :: es) t) (hdb : (x == ("__debug__" : Str)) = false) (hs : (e :: es).all notStar = true) : PE X (.Call (.Name x p) (e :: es) [] pos) (tCallG sp W n 0 gV t tNil) := by
  have h2 := hs
  simp only [List.all_cons, Bool.and_eq_true] at h2
  refine ⟨fun pins s σ H Q I h => ?_⟩
  refine wpAny_Call_Name_kw (ld_glob I hg hm ?_ hdb)
  refine PySem.W.callWith_K (h₀ := X.base) I.ok.mod.kin hk (thn (ha.run pos pins s σ H _ I h) fun us s1 ⟨vs, H1, I1, r, q1, q2, q3⟩ => ⟨I1.kIn, ?_⟩) (starEach_no h2.1) (stars_no h2.2)
  exact g_run (ws := []) (zs := []) F hr hgd hb tx I1 r .nil q1 rfl q3
theorem pe_cg0 (F : FnG X.prog X.w X.K X.mg X.base k f fd ps sp) (hr : Room k X.A) (hgd : X.A.guards = some []) (hg : Gl X x) (hm : X.mg x = some (.ref f)) (hk : PySem.W.keepIn X.K (.ref f) = true) (hb : Bnd X.K fd ps n [] g gV) (tx : Takes X W)
    (hdb : (x == ("__debug__" : Str)) = false) : PE X (.Call (.Name x p) [] [] pos) (tCallG sp W n 0 gV tNil tNil) := by
  refine ⟨fun pins s σ H Q I ⟨q1, q2, q3⟩ => ?_⟩
  refine wpAny_Call_Name_kw (ld_glob I hg hm ?_ hdb)
  exact PySem.W.callWith_K0 I.kIn hk (g_run (us := []) (ws := []) (zs := []) F hr hgd hb tx I .nil .nil q1 rfl q3)
/-- f(e, .., k = v, ..) -/
theorem pe_cgk (F : FnG X.prog X.w X.K X.mg X.base k f fd ps sp) (hr : Room k X.A) (hgd : X.A.guards = some []) (hg : Gl X x) (hm : X.mg x = some (.ref f)) (hk : PySem.W.keepIn X.K (.ref f) = true) (hb : Bnd X.K fd ps n ks g gV) (tx : Takes X W)
    (ha : PA X (e :: es) t) (hkw : PK X kws tk) (hall : (backToKw pos (keywordEach kws X.env)).all (·.1.isSome) = true) (hks : (backToKw pos (keywordEach kws X.env)).filterMap (·.1) = ks)
    (hdb : (x == ("__debug__" : Str)) = false) (hs : (e :: es).all notStar = true) : PE X (.Call (.Name x p) (e :: es) kws pos) (tCallG sp W n ks.length gV t tk) := by
  have h2 := hs
  simp only [List.all_cons, Bool.and_eq_true] at h2
  refine ⟨fun pins s σ H Q I h => ?_⟩
  refine wpAny_Call_Name_kw (ld_glob I hg hm ?_ hdb)
  have hn : (backToKw pos (keywordEach kws X.env)).any (·.1.isNone) = false := by
    rw [List.any_eq_false]
    intro y hy
    have := List.all_eq_true.mp hall y hy
    cases z : y.1 <;> simp_all
  refine PySem.W.callWith_KW (h₀ := X.base) I.ok.mod.kin hk hall (thn (ha.run pos pins s σ H _ I h) fun us s1 ⟨vs, H1, I1, r, q⟩ => ?_) (by rw [stars_no hs, hn]; rfl) (starEach_no h2.1)
  refine thn (hkw.run pos pins s1 σ H1 _ I1 q) fun ws s2 ⟨zs, H2, I2, rz, l1, l2, q2⟩ => ⟨I2.kIn, ?_⟩
  rw [hks]
  exact g_run F hr hgd hb tx I2 r rz l1 l2 q2
def tMethG (C : Addr) (m : Str) (sp : Sp) (W : WX) (n : Nat) (gV : List V → List V → List V) (ta : TE) (t : TA) : TE := fun σ H Q => ta σ H fun x H1 => ∃ a dx fs, x = .ref a ∧ H1 a = some (.ins C dx fs) ∧ fs.lookup m = none ∧ t σ H1 fun vs H2 => (V.ref a :: vs).length = n ∧ sp (gV (.ref a :: vs) []) H2 Q (WE W σ)
/-- o.m(e, ..) -/
theorem pe_mg {pl : Sem Bool} (he : PE X o ta) (c : Cls X.K C) (hm : Meth X.K C m f) (F : FnG X.prog X.w X.K X.mg X.base k f fd ps sp) (hr : Room k X.A) (hgd : X.A.guards = some []) (hb : Bnd X.K fd ps n [] g gV) (tx : Takes X W) (ha : PA X (e :: es) t)
    (hs : (e :: es).all notStar = true)
    (ht : eval (.Call (.Attribute o m apos) (e :: es) [] pos) X.env = (do
      let ov ← eval o X.env
      standAt apos.atName
      let (f, first) ← holding [ov] (getMethod ov m pl)
      callWith pos f first (backTo pos (starEach (e :: es) X.env)) (backToKw pos (keywordEach [] X.env)))) :
    PE X (.Call (.Attribute o m apos) (e :: es) [] pos) (tMethG C m sp W n gV ta t) := by
  have h2 := hs
  simp only [List.all_cons, Bool.and_eq_true] at h2
  refine ⟨fun pins s σ H Q I h => ?_⟩
  refine PySem.W.methodCall_KW (pl := pl) (thn (he.run pins s σ H _ I h) fun u s1 ⟨x, H1, I1, rx, a, dx, fs, ex, ea, l, q⟩ => ?_) ht
  subst ex
  obtain rfl : u = Value.ref a := rx
  refine getmeth_ok I1 ea c hm l ?_
  refine PySem.W.callWith_K (first := [.ref a]) (h₀ := X.base) I.ok.mod.kin hm.kp (thn (ha.run pos pins s1 σ H1 _ I1 q) fun us s2 ⟨vs, H2, I2, r, q1, q2⟩ => ⟨I2.kIn, ?_⟩) (starEach_no h2.1) (stars_no h2.2)
  exact g_run (us := .ref a :: us) (vs := .ref a :: vs) (ws := []) (zs := []) F hr hgd hb tx I2 (.cons rfl r) .nil q1 rfl q2
theorem pe_mg0 {pl : Sem Bool} (he : PE X o ta) (c : Cls X.K C) (hm : Meth X.K C m f) (F : FnG X.prog X.w X.K X.mg X.base k f fd ps sp) (hr : Room k X.A) (hgd : X.A.guards = some []) (hb : Bnd X.K fd ps n [] g gV) (tx : Takes X W)
    (ht : eval (.Call (.Attribute o m apos) [] [] pos) X.env = (do
      let ov ← eval o X.env
      standAt apos.atName
      let (f, first) ← holding [ov] (getMethod ov m pl)
      callWith pos f first (backTo pos (starEach [] X.env)) (backToKw pos (keywordEach [] X.env)))) :
    PE X (.Call (.Attribute o m apos) [] [] pos) (tMethG C m sp W n gV ta tNil) := by
  refine ⟨fun pins s σ H Q I h => ?_⟩
  refine PySem.W.methodCall_KW (pl := pl) (thn (he.run pins s σ H _ I h) fun u s1 ⟨x, H1, I1, rx, a, dx, fs, ex, ea, l, q1, q2⟩ => ?_) ht
  subst ex
  obtain rfl : u = Value.ref a := rx
  refine getmeth_ok I1 ea c hm l ?_
  exact PySem.W.callWith_K0 (first := [.ref a]) I1.kIn hm.kp (g_run (us := [.ref a]) (vs := [.ref a]) (ws := []) (zs := []) F hr hgd hb tx I1 (.cons rfl .nil) .nil q1 rfl q2)
def tMakeG (C : Addr) (sp : Sp) (W : WX) (n m : Nat) (gV : List V → List V → List V) (t tk : TA) : TE := fun σ H Q => t σ H fun vs H1 => tk σ H1 fun zs H2 => vs.length = n ∧ zs.length = m ∧
  ∀ x dx, H2 x = none → H2 dx = none → dx ≠ x → sp (gV (.ref x :: vs) zs) (upd (upd H2 dx (.own x)) x (.ins C dx [])) (fun v H3 => v = .non ∧ Q (.ref x) H3) (WE W σ)
/-- C(e, ..) -/
theorem pe_kg (M : Mk X.K C f) (F : FnG X.prog X.w X.K X.mg X.base k f fd ps sp) (hr : Room (k + 1) X.A) (hgd : X.A.guards = some []) (hg : Gl X x) (hm : X.mg x = some (.ref C)) (hb : Bnd X.K fd ps (n + 1) [] g gV) (tx : Takes X W)
    (ha : PA X (e :: es) t) (hdb : (x == ("__debug__" : Str)) = false) (hs : (e :: es).all notStar = true) : PE X (.Call (.Name x p) (e :: es) [] pos) (tMakeG C sp W n 0 gV t tNil) := by
  have h2 := hs
  simp only [List.all_cons, Bool.and_eq_true] at h2
  refine ⟨fun pins s σ H Q I h => ?_⟩
  refine wpAny_Call_Name_kw (ld_glob I hg hm ?_ hdb)
  refine PySem.W.callWith_K (h₀ := X.base) I.ok.mod.kin M.kp (thn (ha.run pos pins s σ H _ I h) fun us s1 ⟨vs, H1, I1, r, q1, q2, q3⟩ => ⟨I1.kIn, ?_⟩) (starEach_no h2.1) (stars_no h2.2)
  exact g_make (ws := []) (zs := []) M F hr hgd hb tx I1 r .nil q1 rfl q3
theorem pe_kgk (M : Mk X.K C f) (F : FnG X.prog X.w X.K X.mg X.base k f fd ps sp) (hr : Room (k + 1) X.A) (hgd : X.A.guards = some []) (hg : Gl X x) (hm : X.mg x = some (.ref C)) (hb : Bnd X.K fd ps (n + 1) ks g gV) (tx : Takes X W)
    (ha : PA X (e :: es) t) (hkw : PK X kws tk) (hall : (backToKw pos (keywordEach kws X.env)).all (·.1.isSome) = true) (hks : (backToKw pos (keywordEach kws X.env)).filterMap (·.1) = ks)
    (hdb : (x == ("__debug__" : Str)) = false) (hs : (e :: es).all notStar = true) : PE X (.Call (.Name x p) (e :: es) kws pos) (tMakeG C sp W n ks.length gV t tk) := by
  have h2 := hs
  simp only [List.all_cons, Bool.and_eq_true] at h2
  refine ⟨fun pins s σ H Q I h => ?_⟩
  refine wpAny_Call_Name_kw (ld_glob I hg hm ?_ hdb)
  have hn : (backToKw pos (keywordEach kws X.env)).any (·.1.isNone) = false := by
    rw [List.any_eq_false]
    intro y hy
    have := List.all_eq_true.mp hall y hy
    cases z : y.1 <;> simp_all
  refine PySem.W.callWith_KW (h₀ := X.base) I.ok.mod.kin M.kp hall (thn (ha.run pos pins s σ H _ I h) fun us s1 ⟨vs, H1, I1, r, q⟩ => ?_) (by rw [stars_no hs, hn]; rfl) (starEach_no h2.1)
  refine thn (hkw.run pos pins s1 σ H1 _ I1 q) fun ws s2 ⟨zs, H2, I2, rz, l1, l2, q2⟩ => ⟨I2.kIn, ?_⟩
  rw [hks]
  exact g_make M F hr hgd hb tx I2 r rz l1 l2 q2
end
end PV
end
section
set_option Elab.async false
set_option linter.all false
set_option maxRecDepth 100000
set_option maxHeartbeats 1000000
/-! FB25: a property read; a def from its body. -/
namespace PV
open PySem PySem.Spec PyProof.Rows L2
section
variable {X : Cx} {k n : Nat} {f C p g a dx : Addr} {fd : FuncData} {ps ks : List Str} {sp : Sp} {fs : List (Str × V)} {nm : Str} {gg : List Value → List Value → List Value} {gV : List V → List V → List V}
theorem g_prop {pins : List (Addr × Obj)} {σ : L2.St} {H : Hp} {s : Shared} {Q : VK} {b : Bool} {E' : Value → Shared → Prop} (I : Inv X pins σ H s) (ea : H a = some (.ins C dx fs)) (c : Cls X.K C) (hp : PropOf X.K C nm p g)
    (F : FnG X.prog X.w X.K X.mg X.base k g fd ps sp) (hr : Room (k + 1) X.A) (hgd : X.A.guards = some []) (hb : Bnd X.K fd ps 1 [] gg gV) (h : sp (gV [.ref a] []) H Q (fun _ _ _ => False)) :
    wpAny (model X.prog X.w) X.A (getAttr (.ref a) nm b) (EP X pins σ Q) E' s := by
  obtain ⟨mA, O, _, _, _, _⟩ := ins_get I.hok ea
  obtain ⟨od, J, _⟩ := O.look
  obtain ⟨rest, hrec⟩ := hp.rec_
  have I1 := I.tok (s.toks + 1)
  have hc : (PySem.W.clsIn X.K C).isSome = true := by
    obtain ⟨cd, hc, _⟩ := PySem.W.any_some c.hd
    rw [hc]; rfl
  refine PySem.W.get_bind I.kIn J (PySem.W.plainGet_of (c.get nm)).1 (PySem.W.findObj_data hc hp.at_ hp.get hp.tak) (PySem.W.plainGet_of (c.get nm)).2 (wpAny_call ?_)
  refine PySem.W.prop_get (s := { s with toks := s.toks + 1 }) I.kIn hrec ?_
  have bt := hb.to { s with toks := s.toks + 1 } [.ref a] [] rfl rfl
  refine codeAny_mono (F.run X.A.in1 X.stack { s with toks := s.toks + 1 } H ⟨[.ref a], []⟩ (gg [.ref a] []) (gV [.ref a] []) Q (fun _ _ _ => False) hr.in1 hgd I1.env0.in1 bt (hb.rel rfl rfl (.cons rfl .nil) .nil) h) fun r s' hq => ?_
  cases r with
  | error er =>
    obtain ⟨_, _, _, _, _, _, _, _, _, _, _, _, z⟩ := hq
    exact z.elim
  | ok fl =>
    cases fl with
    | ret u =>
      obtain ⟨v, H', I3, rv, q3⟩ := I1.after hq
      show wpAny _ _ (handedOut u) _ _ _
      rw [PySem.W.handedOut_of (handed_of rv)]
      exact wpAny_pure ⟨v, H', I3, rv, q3⟩
    | next => exact hq.elim
    | brk => exact hq.elim
    | cont => exact hq.elim
end
/-- a def (or a method) by its body -/
theorem g_of {P : Program} {w : World} {K : PySem.W.Frag} {mg : Str → Option Value} {base : Heap} {k : Nat} {f : Addr} {name qual : Str} {params : Arguments} {body : List Stmt} {scope : Scope} {dV kV doc pm cdv ct oc : Value} {an od : Option Addr}
    {osl : Array (Option Value)} {N ps : List Str} {sp : Sp} (lk : K.lookup f = some ⟨oc, od, .func (PySem.W.fnOf name qual params body scope dV kV doc pm an cdv ct), osl⟩) (hcd : PySem.W.codeIn K cdv qual = true) (S : FnScope N ps scope)
    (len : ∀ vs H Q E, sp vs H Q E → vs.length = ps.length)
    (hbody : ∀ (A : Around) (outer : List PySem.Env) (s : Shared) (H : Hp) (vs : List V) (Q : VK) (E : XK), Room k (A.deeper (envOfC qual scope s.heap.objs.size f cdv)) → A.guards = some [] → sp vs H Q E →
      ∃ t, PSs (cxOf (L2.CX P w) P w K mg base N qual scope f cdv A outer s H E) body t ∧ t { nx := fun _ H' => Q .non H', rt := Q } (start N vs) H) :
    FnG P w K mg base (k + 1) f (PySem.W.fnOf name qual params body scope dV kV doc pm an cdv ct) ps sp := by
  refine ⟨len, fun A outer s H args us vs Q E hr hgd e0 hb r hsp => ?_⟩
  have hl := len _ _ _ _ hsp
  have KX : K.In s.heap := e0.mod.kin.keeps fun b o e => (e0.bs b o e).1
  have lim : s.heap.NoLimit := e0.mod.nolimit.keeps fun b o e => (e0.bs b o e).1
  have hkind : ∀ y ∈ ps.zip us, scope.names.lookup y.1 = some .local ∨ (scope.names.lookup y.1 = some .cell ∧ ((cellsFrom (s.heap.objs.size + 1) scope.names []).lookup y.1).isSome = true) := fun ⟨n, v⟩ hy =>
    match S.par n (List.of_mem_zip hy).1 with
    | .inl q => .inl q
    | .inr q => .inr ⟨q, PySem.W.cellsFrom_some _ _ _ (.inl q)⟩
  refine codeAny_call_function hr.depth (KX _ _ lk) rfl S.co S.gen rfl (PySem.W.codeRec_of KX hcd) (hb _ _ _ _ (wpAny_newFunctionEnv_cells S.kind hkind fun env he s1 x => ?_))
  subst he
  refine ⟨lim.keeps x.toInCall.keep, codeAny_func ?_⟩
  obtain ⟨t, ht, hq⟩ := hbody A outer s H vs Q E (hr.deeper _) hgd hsp
  have I : Inv (cxOf (L2.CX P w) P w K mg base N qual scope f cdv A outer s H E) [] (start N vs) H s1 := inv_start S hr.hd e0 hl r x
  refine wpAny_mono (ht.run [] s1 (start N vs) H _ I hq) (fun fl s' hs => ?_) fun _ _ hs => hs
  have fin : ∀ {σ' : L2.St} {H' : Hp} {v : V} {u : Value}, Inv (cxOf (L2.CX P w) P w K mg base N qual scope f cdv A outer s H E) [] σ' H' s' → RelV v u → Q v H' → CE outer P w H s Q u s' :=
    fun {σ' H' v u} J rv q => ⟨v, H', J.os, J.bare, J.base, J.hok, rv, q⟩
  cases fl with
  | ret u =>
    obtain ⟨v, σ', H', J, rv, q⟩ := hs
    exact fin J rv q
  | next =>
    obtain ⟨σ', H', J, q⟩ := hs
    exact fin (v := V.non) (u := Value.none) J rfl q
  | brk =>
    obtain ⟨_, _, _, q⟩ := hs
    exact q.elim
  | cont =>
    obtain ⟨_, _, _, q⟩ := hs
    exact q.elim
end PV
end
section
set_option Elab.async false
set_option linter.all false
set_option maxRecDepth 100000
set_option maxHeartbeats 1000000
/-! FB26: what is walked. -/
namespace PV
open PySem PySem.Spec PyProof.Rows L2
section
variable (K : PySem.W.Frag) (ca : Nat → Addr)
/-- J walks over the values ds, from the heap H on -/
structure IW (m : Mp) (H : Hp) (J : It) (ds : List D) : Prop where
  len : ds.length ≤ sizeLine
  go : ∀ i m' H', i < ds.length → ExtW m H m' H' → J.go i H'
  stop : ∀ m' H', ExtW m H m' H' → J.stop ds.length H'
  yld : ∀ i m' H' x H'' st, i < ds.length → ExtW m H m' H' → RS K ca m' H' st → J.yld i H' x H'' → RS K ca m' H'' st ∧ Ext m' H' m' H'' ∧ ∃ d, ds[i]? = some d ∧ RD K ca m' H'' d x
def PostI (W : WX) (σ : L2.St) (m : Mp) (H : Hp) (r : Res (List D)) (R : It → Hp → Prop) : Prop := match r with
  | .ok ds st => ∀ m' H' J, RS K ca m' H' st → IW K ca m' H' J ds → Ext m H m' H' → R J H'
  | .ex c fs st => ∀ m' H' dd, RS K ca m' H' st → RX K ca m' H' fs dd → Ext m H m' H' → W (.ref (ca c)) dd σ H'
  | .bad => False
/-- a walk's reading -/
def rdI (W : WX) (f : Env → M (List D)) : TI := fun σ H R => ∃ m st env, RS K ca m H st ∧ RE K ca m H env σ ∧ PostI K ca W σ m H (f env st) R
end
section
variable {X : Cx} {ca : Nat → Addr} {W : WX}
variable {K : PySem.W.Frag} {m : Mp} {H : Hp}
theorem RDs.atD {ds : List D} {vs : List V} (h : RDs K ca m H ds vs) {i : Nat} {x : V} (e : vs[i]? = some x) : ∃ d, ds[i]? = some d ∧ RD K ca m H d x := by
  induction ds generalizing vs i with
  | nil => cases h; simp at e
  | cons d r ih =>
    cases h with
    | cons a b =>
      cases i with
      | zero => simp at e; subst e; exact ⟨d, rfl, a⟩
      | succ i => simpa using ih b (by simpa using e)
/-- a walk that leaves the heap -/
theorem IW.of {J : It} {ds : List D} {vs : List V} {n : Nat} {G : Hp → Prop} (w : Walk J n G (fun i H x H' => H' = H ∧ vs[i]? = some x)) (h : RDs K ca m H ds vs) (hn : n = ds.length) (hz : ds.length ≤ sizeLine) (hG : ∀ m' H', ExtW m H m' H' → G H') : IW K ca m H J ds := by
  subst hn
  refine ⟨hz, fun i m' H' hi e => w.goes i H' hi (hG _ _ e), fun m' H' e => w.stops H' (hG _ _ e), fun i m' H' x H'' st hi e r y => ?_⟩
  obtain ⟨rfl, q⟩ := w.yields i H' x H'' hi (hG _ _ e) y
  obtain ⟨d, hd, rd⟩ := (h.extW e).atD q
  exact ⟨r, Ext.refl _ _, d, hd, rd⟩
theorem IW.list {a : Addr} {ds : List D} {vs : List V} (h : H a = some (.lst vs)) (o : Out m a) (l : ds.length ≤ sizeLine) (r : RDs K ca m H ds vs) : IW K ca m H (Itl K a) ds :=
  IW.of (G := fun H => SqL K H a vs) walk_list r r.len.symm l fun m' H' e => SqL.of (e.lst h o)
theorem IW.tup {a : Addr} {ds : List D} {vs : List V} (h : H a = some (.tup vs)) (o : Out m a) (l : ds.length ≤ sizeLine) (r : RDs K ca m H ds vs) : IW K ca m H (Itt K a) ds :=
  IW.of (G := fun H => SqT K H a vs) walk_tup r r.len.symm l fun m' H' e => SqT.of (e.tup h o)
theorem IW.str {x : Str} (h : okS x = true) : IW K ca m H (Its x) ((signs x).map .v) := by
  refine IW.of (vs := x.cps.toList.map fun c => V.str ⟨#[c]⟩) (n := x.cps.size) (walk_str.mono (fun _ _ => True.intro) fun i H x' H' hi _ ⟨h1, c, h2, h3⟩ => ⟨h1, ?_⟩) (signs_rd h) (by simp [signs]) (by rw [List.length_map]; unfold signs; rw [List.length_map, Array.length_toList]; exact okS.len h) fun _ _ _ => True.intro
  rw [List.getElem?_map, Array.getElem?_toList, h2, h3]; rfl
theorem IW.keys {d : Addr} {o : Obj} {kvs : List (T × T)} {ps : List (Key × V)} (h : H d = some (.frz o (.dK ps))) (lz : kvs.length ≤ sizeLine) (r : RTk K ca m H kvs ps) : IW K ca m H (Itk d o ps) (kvs.map fun p => .v p.1) := by
  have rk : RDs K ca m H (kvs.map fun p => D.v p.1) (ps.map fun kv => kV kv.1) := by
    have := (RTk.vs r).keys
    rw [List.map_map] at this
    exact this
  refine IW.of (n := ps.length) (walk_keys.mono (fun _ h => h) fun i H x' H' hi _ ⟨h1, k, v, h2, h3⟩ => ⟨h1, ?_⟩) rk (by have := rk.len; rw [List.length_map] at this; simpa using this.symm) (by rw [List.length_map]; exact lz) fun m' H' e => e.frz _ _ _ h
  rw [List.getElem?_map, h2, h3]; rfl
theorem RTt.key_at : ∀ {kvs : List (T × T)} {ps : List (List Key × V)} {i : Nat} {p : List Key × V}, RTt K ca m H kvs ps → ps[i]? = some p → ∃ ks t, kvs[i]? = some (.tup ks, t) ∧ tKeys ks = some p.1
  | _, _, i, p, .nil, e => by simp at e
  | _, _, 0, p, .cons k _ _, e => by cases e; exact ⟨_, _, rfl, k⟩
  | _, _, i + 1, p, .cons _ _ r, e => by simpa using RTt.key_at r (by simpa using e)
theorem RTt.lenT {kvs : List (T × T)} {ps : List (List Key × V)} (h : RTt K ca m H kvs ps) : kvs.length = ps.length := by
  have := (RTt.vs h).len
  simpa using this
theorem IW.keysT {d : Addr} {o : Obj} {kvs : List (T × T)} {ps : List (List Key × V)} (h : H d = some (.frz o (.dT ps))) (lz : kvs.length ≤ sizeLine) (r : RTt K ca m H kvs ps) (l : ∀ p ∈ kvs, ∀ ks, p.1 = .tup ks → ks.length ≤ sizeLine) : IW K ca m H (Itkt d o ps) (kvs.map fun p => .v p.1) := by
  have hw := @walk_keysT d o ps
  have hn : ps.length = (kvs.map fun p => D.v p.1).length := by rw [List.length_map]; exact (RTt.lenT r).symm
  refine ⟨by rw [List.length_map]; exact lz, fun i m' H' hi e => hw.goes i H' (by omega) (e.frz _ _ _ h), fun m' H' e => by rw [← hn]; exact hw.stops H' (e.frz _ _ _ h), fun i m' H' x H'' st hi e rs y => ?_⟩
  obtain ⟨rfl, k, v, q, h1, rfl, h3⟩ := hw.yields i H' x H'' (by omega) (e.frz _ _ _ h) y
  obtain ⟨ks, t, h4, h5⟩ := RTt.key_at r h1
  refine ⟨rs, Ext.refl _ _, .v (.tup ks), by rw [List.getElem?_map, h4]; rfl, .v (.tup h3 (rs.outTup h3) (l _ (List.mem_of_getElem? h4) _ rfl) (RTs.ofKeys h5))⟩
section
variable {W : WX} {σ : L2.St} {R : It → Hp → Prop}
theorem PostI.at {m1 : Mp} {H1 : Hp} {r : Res (List D)} (p : PostI K ca W σ m H r R) (e : Ext m H m1 H1) : PostI K ca W σ m1 H1 r R := by
  cases r with
  | ok d st => exact fun m' H' v a b c => p m' H' v a b (e.trans c)
  | ex c fs st => exact fun m' H' v a b c => p m' H' v a b (e.trans c)
  | bad => exact p
theorem PostI.bind {f : M D} {g : D → M (List D)} {st : Sto} (p : PostI K ca W σ m H ((f.bind g) st) R) :
    Post K ca W σ m H (f st) fun v H1 => ∃ m1 st1 d, RS K ca m1 H1 st1 ∧ RD K ca m1 H1 d v ∧ Ext m H m1 H1 ∧ PostI K ca W σ m1 H1 (g d st1) R := by
  unfold M.bind at p
  cases h : f st with
  | ok d st1 =>
    rw [h] at p
    exact fun m' H' v a b c => ⟨m', st1, d, a, b, c, PostI.at p c⟩
  | ex c fs st1 => rw [h] at p; exact p
  | bad => rw [h] at p; exact p
theorem PostI.bindL {f : M (List D)} {g : List D → M (List D)} {st : Sto} (p : PostI K ca W σ m H ((f.bind g) st) R) :
    PostL K ca W σ m H (f st) fun vs H1 => ∃ m1 st1 ds, RS K ca m1 H1 st1 ∧ RDs K ca m1 H1 ds vs ∧ Ext m H m1 H1 ∧ PostI K ca W σ m1 H1 (g ds st1) R := by
  unfold M.bind at p
  cases h : f st with
  | ok d st1 =>
    rw [h] at p
    exact fun m' H' v a b c => ⟨m', st1, d, a, b, c, PostI.at p c⟩
  | ex c fs st1 => rw [h] at p; exact p
  | bad => rw [h] at p; exact p
theorem PostI.opt {o : Option (List D)} {g : List D → M (List D)} {st : Sto} (p : PostI K ca W σ m H ((M.opt o st).bind g) R) : ∃ ds, o = some ds ∧ PostI K ca W σ m H (g ds st) R := by
  cases o with
  | none => exact p.elim
  | some ds => exact ⟨ds, rfl, p⟩
theorem PostI.optL {o : Option (List D)} {st : Sto} (p : PostI K ca W σ m H (M.opt o st) R) : ∃ ds, o = some ds ∧ PostI K ca W σ m H (.ok ds st) R := by
  cases o with
  | none => exact p.elim
  | some ds => exact ⟨ds, rfl, p⟩
end
/-! ### a dict that is walked is locked -/
theorem Ext.lock {d : Addr} {u : HO} {o : Obj} (h : H d = some u) (hu : (∃ ps, u = .dK ps) ∨ ∃ ps, u = .dT ps) (od : Out m d) : Ext m H m (upd H d (.frz o u)) := by
  have nf : ∀ o' w, u ≠ .frz o' w := fun o' w z => by rcases hu with ⟨_, rfl⟩ | ⟨_, rfl⟩ <;> cases z
  refine ⟨fun _ _ h => .inl h, fun b w r _ => ?_, fun b w e _ h1 h2 => ?_, fun b o' w e => ?_, fun b w e o => o, fun b w hb e => ?_, rfl⟩
  · by_cases z : b = d
    · subst z
      have : w = u := by
        rcases r with r | ⟨_, r⟩
        · rw [h] at r; cases r; rfl
        · rw [h] at r; cases r; exact (nf _ _ rfl).elim
      subst this
      exact .inr ⟨o, upd_same⟩
    · rcases r with r | ⟨ob, r⟩
      · exact .inl (by rw [upd_ne z]; exact r)
      · exact .inr ⟨ob, by rw [upd_ne z]; exact r⟩
  · rw [upd_ne]
    · exact e
    · intro z; subst z
      rw [h] at e; cases e
      rcases hu with ⟨ps, rfl⟩ | ⟨ps, rfl⟩
      · exact h1 _ rfl
      · exact h2 _ rfl
  · rw [upd_ne]
    · exact e
    · intro z; subst z
      rw [h] at e; cases e
      exact nf _ _ rfl
  · rw [upd_ne]
    · exact e
    · intro z; subst z
      exact od.h hb
theorem RS.lock {d : Addr} {u : HO} {o : Obj} {st : Sto} (r : RS K ca m H st) (h : H d = some u) (hu : (∃ ps, u = .dK ps) ∨ ∃ ps, u = .dT ps) (od : Out m d) : RS K ca m (upd H d (.frz o u)) st := by
  have ex : Ext m H m (upd H d (.frz o u)) := Ext.lock h hu od
  refine ⟨r.len, r.inj, fun n a hn => ?_, r.dead, r.apart, fun b hb => ?_⟩
  · obtain ⟨c, h1, h2⟩ := r.cells n a hn
    exact ⟨c, h1, h2.ext ex (upd_ne (fun z => od.c n (by rw [← z]; exact hn)))⟩
  · rcases r.hs b hb with ⟨_, e⟩ | ⟨_, e⟩ | ⟨_, e⟩
    · exact .inl ⟨_, ex.hid _ _ hb e⟩
    · exact .inr (.inl ⟨_, ex.hid _ _ hb e⟩)
    · exact .inr (.inr ⟨_, ex.hid _ _ hb e⟩)
end
section
variable {X : Cx} {pins : List (Addr × Obj)} {σ : L2.St} {H : Hp} {s : Shared} {tg : Expr} {R : It → Hp → Prop} {E : Value → Shared → Prop}
theorem it_list {a : Addr} {xs : List V} (I : Inv X pins σ H s) (hq : SqL X.K H a xs) (q : R (Itl X.K a) H) : wpAny (model X.prog X.w) X.A (pyIter (.ref a)) (PIE X pins σ tg R) E s := by
  obtain ⟨its, rv, p, hz⟩ := I.list hq
  refine wpAny_pyIter_list p.isList (pi_one (tk := s.toks) I _ (turn_list a _) ⟨_, Heap.get?_push_size _ rfl, rfl, rfl⟩ q)
theorem it_tup {a : Addr} {xs : List V} (I : Inv X pins σ H s) (hq : SqT X.K H a xs) (q : R (Itt X.K a) H) : wpAny (model X.prog X.w) X.A (pyIter (.ref a)) (PIE X pins σ tg R) E s := by
  obtain ⟨its, rv, p, hz⟩ := I.tuple hq
  refine wpAny_pyIter_tuple (show s.heap.IsTuple a its.toArray from p) (pi_one (tk := s.toks) I _ (turn_tuple a _) ⟨_, Heap.get?_push_size _ rfl, rfl, rfl⟩ q)
theorem it_str {x : Str} {t : Tok} (I : Inv X pins σ H s) (q : R (Its x) H) : wpAny (model X.prog X.w) X.A (pyIter (.str x t)) (PIE X pins σ tg R) E s := by
  cases ha : x.cps.all (· < 128)
  · exact wpAny_pyIter_wide ha (pi_one (tk := s.toks) I _ (turn_str _ x t "str_iterator" (.inr rfl)) ⟨_, Heap.get?_push_size _ rfl, rfl, rfl⟩ q)
  · exact wpAny_pyIter_ascii ha (pi_one (tk := s.toks) I _ (turn_str _ x t "str_ascii_iterator" (.inl rfl)) ⟨_, Heap.get?_push_size _ rfl, rfl, rfl⟩ q)
theorem it_keys {d : Addr} {o : Obj} {kvs : List (Key × V)} (I : Inv X pins σ H s) (hd : H d = some (.frz o (.dK kvs))) (q : R (Itk d o kvs) H) : wpAny (model X.prog X.w) X.A (pyIter (.ref d)) (PIE X pins σ tg R) E s := by
  obtain ⟨hs, hgd, hx, es, ep, vs, hdt, hsz, kv, hm⟩ := I.frzK hd
  refine iter_keys hs hgd hx hdt (pi_one (tk := s.toks) I _ (turn_keys _ hdt) ⟨_, Heap.get?_push_size _ rfl, rfl, ?_⟩ q)
  rw [hsz]; rfl
theorem it_keysT {d : Addr} {o : Obj} {kvs : List (List Key × V)} (I : Inv X pins σ H s) (hd : H d = some (.frz o (.dT kvs))) (q : R (Itkt d o kvs) H) : wpAny (model X.prog X.w) X.A (pyIter (.ref d)) (PIE X pins σ tg R) E s := by
  obtain ⟨hs, hgd, hx, es, ep, hdt, hsz, ent⟩ := I.frzT hd
  refine iter_keys hs hgd hx hdt (pi_one (tk := s.toks) I _ (turn_keysT _ hdt) ⟨_, Heap.get?_push_size _ rfl, rfl, ?_⟩ q)
  rw [hsz]; rfl
end
section
variable {X : Cx} {ca : Nat → Addr} {W : WX} {tg : Expr}
theorem ints_rd {K : PySem.W.Frag} {m : Mp} {H : Hp} : ∀ ns : List Int, RDs K ca m H (ns.map fun i => .v (.int i)) (ns.map V.int)
  | [] => .nil
  | i :: r => .cons (.v (.int i)) (ints_rd r)
theorem IW.scr {K : PySem.W.Frag} {m : Mp} {H : Hp} {a : Addr} {ns : List Int} (lz : ns.length ≤ sizeLine) (h : (∃ o, H a = some (.frz o (.lst (ns.map V.int)))) ∨ ∀ H', SqL K H' a (ns.map V.int)) : IW K ca m H (Itl K a) (ns.map fun i => .v (.int i)) :=
  IW.of (G := fun H => SqL K H a (ns.map V.int)) walk_list (ints_rd ns) (by simp) (by simpa using lz) fun m' H' e => h.elim (fun ⟨o, z⟩ => .inl (.inr ⟨o, e.frz _ _ _ z⟩)) fun z => z H'
/-- for x in a -/
theorem pi_it {a : Expr} {fa : Env → M D} (ha : PE X a (rdE X.K ca W fa)) : PI X tg a (rdI X.K ca W fun env => (fa env).bind fun x => M.opt (walked x)) := by
  refine ⟨fun pins s σ H R I ⟨m, st, env, r, e, p⟩ => ?_⟩
  refine thn (ha.run pins s σ H _ I ⟨m, st, env, r, e, p.bind⟩) fun u s1 ⟨v, H1, I1, rv, m1, st1, d, r1, d1, ex, p1⟩ => ?_
  obtain ⟨ds, hw, p2⟩ := p1.optL
  unfold walked at hw
  split at hw <;> cases hw
  · cases d1; rename_i d1; cases d1; rename_i hs
    cases rv
    have lz := (I1.list (scr_at hs)).choose_spec.2.2
    exact it_list I1 (scr_at hs) (p2 _ _ _ r1 (IW.scr (by simpa using lz) hs) (Ext.refl _ _))
  · cases d1; rename_i d1
    cases d1 with
    | lst h o l rs => cases rv; exact it_list I1 (SqL.of h) (p2 _ _ _ r1 (IW.list h o (by rw [List.length_map]; exact l) rs.vs) (Ext.refl _ _))
  · cases d1; rename_i d1
    cases d1 with
    | tup h o l rs => cases rv; exact it_tup I1 (SqT.of h) (p2 _ _ _ r1 (IW.tup h o (by rw [List.length_map]; exact l) rs.vs) (Ext.refl _ _))
  · cases d1; rename_i d1
    cases d1 with
    | dctK h o l rs =>
      cases rv
      rcases h with h | ⟨ob, h⟩
      · obtain ⟨od, I2⟩ := I1.lock h True.intro
        have lk : Ext m1 H1 m1 (upd H1 _ (.frz od (.dK _))) := Ext.lock h (.inl ⟨_, rfl⟩) o
        exact it_keys I2 upd_same (p2 _ _ _ (r1.lock h (.inl ⟨_, rfl⟩) o) (IW.keys upd_same l (rs.ext lk)) lk)
      · exact it_keys I1 h (p2 _ _ _ r1 (IW.keys h l rs) (Ext.refl _ _))
    | dctT h o l rs =>
      cases rv
      have hl : ∀ {H2 : Hp} {s2 : Shared} {ps : List (List Key × V)} {kvs : List (T × T)} {ob : Obj} {d : Addr} {m2 : Mp}, Inv X pins σ H2 s2 → H2 d = some (.frz ob (.dT ps)) → RTt X.K ca m2 H2 kvs ps → ∀ p ∈ kvs, ∀ ks, p.1 = .tup ks → ks.length ≤ sizeLine := fun {H2 s2 ps kvs ob d m2} J hd rt p hp ks e => by
        obtain ⟨z, hs, xs, pr, dd⟩ := dt_rd J.hok (.inr ⟨_, hd⟩)
        obtain ⟨i, hi⟩ := List.getElem?_of_mem hp
        have li : i < ps.length := by rw [← RTt.lenT rt]; exact (List.getElem?_eq_some_iff.mp hi).1
        obtain ⟨q, hq⟩ : ∃ q, ps[i]? = some q := ⟨_, List.getElem?_eq_getElem li⟩
        obtain ⟨ks', t, h4, h5⟩ := RTt.key_at rt hq
        rw [hi] at h4; cases h4
        cases e
        obtain ⟨b, hb, e1, e2, _⟩ := paired_get pr hq
        have := (show ObjOk X.prog X.w H2 s2.heap _ (.tup _) from J.hok _ _ e2).1
        rw [List.length_map] at this
        rw [tKeys_len h5]; exact this
      rcases h with h | ⟨ob, h⟩
      · obtain ⟨od, I2⟩ := I1.lock h True.intro
        have lk : Ext m1 H1 m1 (upd H1 _ (.frz od (.dT _))) := Ext.lock h (.inr ⟨_, rfl⟩) o
        exact it_keysT I2 upd_same (p2 _ _ _ (r1.lock h (.inr ⟨_, rfl⟩) o) (IW.keysT upd_same l (rs.ext lk) (hl I2 upd_same (rs.ext lk))) lk)
      · exact it_keysT I1 h (p2 _ _ _ r1 (IW.keysT h l rs (hl I1 h rs)) (Ext.refl _ _))
  · cases d1; rename_i d1
    cases d1 with
    | str _ hx =>
      obtain ⟨t, rfl⟩ := rv
      exact it_str I1 (p2 _ _ _ r1 (IW.str hx) (Ext.refl _ _))
  · cases d1 with
    | lp h o l rs => cases rv; exact it_list I1 (SqL.of h) (p2 _ _ _ r1 (IW.list h o l rs) (Ext.refl _ _))
  · cases d1 with
    | tp h o l rs => cases rv; exact it_tup I1 (SqT.of h) (p2 _ _ _ r1 (IW.tup h o l rs) (Ext.refl _ _))
end
end PV
end
section
set_option Elab.async false
set_option linter.all false
set_option maxRecDepth 100000
set_option maxHeartbeats 2000000
/-! FB27: enumerate of a tuple, too. -/
namespace PV
open PySem PySem.Spec PyProof.Rows L2
open AutoSeq1 (wpAny_loadPart')
/-- enumerate's making, of a tuple -/
theorem meets_enumT (l : Addr) (its : Array Value) (n : Nat) (od : Option Addr) (sl : Array (Option Value)) :
    Meets (Builtin.«enumerate.__new__» ⟨[.type "enumerate", .ref l], []⟩) fun _ R s => s.heap.get? l = some { cls := .type "tuple", dict := od, data := .seq its n, slots := sl } ∧
      R (.ok (.ret (.ref (s.heap.push { cls := .type "tuple_iterator", data := .fields #[.ref l, .int 0 0] }).objs.size)))
        { s with heap := (s.heap.push { cls := .type "tuple_iterator", data := .fields #[.ref l, .int 0 0] }).push { cls := .type "enumerate", data := .fields #[.none, .bool false, .ref s.heap.objs.size, rawInt 0, .none, .none] } } := by
  refine .of_wp fun prog w A R s h => ?_
  obtain ⟨hp, g, d, tk, os⟩ := s
  obtain ⟨hl, h⟩ := h
  have su := sub_enumerate
  have T : Heap.IsTuple (Shared.heap ⟨hp, g, d, tk, os⟩) l its := ⟨_, hl, rfl, n, rfl⟩
  wp_walk using wpAny_loadPart' hl
  refine wpAny_stack_any fun st => wpAny_pure ?_
  split
  next c _ _ _ _ _ =>
    cases (c == Value.type "enumerate") <;> (wp_walk using wpAny_loadPart' hl, wpAny_pyIter_tuple T) <;> exact ⟨_, rfl, h⟩
  next => (wp_walk using wpAny_loadPart' hl, wpAny_pyIter_tuple T) <;> exact ⟨_, rfl, h⟩
theorem call_enumT {prog : Program} {w : World} {A : Around} {E : Value → Shared → Prop} {s : Shared} {l : Addr} {its : Array Value} {Q : Value → Shared → Prop} (hL : s.heap.IsTuple l its)
    (h : ∀ h', IsEnum h' (s.heap.objs.size + 1) s.heap.objs.size 0 .none → h'.IsTupleIter s.heap.objs.size l 0 → (∀ b o, s.heap.get? b = some o → h'.get? b = some o) → Q (.ref (s.heap.objs.size + 1)) { s with heap := h' }) :
    wpAny (model prog w) A (call (.type "enumerate") [.ref l]) Q E s := by
  obtain ⟨⟨c, od, dt, sl⟩, hl, hc, n, hd⟩ := hL
  simp only at hc hd
  subst hc hd
  refine callType_new F.called_enumerate (by decide) (F.typeCall_enumerate_1 _) (F.newCall_enumerate_1 _) (fun obj => F.args_object_init_2 obj _) F.entry_enumerate_new (meets_enumT l its n od sl) ⟨hl, ?_⟩
  have hz : (s.heap.push { cls := .type "tuple_iterator", data := .fields #[.ref l, .int 0 0] }).objs.size = s.heap.objs.size + 1 := Heap.size_push ..
  show _ ∧ _
  rw [hz]
  have he := Heap.get?_push_size (s.heap.push { cls := .type "tuple_iterator", data := .fields #[.ref l, .int 0 0] }) (o := { cls := .type "enumerate", data := .fields #[.none, .bool false, .ref s.heap.objs.size, rawInt 0, .none, .none] }) rfl
  rw [hz] at he
  exact ⟨⟨_, he, rfl⟩, h _ he ⟨_, Heap.get?_push_of_some _ (Heap.get?_push_size _ rfl), rfl, rfl⟩ fun b o x => Heap.get?_push_of_some _ (Heap.get?_push_of_some _ x)⟩
/-- the tuple at a, each item in a new pair -/
def ItE (K : PySem.W.Frag) (a : Addr) : It :=
  ⟨fun i H => ∃ (xs : List V) (x : V), SqT K H a xs ∧ xs[i]? = some x, fun i H v H' => ∃ T x, v = .ref T ∧ H T = none ∧ H' = upd H T (.tup [.int (i : Nat), x]) ∧ ∀ xs, SqT K H a xs → xs[i]? = some x, fun i H => ∃ xs : List V, SqT K H a xs ∧ xs.length = i⟩
theorem turn_enumT {P : Program} {w : World} {K : PySem.W.Frag} {elts : List Expr} {kk : Nat} {tpos : Pos} (a e it : Addr) :
    Turn P w K (.Tuple elts kk tpos) (ItE K a) [e, it] e (fun i h => (∃ old, IsEnum h e it ((i : Nat) : Int) old) ∧ h.IsTupleIter it a i ∧ e ≠ it) where
  mem := by simp
  obj := fun i h st b hb => by
    obtain ⟨⟨old, he⟩, ⟨o, ho, hc, hd⟩, _⟩ := st
    rcases (by simpa using hb : b = e ∨ b = it) with rfl | rfl
    · exact ⟨_, he, fun v q => nomatch q⟩
    · exact ⟨o, ho, fun v q => by rw [hd] at q; cases q⟩
  keep := fun i h h' st k => by
    obtain ⟨⟨old, he⟩, ⟨o, ho, r⟩, hne⟩ := st
    exact ⟨⟨old, k e (by simp) _ he⟩, ⟨o, k it (by simp) o ho, r⟩, hne⟩
  item := by
    intro X hP hw hK hc i pins s σ H E I hf st hg
    subst hP hw hK
    obtain ⟨⟨old, he⟩, hit, hne⟩ := st
    obtain ⟨xs, x, hq, hx⟩ := hg
    obtain ⟨its, rv, p, hz⟩ := I.tuple hq
    obtain ⟨u, hu, ru⟩ := rv.get hx
    have p' : s.heap.IsTuple a its.toArray := p
    have hel : e < s.heap.objs.size := Heap.lt_size he
    have hil : it < s.heap.objs.size := by obtain ⟨_, q, _⟩ := hit; exact Heap.lt_size q
    have hat : a ≠ it := fun z => by
      obtain ⟨o1, q1, c1, _⟩ := hit
      obtain ⟨o2, q2, c2, _⟩ := p'
      rw [z, q1] at q2; cases q2
      rw [c1] at c2
      exact absurd (Value.type.inj c2) (by decide)
    have hae : a ≠ e := fun z => by
      obtain ⟨o2, q2, c2, _⟩ := p'
      rw [z, he] at q2; cases q2
      exact absurd (Value.type.inj c2) (by decide)
    have hD := Draws.tuple (prog := X.prog) (w := X.w) (A := X.A.in1) (I.ok.hd hc) it a hat its.toArray
    have hlt : i < its.toArray.size := by
      rw [List.size_toArray]; exact (List.getElem?_eq_some_iff.mp hu).1
    refine wpAny_pyNext_enum_itemC hD he ⟨hit, p'⟩ hlt hne (by simp only [List.mem_cons, List.not_mem_nil, or_false, not_or]; exact ⟨hne, Ne.symm hae⟩) fun y h' tk hP ho hst hT hsz hk => ?_
    have ey : y = u := by
      have hP' : its.toArray[i]? = some y := hP
      rw [List.getElem?_toArray, hu] at hP'
      exact (Option.some.inj hP').symm
    subst ey
    refine ⟨_, rfl, wpAny_letOwnedTupleGo_enum (s := { s with heap := h', toks := tk + 1 }) ho fun h'' he' sb => ?_⟩
    have hT2 : h''.get? s.heap.objs.size = some { cls := .type "tuple", data := .seq #[.int i tk, y] } := (sb.2 _ (Nat.ne_of_gt hel)).trans hT
    have new : ObjOk X.prog X.w (upd H s.heap.objs.size (.tup [.int (i : Nat), x])) h'' s.heap.objs.size (.tup [.int (i : Nat), x]) :=
      ⟨show 2 ≤ sizeLine by decide, [.int i tk, y], .cons ⟨_, rfl⟩ (.cons ru .nil), ⟨_, hT2, rfl, _, rfl⟩⟩
    have I1 : Inv X pins σ (upd H s.heap.objs.size (.tup [.int (i : Nat), x])) { s with heap := h'', toks := tk + 1 } :=
      I.turnedNew (ch := [e, it]) (fun b ob hb q => (sb.2 b (fun z => hb (by simp [z]))).trans (hk b ob (fun z => hb (by simp [z])) (fun z => hb (by simp [z])) q)) hf (Nat.le_refl _) new
    obtain ⟨⟨oi, hoi, ri⟩, _⟩ := hst
    refine ⟨.ref s.heap.objs.size, _, I1, rfl, ⟨_, x, rfl, I.hok.fresh (Nat.le_refl _), rfl, fun ys hy => by rw [I.tuple_inj hy hq]; exact hx⟩, ⟨⟨y, ?_⟩, ⟨oi, (sb.2 it (Ne.symm hne)).trans hoi, ri⟩, hne⟩, fun b hb => ?_⟩
    · rw [show ((i + 1 : Nat) : Int) = (i : Int) + 1 by omega]; exact he'
    · have hb' : b < s.heap.objs.size := by
        rcases (by simpa using hb : b = e ∨ b = it) with rfl | rfl
        · exact hel
        · exact hil
      rw [upd_ne (Nat.ne_of_lt hb')]
      exact (hf b hb).1
  done := by
    intro X hP hw hK hc i pins s σ H E I hf st hg
    subst hP hw hK
    obtain ⟨⟨old, he⟩, hit, hne⟩ := st
    obtain ⟨xs, hq, hx⟩ := hg
    obtain ⟨its, rv, p, hz⟩ := I.tuple hq
    have p' : s.heap.IsTuple a its.toArray := p
    have hat : a ≠ it := fun z => by
      obtain ⟨o1, q1, c1, _⟩ := hit
      obtain ⟨o2, q2, c2, _⟩ := p'
      rw [z, q1] at q2; cases q2
      rw [c1] at c2
      exact absurd (Value.type.inj c2) (by decide)
    obtain ⟨f0, f1, f2, f3, f4, f5⟩ := hf it (by simp)
    have hl := rv.length
    have hn : i = its.toArray.size := by rw [List.size_toArray]; omega
    have hD := Draws.tuple (prog := X.prog) (w := X.w) (A := X.A.in1) (I.ok.hd hc) it a hat its.toArray
    exact wpAny_pyNext_enum_endD hD he ⟨by rw [← hn]; exact hit, p'⟩ fun h' eb => ⟨rfl, I.turned (t' := s.toks) (fun b o hb q => eb b o hb q) f0 f1 f3 f4 f5⟩
  self := fun A i s Q E st h => by
    obtain ⟨⟨_, he⟩, _⟩ := st
    exact wpAny_pyIter_enum he h
theorem walk_enumT {K : PySem.W.Frag} {a : Addr} {xs : List V} : Walk (ItE K a) xs.length (fun H => Rd H a (.tup xs)) (YPair (fun i => some (.int (i : Nat))) (fun i => xs[i]?)) := by
  refine ⟨fun i _ hi q => ⟨xs, xs[i], .inl q, by simp [hi]⟩, fun _ q => ⟨xs, .inl q, rfl⟩, fun i H v H' _ q y => ?_⟩
  obtain ⟨T, x, h1, h2, h3, h4⟩ := y
  exact ⟨T, .int (i : Nat), x, h1, h2, h3, rfl, h4 xs (.inl q)⟩
section
variable {ca : Nat → Addr} {K : PySem.W.Frag} {m : Mp} {H : Hp}
theorem enumD_at : ∀ (k : Nat) (ds : List D) (i : Nat) {d : D}, ds[i]? = some d → (enumD k ds)[i]? = some (mk2 (.v (.int ((k + i : Nat) : Int))) d)
  | k, [], i, d, h => by simp at h
  | k, x :: r, 0, d, h => by cases h; rfl
  | k, x :: r, i + 1, d, h => by
    have := enumD_at (k + 1) r i (d := d) (by simpa using h)
    simp only [enumD, List.getElem?_cons_succ]
    rw [this, show k + 1 + i = k + (i + 1) by omega]
theorem enumD_len : ∀ (k : Nat) (ds : List D), (enumD k ds).length = ds.length
  | _, [] => rfl
  | k, x :: r => by simp [enumD, enumD_len (k + 1) r]
/-- a walk that makes pairs -/
theorem IW.pair {J : It} {n : Nat} {G : Hp → Prop} {xs ys : Nat → Option V} {as bs ds : List D} (w : Walk J n G (YPair xs ys)) (hn : n = ds.length) (hz : ds.length ≤ sizeLine) (hG : ∀ m' H', ExtW m H m' H' → G H')
    (hx : ∀ i x m' H', i < n → xs i = some x → ExtW m H m' H' → ∃ d, as[i]? = some d ∧ RD K ca m' H' d x) (hy : ∀ i y m' H', i < n → ys i = some y → ExtW m H m' H' → ∃ d, bs[i]? = some d ∧ RD K ca m' H' d y)
    (hd : ∀ (i : Nat) (a b : D), as[i]? = some a → bs[i]? = some b → ds[i]? = some (mk2 a b)) : IW K ca m H J ds := by
  subst hn
  refine ⟨hz, fun i m' H' hi e => w.goes i H' hi (hG _ _ e), fun m' H' e => w.stops H' (hG _ _ e), fun i m' H' x H'' st hi e r y => ?_⟩
  obtain ⟨T, u, v, rfl, hT, rfl, h1, h2⟩ := w.yields i H' x H'' hi (hG _ _ e) y
  obtain ⟨a, ha, ra⟩ := hx i u m' H' hi h1 e
  obtain ⟨b, hb, rb⟩ := hy i v m' H' hi h2 e
  obtain ⟨n1, n2, n3⟩ := mkT_new (ds := [a, b]) r (.cons ra (.cons rb .nil)) (show 2 ≤ sizeLine by decide) hT
  exact ⟨n1, n3, _, hd i a b ha hb, n2⟩
theorem iota_at : ∀ (k n i : Nat), i < n → ((List.range n).map fun j => D.v (.int ((k + j : Nat) : Int)))[i]? = some (.v (.int ((k + i : Nat) : Int))) := fun k n i h => by
  rw [List.getElem?_map, List.getElem?_range h]; rfl
theorem IW.enum {J : It} {G : Hp → Prop} {ds : List D} {vs : List V} (lz : vs.length ≤ sizeLine) (r : RDs K ca m H ds vs) (w : Walk J vs.length G (YPair (fun i => some (.int (i : Nat))) (fun i => vs[i]?))) (hG : ∀ m' H', ExtW m H m' H' → G H') : IW K ca m H J (enumD 0 ds) := by
  refine IW.pair (as := (List.range vs.length).map fun j => D.v (.int ((0 + j : Nat) : Int))) (bs := ds) w (by rw [enumD_len, r.len]) (by rw [enumD_len, r.len]; exact lz) hG (fun i x m' H' hi hx e => ?_) (fun i y m' H' hi hy e => (r.extW e).atD hy) fun i a b ha hb => ?_
  · cases hx
    refine ⟨_, iota_at 0 _ i hi, ?_⟩
    rw [Nat.zero_add]
    exact .v (.int _)
  · rw [enumD_at 0 ds i hb]
    have hi : i < vs.length := by rw [← r.len]; exact (List.getElem?_eq_some_iff.mp hb).1
    rw [iota_at 0 _ i hi] at ha
    cases ha; rfl
end
section
variable {X : Cx} {ca : Nat → Addr} {W : WX}
/-- a sequence's values at its place -/
theorem walked_seq {m : Mp} {H : Hp} {d : D} {v : V} {ds : List D} (h : walked d = some ds) (r : RD X.K ca m H d v) :
    (∃ a vs, v = .ref a ∧ RDs X.K ca m H ds vs ∧ ∀ m' H', ExtW m H m' H' → SqL X.K H' a vs) ∨ (∃ a vs, v = .ref a ∧ H a = some (.tup vs) ∧ RDs X.K ca m H ds vs ∧ ∀ m' H', ExtW m H m' H' → Rd H' a (.tup vs)) ∨ (∃ z, d = .v (.str z)) ∨ ∃ tk kvs, d = .v (.dct tk kvs) := by
  unfold walked at h
  split at h <;> cases h
  · cases r; rename_i r
    cases r with
    | scr hs => exact .inl ⟨_, _, rfl, ints_rd _, fun m' H' e => hs.elim (fun ⟨o, z⟩ => .inl (.inr ⟨o, e.frz _ _ _ z⟩)) fun z => z H'⟩
  · cases r; rename_i r
    cases r with
    | lst h o l rs => exact .inl ⟨_, _, rfl, rs.vs, fun m' H' e => SqL.of (e.lst h o)⟩
  · cases r; rename_i r
    cases r with
    | tup h o l rs => exact .inr (.inl ⟨_, _, rfl, h, rs.vs, fun m' H' e => .inl (e.tup h o)⟩)
  · exact .inr (.inr (.inr ⟨_, _, rfl⟩))
  · exact .inr (.inr (.inl ⟨_, rfl⟩))
  · cases r with
    | lp h o l rs => exact .inl ⟨_, _, rfl, rs, fun m' H' e => SqL.of (e.lst h o)⟩
  · cases r with
    | tp h o l rs => exact .inr (.inl ⟨_, _, rfl, h, rs, fun m' H' e => .inl (e.tup h o)⟩)
theorem walked2_some {d : D} {ds : List D} (h : walked2 d = some ds) : walked d = some ds ∧ (∀ z, d ≠ .v (.str z)) ∧ ∀ tk kvs, d ≠ .v (.dct tk kvs) := by
  unfold walked2 at h
  split at h
  · cases h
  · cases h
  · rename_i h1 h2
    exact ⟨h, fun z e => h1 z e, fun a b e => h2 a b e⟩
/-- for i, x in enumerate(a): a list, a tuple -/
theorem pi_en {a : Expr} {p pos tpos : Pos} {elts : List Expr} {kk : Nat} {fa : Env → M D} (hg : Gl X "enumerate") (hm : X.mg "enumerate" = none) (ha : PE X a (rdE X.K ca W fa)) (hs : notStar a = true) :
    PI X (.Tuple elts kk tpos) (.Call (.Name "enumerate" p) [a] [] pos) (rdI X.K ca W fun env => (fa env).bind fun x => (M.opt (walked2 x)).bind fun xs => .ret (enumD 0 xs)) := by
  refine ⟨fun pins s σ H R I ⟨m, st, env, r, e, p⟩ => ?_⟩
  have pa : PA X [a] (tCons (rdE X.K ca W fa) tNil) := pa_cons ha pa_nil (starEach_no hs)
  refine Call_ (ld_blt I hg hm boot_enumerate (PyProof.Rows.callWith_type1 (thn (pa.run pos pins s σ H (fun vs H1 => ∃ v, vs = [v] ∧ ∃ m1 st1 d, RS X.K ca m1 H1 st1 ∧ RD X.K ca m1 H1 d v ∧ Ext m H m1 H1 ∧ PostI X.K ca W σ m1 H1 (((M.opt (walked2 d)).bind fun xs => .ret (enumD 0 xs)) st1) R) I ⟨m, st, env, r, e, (PostI.bind p).mono fun v H1 q => ⟨v, rfl, q⟩⟩) fun us s1 ⟨vs, H1, I1, r1, v, ev, m1, st1, d, rs1, d1, ex, p1⟩ => ?_) (starEach_no hs) rfl))
  subst ev
  obtain ⟨u, rfl, ru⟩ := vals1 r1
  obtain ⟨ds, hw, p2⟩ := PostI.opt p1
  obtain ⟨hw, w1, w2⟩ := walked2_some hw
  · rcases walked_seq hw d1 with ⟨a', xs, rfl, rd, hG⟩ | ⟨a', xs, rfl, h1, rd, hG⟩ | ⟨z, rfl⟩ | ⟨tk, kvs, rfl⟩
    · cases ru
      have hq := hG _ _ (Ext.refl _ _).w
      obtain ⟨its, rv, p', hz⟩ := I1.list hq
      refine call_enumerate_list p'.isList fun h' he hit hsz hk => wpAny_pyIter_enum he ?_
      have I2 : Inv X pins σ H1 { s1 with heap := h' } := I1.kept (t' := s1.toks) hk
      refine ⟨s1.heap.objs.size + 1, [s1.heap.objs.size + 1, s1.heap.objs.size], _, _, H1, rfl, I2, turn_enum a' (s1.heap.objs.size + 1) s1.heap.objs.size, ⟨⟨.none, he⟩, hit, Nat.succ_ne_self _⟩, fun b hb => ?_, p2 _ _ _ rs1 (IW.enum hz rd walk_enum hG) (Ext.refl _ _)⟩
      have hle : s1.heap.objs.size ≤ b := by
        rcases (by simpa using hb : b = s1.heap.objs.size + 1 ∨ b = s1.heap.objs.size) with rfl | rfl <;> omega
      exact I1.fpOk hle (I1.hok.fresh hle)
    · cases ru
      obtain ⟨its, rv, p', hz⟩ := I1.tuple (.inl (hG _ _ (Ext.refl _ _).w))
      refine call_enumT (show s1.heap.IsTuple a' its.toArray from p') fun h' he hit hk => wpAny_pyIter_enum he ?_
      have I2 : Inv X pins σ H1 { s1 with heap := h' } := I1.kept (t' := s1.toks) hk
      refine ⟨s1.heap.objs.size + 1, [s1.heap.objs.size + 1, s1.heap.objs.size], _, _, H1, rfl, I2, turn_enumT a' (s1.heap.objs.size + 1) s1.heap.objs.size, ⟨⟨.none, he⟩, hit, Nat.succ_ne_self _⟩, fun b hb => ?_, p2 _ _ _ rs1 (IW.enum hz rd walk_enumT hG) (Ext.refl _ _)⟩
      have hle : s1.heap.objs.size ≤ b := by
        rcases (by simpa using hb : b = s1.heap.objs.size + 1 ∨ b = s1.heap.objs.size) with rfl | rfl <;> omega
      exact I1.fpOk hle (I1.hok.fresh hle)
    · exact (w1 z rfl).elim
    · exact (w2 tk kvs rfl).elim
end
end PV
end
section
set_option Elab.async false
set_option linter.all false
set_option maxRecDepth 100000
set_option maxHeartbeats 2000000
/-! FB28: ranges; a dict's items and values. -/
namespace PV
open PySem PySem.Spec PyProof.Rows L2
section
variable {ca : Nat → Addr} {K : PySem.W.Frag} {m : Mp} {H : Hp}
theorem iotaD_at : ∀ (n : Nat) (lo : Int) (i : Nat), i < n → (iotaD lo n)[i]? = some (.v (.int (lo + i)))
  | 0, _, _, h => by omega
  | n + 1, lo, 0, _ => by simp [iotaD]
  | n + 1, lo, i + 1, h => by
    have := iotaD_at n (lo + 1) i (by omega)
    simp only [iotaD, List.getElem?_cons_succ, this]
    rw [show lo + 1 + (i : Int) = lo + ((i + 1 : Nat) : Int) by omega]
theorem iotaD_len : ∀ (n : Nat) (lo : Int), (iotaD lo n).length = n
  | 0, _ => rfl
  | n + 1, lo => by simp [iotaD, iotaD_len n]
theorem IW.range {lo : Int} {n : Nat} (hz : n ≤ sizeLine) : IW K ca m H (Itr lo n) (iotaD lo n) := by
  refine ⟨by rw [iotaD_len]; exact hz, fun i m' H' hi e => by rw [iotaD_len] at hi; exact hi, fun m' H' e => by rw [iotaD_len]; exact Nat.le_refl _, fun i m' H' x H'' st hi e r y => ?_⟩
  rw [iotaD_len] at hi
  obtain ⟨rfl, rfl⟩ := y
  exact ⟨r, Ext.refl _ _, _, iotaD_at n lo i hi, .v (.int _)⟩
end
section
variable {X : Cx} {ca : Nat → Addr} {W : WX} {tg : Expr}
theorem ranged_cases {ds xs : List D} (h : ranged ds = some xs) : (∃ j : Int, ds = [.v (.int j)] ∧ (-(LIM : Int) ≤ j ∧ j ≤ LIM) ∧ xs = iotaD 0 j.toNat) ∨ ∃ i j : Int, ds = [.v (.int i), .v (.int j)] ∧ (-(LIM : Int) ≤ i ∧ i ≤ LIM ∧ -(LIM : Int) ≤ j ∧ j ≤ LIM ∧ j - i ≤ LIM) ∧ xs = iotaD i (j - i).toNat := by
  unfold ranged at h
  split at h
  · split at h <;> cases h
    rename_i j hj
    exact .inl ⟨j, rfl, hj, rfl⟩
  · split at h <;> cases h
    rename_i i j hj
    exact .inr ⟨i, j, rfl, hj, rfl⟩
  · cases h
theorem pi_rn {a : Expr} {es : List Expr} {p pos : Pos} {f : Env → M (List D)} (hg : Gl X "range") (hm : X.mg "range" = none) (ha : PA X (a :: es) (rdL X.K ca W f)) (hs : (a :: es).all notStar = true) :
    PI X tg (.Call (.Name "range" p) (a :: es) [] pos) (rdI X.K ca W fun env => (f env).bind fun ds => M.opt (ranged ds)) := by
  have h2 := hs
  simp only [List.all_cons, Bool.and_eq_true] at h2
  refine ⟨fun pins s σ H R I ⟨m, st, env, r, e, p⟩ => ?_⟩
  refine Call_ (ld_blt I hg hm boot_range (PyProof.Rows.callWith_type1 (thn (ha.run pos pins s σ H _ I ⟨m, st, env, r, e, PostI.bindL p⟩) fun us s1 ⟨vs, H1, I1, rv, m1, st1, ds, r1, d1, ex, p1⟩ => ?_) (starEach_no h2.1) (stars_no h2.2)))
  obtain ⟨xs, hr, p2⟩ := PostI.optL p1
  rcases ranged_cases hr with ⟨j, rfl, hj, rfl⟩ | ⟨i, j, rfl, hj, rfl⟩
  · obtain ⟨v, rfl, rd⟩ := d1.one
    cases rd; rename_i rd; cases rd
    obtain ⟨u, rfl, t, rfl⟩ := vals1 rv
    unfold LIM at hj
    refine call_range_1 (range_it I1 (by omega) (by omega) (by omega) (by omega) (p2 _ _ _ r1 ?_ (Ext.refl _ _)))
    rw [Int.sub_zero]; exact IW.range (by rw [sizeLine_eq]; omega)
  · obtain ⟨v, w, rfl, rd, rd2⟩ := d1.two
    cases rd; rename_i rd; cases rd
    cases rd2; rename_i rd2; cases rd2
    obtain ⟨u, u2, rfl, ⟨t, rfl⟩, t2, rfl⟩ := vals2 rv
    unfold LIM at hj
    exact call_range_2 (range_it I1 (by omega) (by omega) (by omega) (by omega) (p2 _ _ _ r1 (IW.range (by rw [sizeLine_eq]; omega)) (Ext.refl _ _)))
end
end PV
end
section
set_option Elab.async false
set_option linter.all false
set_option maxRecDepth 100000
set_option maxHeartbeats 2000000
/-! FB29: names stored. -/
namespace PV
open PySem PySem.Spec PyProof.Rows L2
section
variable {prog : Program} {w : World} {A : Around} {E : Value → Shared → Prop} {s : Shared} {env : PySem.Env}
theorem asg_tup_list {elts : List Expr} {k : Nat} {pos : Pos} {t : Addr} {items : Array Value} {Q : Unit → Shared → Prop} (hh : A.handled = none) (ht : s.heap.IsList t items) (hn : (assignEach elts env).length = items.size) (hs : (assignEach elts env).findIdx? (·.1) = none)
    (h : ∀ h', Heap.ExtBut s.heap.objs.size s.heap h' → wpAny (model prog w) A (assignInOrder ((assignEach elts env).map (·.2)) items.toList) Q E { s with heap := h' }) : wpAny (model prog w) A (assign (.Tuple elts k pos) env (.ref t)) Q E s := by
  rw [assign_Tuple]
  refine wpAny_bind (wpAny_standAt ?_)
  unfold unpack
  rw [hn, hs]
  exact wpAny_bind (wpAny_holding (PySem.W.kun_itemsOf hh ht h))
end
section
variable {X : Cx} {ca : Nat → Addr}
/-- an unpacked list, or tuple -/
def gSeq (K : PySem.W.Frag) (n : Nat) (t : TGs) : TG := fun v σ H Q => ∃ a xs, v = .ref a ∧ (SqT K H a xs ∨ SqL K H a xs) ∧ xs.length = n ∧ t xs σ H Q
theorem pg_seq {es : List Expr} {k : Nat} {t : TGs} {n : Nat} {pos : Pos} (hc : X.calm = true) (h : PGs X es t) (hn : (assignEach es X.env).length = n) (hst : (assignEach es X.env).findIdx? (·.1) = none) : PG X (.Tuple es k pos) (gSeq X.K n t) := by
  refine ⟨fun pins s σ H v u Q I r hw => ?_⟩
  obtain ⟨a, xs, rfl, hq, hl, hw⟩ := hw
  cases r
  rcases hq with hq | hq
  · exact (pg_tup hc h hn hst).run pins s σ H (.ref a) _ Q I rfl ⟨a, xs, rfl, hq, hl, hw⟩
  · obtain ⟨its, rv, ht, hz⟩ := I.list hq
    refine asg_tup_list (I.ok.hd hc) ht.isList (by rw [List.size_toArray, ← rv.length, hl, hn]) hst fun h' hx => ?_
    have I1 : Inv X pins σ H { s with heap := h' } := I.kept (t' := s.toks) fun b o e => hx b o (Nat.ne_of_lt (Heap.lt_size e)) e
    exact h.run pins _ σ H xs _ Q I1 (by simpa using rv) hw
theorem RE.set {K : PySem.W.Frag} {m : Mp} {H : Hp} {env : Env} {σ : L2.St} {i : Nat} {d : D} {v : V} (h : RE K ca m H env σ) (r : RD K ca m H d v) : RE K ca m H (env.set i (some d)) (σ.set i (some v)) := by
  refine ⟨by rw [List.length_set, List.length_set]; exact h.1, fun j d' hj => ?_⟩
  by_cases z : i = j
  · subst z
    have hi : i < env.length := by
      have := (List.getElem?_eq_some_iff.mp hj).1
      rwa [List.length_set] at this
    rw [List.getElem?_set_self hi] at hj
    cases hj
    exact ⟨v, by rw [List.getElem?_set_self (by rw [← h.1]; exact hi)], r⟩
  · rw [List.getElem?_set_ne z] at hj
    obtain ⟨w, h1, h2⟩ := h.2 j d' hj
    exact ⟨w, by rw [List.getElem?_set_ne z]; exact h1, h2⟩
mutual
def Pt.slots : Pt → List Nat
  | .nm i => [i]
  | .tp ps => Pt.slotss ps
def Pt.slotss : List Pt → List Nat
  | [] => []
  | p :: r => p.slots ++ Pt.slotss r
end
/-- the slots but those of is -/
def Same (is : List Nat) (σ σ' : L2.St) : Prop := σ'.length = σ.length ∧ ∀ i, i ∉ is → σ'[i]? = σ[i]?
theorem Same.refl {is : List Nat} {σ : L2.St} : Same is σ σ := ⟨rfl, fun _ _ => rfl⟩
theorem Same.trans {is js : List Nat} {σ σ1 σ2 : L2.St} (a : Same is σ σ1) (b : Same js σ1 σ2) : Same (is ++ js) σ σ2 := by
  refine ⟨b.1.trans a.1, fun i hi => ?_⟩
  simp only [List.mem_append, not_or] at hi
  exact (b.2 i hi.2).trans (a.2 i hi.1)
def rdP (K : PySem.W.Frag) (ca : Nat → Addr) (g : Pt) : TG := fun x σ H N => ∃ m st env d, RS K ca m H st ∧ RE K ca m H env σ ∧ RD K ca m H d x ∧ ∃ env', bindP st g d env = some env' ∧ ∀ σ', RE K ca m H env' σ' → Same g.slots σ σ' → N σ' H
def rdPs (K : PySem.W.Frag) (ca : Nat → Addr) (g : List Pt) : TGs := fun xs σ H N => ∃ m st env ds, RS K ca m H st ∧ RE K ca m H env σ ∧ RDs K ca m H ds xs ∧ ∃ env', bindPs st g ds env = some env' ∧ ∀ σ', RE K ca m H env' σ' → Same (Pt.slotss g) σ σ' → N σ' H
theorem _root_.L2.PG.imp {X : Cx} {e : Expr} {t t' : TG} (h : PG X e t) (i : ∀ x σ H Q, t' x σ H Q → t x σ H Q) : PG X e t' := ⟨fun pins s σ H v u Q I r q => h.run pins s σ H v u Q I r (i v σ H Q q)⟩
theorem _root_.L2.PGs.imp {X : Cx} {e : List Expr} {t t' : TGs} (h : PGs X e t) (i : ∀ x σ H Q, t' x σ H Q → t x σ H Q) : PGs X e t' := ⟨fun pins s σ H v u Q I r q => h.run pins s σ H v u Q I r (i v σ H Q q)⟩
theorem pg_nm {i : Nat} {x : Str} {pos : Pos} (hN : X.N.Nodup) (hi : X.N[i]? = some x) (hx : Loc X.env.scope x) (hf : X.fn x = true ∨ X.env.scope.names.lookup x = some .local) : PG X (.Name x pos) (rdP X.K ca (.nm i)) := by
  refine (pg_name hN hi hx hf).imp fun x σ H Q ⟨m, st, env, d, r, re, rd, env', e, k⟩ => ?_
  unfold bindP at e
  cases z : decide (i < env.length) with
  | false => rw [z] at e; cases e
  | true =>
    rw [z] at e; cases e
    exact k _ (re.set rd) ⟨List.length_set, fun j hj => by
      rw [List.getElem?_set_ne]
      intro z; subst z
      exact hj (List.mem_singleton.mpr rfl)⟩
theorem pgs_n : PGs X [] (rdPs X.K ca []) := by
  refine pgs_nil.imp fun xs σ H Q ⟨m, st, env, ds, r, re, rd, env', e, k⟩ => ?_
  cases rd with
  | nil => cases e; exact ⟨rfl, k σ re Same.refl⟩
  | cons a b => cases e
def notStarT : Expr → Bool
  | .Starred _ _ => false
  | _ => true
theorem each_no {e : Expr} {es : List Expr} {env : PySem.Env} (h : notStarT e = true) : assignEach (e :: es) env = (false, assign e env) :: assignEach es env := by
  cases e <;> first | rfl | (simp [notStarT] at h)
theorem each_len {env : PySem.Env} : ∀ {es : List Expr}, es.all notStarT = true → (assignEach es env).length = es.length ∧ (assignEach es env).findIdx? (·.1) = none
  | [], _ => ⟨rfl, rfl⟩
  | e :: es, h => by
    simp only [List.all_cons, Bool.and_eq_true] at h
    rw [each_no h.1]
    obtain ⟨h1, h2⟩ := each_len (env := env) h.2
    refine ⟨by rw [List.length_cons, h1, List.length_cons], ?_⟩
    rw [List.findIdx?_cons, h2]; rfl
theorem pgs_c {e : Expr} {es : List Expr} {p : Pt} {ps : List Pt} (h1 : PG X e (rdP X.K ca p)) (h2 : PGs X es (rdPs X.K ca ps)) (hs : notStarT e = true) : PGs X (e :: es) (rdPs X.K ca (p :: ps)) := by
  refine (pgs_cons h1 h2 (by rw [each_no hs]; rfl)).imp fun xs σ H Q ⟨m, st, env, ds, r, re, rd, env', e, k⟩ => ?_
  cases rd with
  | nil => cases e
  | @cons d v ds vs a b =>
    unfold bindPs at e
    cases z : bindP st p d env with
    | none => rw [z] at e; cases e
    | some en =>
      rw [z] at e
      refine ⟨_, _, rfl, m, st, env, d, r, re, a, en, z, fun σ1 re1 sm1 => ?_⟩
      exact ⟨m, st, en, ds, r, re1, b, env', e, fun σ2 re2 sm2 => k σ2 re2 (sm1.trans sm2)⟩
theorem bindPs_len {st : Sto} : ∀ {ps : List Pt} {ds : List D} {env env' : Env}, bindPs st ps ds env = some env' → ds.length = ps.length
  | [], [], _, _, _ => rfl
  | [], _ :: _, _, _, e => by cases e
  | _ :: _, [], _, _, e => by cases e
  | p :: ps, d :: ds, env, env', e => by
    unfold bindPs at e
    cases z : bindP st p d env with
    | none => rw [z] at e; cases e
    | some en => rw [z] at e; simp [bindPs_len e]
theorem pg_tp {es : List Expr} {ps : List Pt} {k : Nat} {pos : Pos} (hc : X.calm = true) (h : PGs X es (rdPs X.K ca ps)) (hs : es.all notStarT = true) (hl : es.length = ps.length) : PG X (.Tuple es k pos) (rdP X.K ca (.tp ps)) := by
  obtain ⟨l1, l2⟩ := each_len (env := X.env) hs
  refine (pg_seq hc h l1 l2).imp fun x σ H Q ⟨m, st, env, d, r, re, rd, env', e, kk⟩ => ?_
  unfold bindP at e
  cases z : asSeq st d with
  | none => rw [z] at e; cases e
  | some ds =>
    rw [z] at e
    have go : ∀ {a : Addr} {vs : List V}, RDs X.K ca m H ds vs → vs.length = es.length ∧ rdPs X.K ca ps vs σ H Q := fun {a vs} rs => by
      refine ⟨by rw [← rs.len, bindPs_len e, hl], m, st, env, ds, r, re, rs, env', e, fun σ' h1 h2 => kk σ' h1 h2⟩
    unfold asSeq at z
    cases z1 : asTup d with
    | some ds' =>
      rw [z1] at z; cases z
      obtain ⟨a, vs, rfl, h1, h2, h3⟩ := RD.tupI z1 rd
      exact ⟨a, vs, rfl, .inl (SqT.of h1), (go (a := a) h3).1, (go (a := a) h3).2⟩
    | none =>
      rw [z1] at z
      obtain ⟨a, vs, rfl, h1, h2, h3⟩ := RD.lstI r z rd
      exact ⟨a, vs, rfl, .inr (SqL.of h1), (go (a := a) h3).1, (go (a := a) h3).2⟩
end
end PV
end
section
set_option Elab.async false
set_option linter.all false
set_option maxRecDepth 100000
set_option maxHeartbeats 2000000
/-! FB30: comprehensions. -/
namespace PV
open PySem PySem.Spec PyProof.Rows L2
section
variable {K : PySem.W.Frag} {ca : Nat → Addr} {m m1 m' : Mp} {H H1 : Hp} {D0 : Addr} {st : Sto}
/-- the state within a comprehension, its own list at D0 -/
structure LX (m1 : Mp) (H1 : Hp) (D0 : Addr) (m' : Mp) (H : Hp) : Prop where
  hh : m'.h = D0 :: m1.h
  x : ExtW m1 H1 m' H
  hid : ∀ b u, b ∈ m1.h → H1 b = some u → H b = some u
theorem LX.start {u : HO} (hp : H1 D0 = none) : LX m1 H1 D0 (m1.hide D0) (upd H1 D0 u) := by
  refine ⟨rfl, ⟨fun _ _ h => .inl h, fun _ _ h _ => Rd.new hp h, fun _ _ h _ _ _ => by rw [upd_ne (ne_p hp h)]; exact h, fun _ _ _ h => by rw [upd_ne (ne_p hp h)]; exact h, fun a u h o => ⟨o.c, ?_⟩⟩, fun b u _ h => by rw [upd_ne (ne_p hp h)]; exact h⟩
  intro z
  rcases List.mem_cons.mp z with z | z
  · exact ne_p hp h z
  · exact o.h z
theorem LX.step {H' : Hp} {m2 : Mp} (h : LX m1 H1 D0 m' H) (e : Ext m' H m2 H') : LX m1 H1 D0 m2 H' := by
  refine ⟨e.hh.trans h.hh, ⟨fun n o q => ?_, fun a u r o => ?_, fun a u r o h1 h2 => e.keepE a u (h.x.keepE a u r o h1 h2) (h.x.out a u r o) h1 h2, fun a o u r => e.frz a o u (h.x.frz a o u r), fun a u r o => ?_⟩, fun b u hb r => e.hid b u (by rw [h.hh]; exact List.mem_cons_of_mem _ hb) (h.hid b u hb r)⟩
  · rcases h.x.le n o q with q | q
    · exact e.le n o q
    · rcases e.le n none q with q | q <;> exact .inr q
  · obtain ⟨w, q⟩ := Rd.tr r
    exact e.keep a u (h.x.keep a u r o) (h.x.out a w q o)
  · have h1 := h.x.keep a u (.inl r) o
    obtain ⟨w, q⟩ := Rd.tr h1
    exact e.out a w q (h.x.out a u r o)
/-- the own list is written -/
theorem ExtW.own {u w : HO} (hD : D0 ∈ m'.h) (hw : H D0 = some w) (hf : ∀ o v, w ≠ .frz o v) : ExtW m' H m' (upd H D0 u) := by
  have ne : ∀ a, Out m' a → a ≠ D0 := fun a o z => o.h (by rw [z]; exact hD)
  refine ⟨fun _ _ h => .inl h, fun a v r o => ?_, fun a v r o _ _ => by rw [upd_ne (ne a o)]; exact r, fun a o v r => ?_, fun a v r o => o⟩
  · unfold Rd; rw [upd_ne (ne a o)]; exact r
  · rw [upd_ne]
    · exact r
    · intro z; subst z
      rw [hw] at r; cases r; exact hf _ _ rfl
theorem RS.hide (r : RS K ca m H st) {u : HO} (hp : H D0 = none) (hu : (∃ xs, u = .lst xs) ∨ (∃ ps, u = .dK ps) ∨ ∃ ps, u = .dT ps) : RS K ca (m.hide D0) (upd H D0 u) st := by
  have ex : ExtW m H (m.hide D0) (upd H D0 u) := (LX.start hp).x
  refine ⟨r.len, r.inj, fun n a h => ?_, r.dead, fun n a h z => ?_, fun a h => ?_⟩
  · obtain ⟨c, h1, h2⟩ := r.cells n a h
    obtain ⟨w, q⟩ := h2.at
    exact ⟨c, h1, h2.extW ex (upd_ne (ne_p hp q))⟩
  · rcases List.mem_cons.mp z with z | z
    · subst z
      obtain ⟨w, q⟩ := r.at h
      rw [hp] at q; cases q
    · exact r.apart n a h z
  · rcases List.mem_cons.mp h with z | z
    · subst z
      rcases hu with ⟨xs, rfl⟩ | ⟨xs, rfl⟩ | ⟨xs, rfl⟩
      · exact .inl ⟨_, upd_same⟩
      · exact .inr (.inl ⟨_, upd_same⟩)
      · exact .inr (.inr ⟨_, upd_same⟩)
    · have q := (RS.new (u := u) r hp).hs a z
      exact q
theorem RS.own (r : RS K ca m' H st) {u w : HO} (hD : D0 ∈ m'.h) (hw : H D0 = some w) (hf : ∀ o v, w ≠ .frz o v) (hu : (∃ xs, u = .lst xs) ∨ (∃ ps, u = .dK ps) ∨ ∃ ps, u = .dT ps) : RS K ca m' (upd H D0 u) st := by
  have ex : ExtW m' H m' (upd H D0 u) := ExtW.own hD hw hf
  refine ⟨r.len, r.inj, fun n a h => ?_, r.dead, r.apart, fun a h => ?_⟩
  · obtain ⟨c, h1, h2⟩ := r.cells n a h
    exact ⟨c, h1, h2.extW ex (upd_ne (fun z => r.apart n a h (by rw [z]; exact hD)))⟩
  · by_cases z : a = D0
    · subst z
      rcases hu with ⟨xs, rfl⟩ | ⟨xs, rfl⟩ | ⟨xs, rfl⟩
      · exact .inl ⟨_, upd_same⟩
      · exact .inr (.inl ⟨_, upd_same⟩)
      · exact .inr (.inr ⟨_, upd_same⟩)
    · rw [upd_ne z]; exact r.hs a h
theorem LX.own {u w : HO} (h : LX m1 H1 D0 m' H) (h1 : H1 D0 = none) (hw : H D0 = some w) (hf : ∀ o v, w ≠ .frz o v) : LX m1 H1 D0 m' (upd H D0 u) := by
  have ex : ExtW m' H m' (upd H D0 u) := ExtW.own (by rw [h.hh]; exact List.mem_cons_self ..) hw hf
  refine ⟨h.hh, ⟨h.x.le, fun a v r o => ?_, fun a v r o k1 k2 => ex.keepE a v (h.x.keepE a v r o k1 k2) (h.x.out a v r o) k1 k2, fun a o v r => ex.frz a o v (h.x.frz a o v r), h.x.out⟩, fun b v hb r => ?_⟩
  · obtain ⟨z, q⟩ := Rd.tr r
    exact ex.keep a v (h.x.keep a v r o) (h.x.out a z q o)
  · rw [upd_ne (ne_p h1 r)]; exact h.hid b v hb r
/-- the comprehension's end: its list is a value now -/
def Mp.bare (m' m1 : Mp) : Mp := ⟨m'.l, m1.h⟩
theorem LX.bare (h : LX m1 H1 D0 m' H) : Ext m1 H1 (m'.bare m1) H :=
  ⟨h.x.le, h.x.keep, h.x.keepE, h.x.frz, fun a u r o => ⟨(h.x.out a u r o).c, o.h⟩, h.hid, rfl⟩
theorem LX.toBare (h : LX m1 H1 D0 m' H) : ExtW m' H (m'.bare m1) H :=
  ⟨fun _ _ q => .inl q, fun _ _ r _ => r, fun _ _ r _ _ _ => r, fun _ _ _ r => r, fun a u r o => ⟨o.c, fun z => o.h (by rw [h.hh]; exact List.mem_cons_of_mem _ z)⟩⟩
theorem RS.bare (r : RS K ca m' H st) (h : LX m1 H1 D0 m' H) : RS K ca (m'.bare m1) H st := by
  refine ⟨r.len, r.inj, fun n a q => ?_, r.dead, fun n a q z => r.apart n a q (by rw [h.hh]; exact List.mem_cons_of_mem _ z), fun a z => r.hs a (by rw [h.hh]; exact List.mem_cons_of_mem _ z)⟩
  obtain ⟨c, h1, h2⟩ := r.cells n a q
  exact ⟨c, h1, h2.extW h.toBare rfl⟩
theorem LX.outOwn (r : RS K ca m' H st) (h : LX m1 H1 D0 m' H) (hn : D0 ∉ m1.h) : Out (m'.bare m1) D0 := ⟨fun n q => r.apart n D0 q (by rw [h.hh]; exact List.mem_cons_self ..), hn⟩
theorem LX.toPush (h : LX m1 H1 D0 m' H) : ExtW m' H ((m'.bare m1).push D0) H := by
  refine ⟨fun n o q => .inl ?_, fun _ _ r _ => r, fun _ _ r _ _ _ => r, fun _ _ _ r => r, fun a u r o => ⟨fun n q => ?_, fun z => o.h (by rw [h.hh]; exact List.mem_cons_of_mem _ z)⟩⟩
  · have hn : n < m'.l.length := (List.getElem?_eq_some_iff.mp q).1
    show (m'.l ++ [some D0])[n]? = _
    rw [List.getElem?_append_left hn]; exact q
  · have q : (m'.l ++ [some D0])[n]? = some (some a) := q
    by_cases hn : n < m'.l.length
    · rw [List.getElem?_append_left hn] at q; exact o.c n q
    · rw [List.getElem?_append_right (by omega)] at q
      have hb : a ≠ D0 := fun z => o.h (by rw [h.hh, z]; exact List.mem_cons_self ..)
      cases z : n - m'.l.length with
      | zero => rw [z] at q; simp at q; exact hb q.symm
      | succ k => rw [z] at q; simp at q
theorem LX.pushed (h : LX m1 H1 D0 m' H) (hp : H1 D0 = none) : Ext m1 H1 ((m'.bare m1).push D0) H := by
  refine ⟨fun n o q => ?_, h.x.keep, h.x.keepE, h.x.frz, fun a u r o => ⟨(h.toPush.out a _ (Classical.choose_spec (Rd.tr (h.x.keep a u (.inl r) o))) (h.x.out a u r o)).c, o.h⟩, h.hid, rfl⟩
  rcases h.x.le n o q with q | q
  · exact h.toPush.le n o q
  · rcases h.toPush.le n none q with q | q <;> exact .inr q
/-- .. becomes a cell -/
theorem RS.adopt {c : Cell} (r : RS K ca m' H st) (h : LX m1 H1 D0 m' H) (hn : D0 ∉ m1.h) (hcc : RC K ca ((m'.bare m1).push D0) H c D0) : RS K ca ((m'.bare m1).push D0) H (st ++ [some c]) := by
  have o := h.outOwn r hn
  have b := r.bare h
  have hl := r.len
  have key : ∀ (n : Nat) (o : Option Addr), (m'.l ++ [some D0])[n]? = some o → (n < m'.l.length ∧ m'.l[n]? = some o) ∨ (n = m'.l.length ∧ o = some D0) := fun n o q => by
    by_cases hn : n < m'.l.length
    · rw [List.getElem?_append_left hn] at q; exact .inl ⟨hn, q⟩
    · rw [List.getElem?_append_right (by omega)] at q
      cases z : n - m'.l.length with
      | zero => rw [z] at q; simp at q; exact .inr ⟨by omega, q.symm⟩
      | succ k => rw [z] at q; simp at q
  refine ⟨by show (m'.l ++ [some D0]).length = _; simp [hl], fun i j a hi hj => ?_, fun n a h' => ?_, fun n h' => ?_, fun n a h' => ?_, b.hs⟩
  · rcases key i _ hi with ⟨_, h1⟩ | ⟨h1, e1⟩ <;> rcases key j _ hj with ⟨_, h2⟩ | ⟨h2, e2⟩
    · exact r.inj i j a h1 h2
    · cases e2; exact (o.c _ h1).elim
    · cases e1; exact (o.c _ h2).elim
    · omega
  · rcases key n _ h' with ⟨hn, h1⟩ | ⟨h1, e1⟩
    · obtain ⟨c', h2, h3⟩ := r.cells n a h1
      refine ⟨c', ?_, h3.extW h.toPush rfl⟩
      rw [cellAt_some] at h2 ⊢
      rw [List.getElem?_append_left (by omega)]; exact h2
    · cases e1
      refine ⟨c, ?_, hcc⟩
      rw [cellAt_some, h1, hl]
      simp
  · rcases key n _ h' with ⟨hn, h1⟩ | ⟨h1, e1⟩
    · rw [List.getElem?_append_left (by omega)]; exact r.dead n h1
    · cases e1
  · rcases key n _ h' with ⟨hn, h1⟩ | ⟨h1, e1⟩
    · exact b.apart n a h1
    · cases e1; exact hn
end
section
variable {K : PySem.W.Frag} {ca : Nat → Addr} {m1 m' : Mp} {H H1 : Hp} {D0 : Addr} {st st0 : Sto} {W : WX} {σ : L2.St} {Q : VK}
theorem outNow (r0 : RS K ca m1 H1 st0) (hp : H1 D0 = none) : D0 ∉ m1.h := (r0.outNew hp).h
theorem mkL_fin {mu : Bool} {acc : List D} {vs : List V} (r0 : RS K ca m1 H1 st0) (hp : H1 D0 = none) (r : RS K ca m' H st) (h : LX m1 H1 D0 m' H) (hD : H D0 = some (.lst vs)) (b : RDs K ca m' H acc vs) (l : acc.length ≤ sizeLine)
    (p : Post K ca W σ m1 H1 (mkL mu acc st) Q) : Q (.ref D0) H := by
  have hn := outNow r0 hp
  cases mu with
  | true =>
    have p : End K ca m1 H1 (.ref st.length) (st ++ [some (.lst acc)]) Q := p
    refine p ((m'.bare m1).push D0) H _ (r.adopt h hn (.lst hD l (b.extW h.toPush))) (.ref ?_) (h.pushed hp)
    show (m'.l ++ [some D0])[_]? = _
    rw [← r.len]; simp
  | false =>
    have rb := r.bare h
    have ob := h.outOwn r hn
    unfold mkL at p
    cases q : allD acc with
    | some ts =>
      rw [q] at p
      have p : End K ca m1 H1 (.v (.lst ts)) st Q := p
      exact p _ H _ rb (.v (.lst hD ob (by rw [allD_len q]; exact l) ((allD_RTs b q).extW h.toBare))) h.bare
    | none =>
      rw [q] at p
      have p : End K ca m1 H1 (.lp acc) st Q := p
      exact p _ H _ rb (.lp hD ob l (b.extW h.toBare)) h.bare
end
end PV
end
section
set_option Elab.async false
set_option linter.all false
set_option maxRecDepth 100000
set_option maxHeartbeats 2000000
/-! FB31: list comprehensions. -/
namespace PV
open PySem PySem.Spec PyProof.Rows L2
section
variable {K : PySem.W.Frag} {ca : Nat → Addr} {m m1 : Mp} {H H1 : Hp} {W : WX} {σ : L2.St}
/-- nothing may be raised -/
def W0 : WX := fun _ _ _ _ => False
theorem wipe_out {i : Nat} : ∀ {vs : List Nat} {σ : L2.St}, i ∉ vs → (wipe σ vs)[i]? = σ[i]?
  | [], _, _ => rfl
  | v :: vs, σ, h => by
    simp only [List.mem_cons, not_or] at h
    unfold wipe
    rw [List.getElem?_set_ne (fun z => h.1 z.symm)]
    exact wipe_out h.2
theorem wipe_in {i : Nat} : ∀ {vs : List Nat} {σ : L2.St}, i ∈ vs → i < σ.length → (wipe σ vs)[i]? = some none
  | v :: vs, σ, h, hl => by
    unfold wipe
    by_cases z : v = i
    · subst z
      rw [List.getElem?_set_self (by rw [wipe_length]; exact hl)]
    · rw [List.getElem?_set_ne z]
      exact wipe_in ((List.mem_cons.mp h).resolve_left fun e => z e.symm) hl
theorem wipe_same {is vs : List Nat} {σ σ' : L2.St} (h : Same is (wipe σ vs) σ') (hs : ∀ i ∈ is, i ∈ vs) : wipe σ' vs = wipe σ vs := by
  have hl : σ'.length = σ.length := h.1.trans (wipe_length _ _)
  apply List.ext_getElem?
  intro i
  by_cases z : i ∈ vs
  · by_cases hi : i < σ.length
    · rw [wipe_in z hi, wipe_in z (by rw [hl]; exact hi)]
    · rw [List.getElem?_eq_none (by rw [wipe_length]; omega), List.getElem?_eq_none (by rw [wipe_length]; omega)]
  · rw [wipe_out z]
    exact h.2 i fun y => z (hs i y)
theorem wipeE_len (env : Env) : ∀ vs, (wipeE env vs).length = env.length
  | [] => rfl
  | v :: vs => by unfold wipeE; rw [List.length_set, wipeE_len env vs]
theorem wipeE_some {env : Env} {i : Nat} {d : D} : ∀ {vs : List Nat}, (wipeE env vs)[i]? = some (some d) → env[i]? = some (some d) ∧ i ∉ vs
  | [], h => ⟨h, by simp⟩
  | v :: vs, h => by
    unfold wipeE at h
    by_cases z : v = i
    · subst z
      by_cases hl : v < (wipeE env vs).length
      · rw [List.getElem?_set_self hl] at h; cases h
      · rw [List.getElem?_eq_none (by rw [List.length_set]; omega)] at h; cases h
    · rw [List.getElem?_set_ne z] at h
      obtain ⟨h1, h2⟩ := wipeE_some h
      exact ⟨h1, by simp only [List.mem_cons, not_or]; exact ⟨fun e => z e.symm, h2⟩⟩
theorem RE.wipe {env : Env} (h : RE K ca m H env σ) (vs : List Nat) : RE K ca m H (wipeE env vs) (L2.wipe σ vs) := by
  refine ⟨by rw [wipeE_len, wipe_length]; exact h.1, fun i d hd => ?_⟩
  obtain ⟨h1, h2⟩ := wipeE_some hd
  obtain ⟨v, h3, h4⟩ := h.2 i d h1
  exact ⟨v, by rw [wipe_out h2]; exact h3, h4⟩
theorem nox_post {α : Type} {f : M α} {g : α → M D} {st : Sto} {Q : VK} (p : Post K ca W σ m H (((nox f).bind g) st) Q) : ∃ a st', f st = .ok a st' ∧ Post K ca W σ m H (g a st') Q := by
  have p : Post K ca W σ m H ((nox f st).bind g) Q := p
  cases h : f st with
  | ok a st' =>
    rw [show nox f st = .ok a st' by unfold nox; rw [h]] at p
    exact ⟨a, st', rfl, p⟩
  | ex c fs st' =>
    rw [show nox f st = .bad by unfold nox; rw [h]] at p
    exact p.elim
  | bad =>
    rw [show nox f st = .bad by unfold nox; rw [h]] at p
    exact p.elim
theorem bind_ok {α β : Type} {f : M α} {g : α → M β} {st st' : Sto} {b : β} (h : (f.bind g) st = .ok b st') : ∃ a s, f st = .ok a s ∧ g a s = .ok b st' := by
  unfold M.bind at h
  cases e : f st with
  | ok a s => rw [e] at h; exact ⟨a, s, rfl, h⟩
  | ex c fs s => rw [e] at h; cases h
  | bad => rw [e] at h; cases h
/-- one turn -/
theorem turns_step {g : Pt} {env : Env} {c : Env → M Bool} {e : Env → M D} {x : D} {r acc : List D} {st st' : Sto} {ys : List D} (h : turns g env c e (x :: r) acc st = .ok ys st') :
    ∃ en b s1, bindP st g x env = some en ∧ c en st = .ok b s1 ∧ (b = true → ∃ y s2, e en s1 = .ok y s2 ∧ turns g env c e r (acc ++ [y]) s2 = .ok ys st') ∧ (b = false → turns g env c e r acc s1 = .ok ys st') := by
  unfold turns at h
  cases z : bindP st g x env with
  | none => rw [z] at h; cases h
  | some en =>
    rw [z] at h
    obtain ⟨b, s1, h1, h2⟩ := bind_ok (f := c en) h
    refine ⟨en, b, s1, rfl, h1, fun eb => ?_, fun eb => ?_⟩
    · subst eb
      obtain ⟨y, s2, h3, h4⟩ := bind_ok (f := e en) h2
      exact ⟨y, s2, h3, h4⟩
    · subst eb; exact h2
theorem lc_read {mu : Bool} {pt : Pt} {f : Env → M (List D)} {c : Env → M Bool} {e : Env → M D} {vs : List Nat} (hsl : ∀ i ∈ pt.slots, i ∈ vs) {Q : VK}
    (h : rdE K ca W (fun env => (f env).bind fun xs => (nox (turns pt (wipeE env vs) c e xs [])).bind fun ys => mkL mu ys) σ H Q) :
    tLc (rdI K ca W f) (rdP K ca pt) (rdT K ca W0 c) (rdE K ca W0 e) vs σ H Q := by
  obtain ⟨m, st, env, r, re, p⟩ := h
  refine ⟨m, st, env, r, re, ?_⟩
  have p : Post K ca W σ m H ((f env st).bind fun xs => (nox (turns pt (wipeE env vs) c e xs [])).bind fun ys => mkL mu ys) Q := p
  cases hf : f env st with
  | bad => rw [hf] at p; exact p.elim
  | ex cc fs st1 => rw [hf] at p; exact p
  | ok xs st1 =>
    rw [hf] at p
    intro m1 H1 J r1 iw ex D hD
    have p1 : Post K ca W σ m1 H1 (((nox (turns pt (wipeE env vs) c e xs [])).bind fun ys => mkL mu ys) st1) Q := Post.at (show Post K ca W σ m H _ Q from p) ex
    obtain ⟨ys, st9, ht, p9⟩ := nox_post p1
    have re1 := re.ext ex
    refine ⟨fun i k H2 => k = xs.length - i ∧ i ≤ xs.length ∧ ∃ m2 st2 acc vacc, RS K ca m2 H2 st2 ∧ LX m1 H1 D m2 H2 ∧ H2 D = some (.lst vacc) ∧ RDs K ca m2 H2 acc vacc ∧ acc.length ≤ i ∧ turns pt (wipeE env vs) c e (xs.drop i) acc st2 = .ok ys st9,
      ⟨xs.length, by simp, Nat.zero_le _, m1.hide D, st1, [], [], r1.hide hD (.inl ⟨_, rfl⟩), LX.start hD, upd_same, .nil, Nat.le_refl _, ht⟩, ?_⟩
    rintro i k H2 ⟨rfl, hi, m2, st2, acc, vacc, r2, lx, hd2, ra, la, tu⟩
    by_cases hlt : i < xs.length
    · refine .inr ⟨iw.go i m2 H2 hlt lx.x, fun H' => ∃ m2 st2 acc vacc, RS K ca m2 H' st2 ∧ LX m1 H1 D m2 H' ∧ H' D = some (.lst vacc) ∧ RDs K ca m2 H' acc vacc ∧ acc.length ≤ i + 1 ∧ turns pt (wipeE env vs) c e (xs.drop (i + 1)) acc st2 = .ok ys st9,
        fun H' q => ⟨xs.length - (i + 1), by omega, rfl, hlt, q⟩, fun x H' yl => ?_⟩
      obtain ⟨r3, e3, d, hd, rd⟩ := iw.yld i m2 H2 x H' st2 hlt lx.x r2 yl
      have hdr : xs.drop i = d :: xs.drop (i + 1) := by
        obtain ⟨hl, he⟩ := List.getElem?_eq_some_iff.mp hd
        rw [List.drop_eq_getElem_cons hl, he]
      rw [hdr] at tu
      obtain ⟨en, b, s1, hb, hc, ht1, ht0⟩ := turns_step tu
      have lx3 := lx.step e3
      have rw3 : RE K ca m2 H' (wipeE env vs) (wipe σ vs) := (re1.wipe vs).extW lx3.x
      have hDh : D ∈ m2.h := by rw [lx.hh]; exact List.mem_cons_self ..
      refine ⟨m2, st2, _, d, r3, rw3, rd, en, hb, fun σ2 re2 sm => ⟨wipe_same sm hsl, m2, st2, en, r3, re2, ?_⟩⟩
      rw [hc]
      intro m4 H4 r4 e4
      have hd4 : H4 D = some (.lst vacc) := e4.hid D _ hDh (e3.hid D _ hDh hd2)
      have lx4 := lx3.step e4
      have ra4 := (ra.ext e3).ext e4
      cases b with
      | false =>
        dsimp only
        rw [if_neg Bool.false_ne_true]
        exact ⟨m4, s1, acc, vacc, r4, lx4, hd4, ra4, by omega, ht0 rfl⟩
      | true =>
        dsimp only
        rw [if_pos rfl]
        obtain ⟨y, s2, hy, ht2⟩ := ht1 rfl
        refine ⟨m4, s1, en, r4, re2.ext e4, ?_⟩
        rw [hy]
        intro m5 H5 v r5 rv e5
        have hDh4 : D ∈ m4.h := by rw [lx4.hh]; exact List.mem_cons_self ..
        have hd5 : H5 D = some (.lst vacc) := e5.hid D _ hDh4 hd4
        have lx5 := lx4.step e5
        have hDh5 : D ∈ m5.h := by rw [lx5.hh]; exact List.mem_cons_self ..
        have ra5 := ra4.ext e5
        have ow : ExtW m5 H5 m5 (upd H5 D (.lst (vacc ++ [v]))) := ExtW.own hDh5 hd5 fun _ _ z => by cases z
        refine ⟨vacc, hd5, ?_, m5, s2, acc ++ [y], vacc ++ [v], r5.own hDh5 hd5 (fun _ _ z => by cases z) (.inl ⟨_, rfl⟩), lx5.own hD hd5 (fun _ _ z => by cases z), upd_same, (RDs.app ra5 (.cons rv .nil)).extW ow, by rw [List.length_append, List.length_singleton]; omega, ht2⟩
        have := iw.len
        rw [← ra.len]; omega
    · have hn : i = xs.length := by omega
      subst hn
      refine .inl ⟨iw.stop m2 H2 lx.x, ?_⟩
      rw [List.drop_length] at tu
      cases tu
      exact mkL_fin r1 hD r2 lx hd2 ra (by have := iw.len; omega) p9
end
end PV
end
section
set_option Elab.async false
set_option linter.all false
set_option maxRecDepth 100000
set_option maxHeartbeats 2000000
/-! FB32: targets. -/
namespace PV
open PySem PySem.Spec PyProof.Rows L2
section
variable {K : PySem.W.Frag} {ca : Nat → Addr} {m : Mp} {H : Hp}
theorem RDt.any {k : List T} {q : List Key} (hk : tKeys k = some q) : ∀ {kvs : List (T × D)} {ps : List (List Key × V)}, RDt K ca m H kvs ps → (kvs.any fun p => T.keq p.1 (.tup k)) = ps.any fun kv => decide (kv.1 = q)
  | _, _, .nil => rfl
  | _, _, .cons e _ r => by
    rw [List.any_cons, List.any_cons, RDt.any hk r]
    show (T.keqs _ k || _) = _
    rw [keqs_key e hk]
theorem RDt.repl {k : List T} {q : List Key} {d : D} {v : V} (hk : tKeys k = some q) (h : RD K ca m H d v) : ∀ {kvs : List (T × D)} {ps : List (List Key × V)}, RDt K ca m H kvs ps →
    RDt K ca m H (kvs.map fun p => match T.keq p.1 (.tup k) with
      | true => (p.1, d)
      | false => p) (ps.map fun kv => if kv.1 = q then (kv.1, v) else kv)
  | _, _, .nil => .nil
  | _, _, .cons (q := jq) e h1 r => by
    rw [List.map_cons, List.map_cons]
    dsimp only
    rw [show T.keq (.tup _) (.tup k) = decide (jq = q) from keqs_key e hk]
    by_cases z : jq = q
    · rw [if_pos z, decide_eq_true z]; exact .cons e h (RDt.repl hk h r)
    · rw [if_neg z, decide_eq_false z]; exact .cons e h1 (RDt.repl hk h r)
theorem RDt.snoc {k : List T} {q : List Key} {d : D} {v : V} (hk : tKeys k = some q) (h : RD K ca m H d v) : ∀ {kvs : List (T × D)} {ps : List (List Key × V)}, RDt K ca m H kvs ps → RDt K ca m H (kvs ++ [(.tup k, d)]) (ps ++ [(q, v)])
  | _, _, .nil => .cons hk h .nil
  | _, _, .cons e h1 r => .cons e h1 (RDt.snoc hk h r)
theorem RDt.put {k : List T} {q : List Key} {d : D} {v : V} {kvs : List (T × D)} {ps : List (List Key × V)} (hk : tKeys k = some q) (h : RD K ca m H d v) (r : RDt K ca m H kvs ps) : RDt K ca m H (kset (.tup k) d kvs) (putK ps q v) := by
  unfold kset putK
  rw [RDt.any hk r]
  cases z : ps.any fun kv => decide (kv.1 = q) with
  | true => rw [if_pos rfl]; exact RDt.repl hk h r
  | false => rw [if_neg (by simp)]; exact RDt.snoc hk h r
theorem RDs.setAt {d : D} {v : V} (h : RD K ca m H d v) : ∀ {ds : List D} {vs : List V} (j : Nat), RDs K ca m H ds vs → RDs K ca m H (ds.set j d) (vs.set j v)
  | _, _, _, .nil => .nil
  | _, _, 0, .cons _ r => .cons h r
  | _, _, j + 1, .cons a r => .cons a (RDs.setAt h j r)
theorem RDf.set {f : Str} {d : D} {v : V} (h : RD K ca m H d v) : ∀ {fs : List (Str × D)} {gs : List (Str × V)}, RDf K ca m H fs gs → RDf K ca m H (fset f d fs) (putF f v gs)
  | _, _, .nil => .cons h .nil
  | _, _, .cons (f := g) a r => by
    unfold fset putF
    by_cases z : g = f
    · rw [if_pos z, if_pos z]; exact .cons h r
    · rw [if_neg z, if_neg z]; exact .cons a (RDf.set h r)
theorem RDf.lenE : ∀ {fs : List (Str × D)} {gs : List (Str × V)}, RDf K ca m H fs gs → fs.length = gs.length
  | _, _, .nil => rfl
  | _, _, .cons _ r => by simp [RDf.lenE r]
end
section
variable {X : Cx} {ca : Nat → Addr} {W : WX}
/-- a cell is written -/
theorem cell_end {m : Mp} {H : Hp} {st : Sto} {n : Nat} {a : Addr} {c : Cell} {u : HO} {Q : Hp → Prop} (r : RS X.K ca m H st) (h : m.l[n]? = some (some a)) (hf : ∀ o w, H a ≠ some (.frz o w)) (hc : RC X.K ca m (upd H a u) c a)
    (k : ∀ m' H', RS X.K ca m' H' (st.set n (some c)) → Ext m H m' H' → Q H') : Q (upd H a u) := k m _ (r.set h hf hc) (Ext.set h (r.apart n a h) hf)
/-- o[i] = v, by values -/
def rPut (K : PySem.W.Frag) (ca : Nat → Addr) : TSet := fun o i v H Q => ∃ m st x y d, RS K ca m H st ∧ RD K ca m H x o ∧ RD K ca m H y i ∧ RD K ca m H d v ∧ ∃ st', putIx x y d st = .ok () st' ∧ ∀ m' H', RS K ca m' H' st' → Ext m H m' H' → Q H'
theorem putIx_q {x y d : D} {st : Sto} {c fs s} : putIx x y d st ≠ .ex c fs s := fun h => by
  unfold putIx at h
  (repeat (first | cases h | (split at h)))
theorem set_ix (hu : X.A.units + 1 < cLine) : PSet X (rPut X.K ca) := by
  intro pins s σ H o i v ov iv u Q I ro ri rv ⟨m, st, x, y, d, r, rx, ry, rd, st', e, k⟩
  unfold putIx at e
  split at e
  · rename_i n
    split at e
    · rename_i xs q
      cases rx with
      | dead z =>
        have q2 := r.dead n z
        rw [cellAt_some] at q
        rw [q] at q2; cases q2
      | @ref _ a z =>
        obtain ⟨c, h1, h2⟩ := r.cells n _ z
        rw [h1] at q; cases q
        cases h2 with
        | @lst _ _ vs h3 h4 h5 =>
          have hf : ∀ o w, H a ≠ some (.frz o w) := fun o w z => by rw [h3] at z; cases z
          have ex : ∀ u, Ext m H m (upd H a u) := fun u => Ext.set z (r.apart n a z) hf
          cases q1 : asI y with
          | none => rw [q1] at e; cases e
          | some j =>
            rw [q1] at e
            have ey : i = .int j := by
              unfold asI at q1
              split at q1 <;> cases q1
              cases ry; rename_i ry; cases ry; rfl
            subst ey
            cases q2 : place xs.length j with
            | none => rw [show (some j).bind (place xs.length) = place xs.length j from rfl, q2] at e; cases e
            | some p =>
              rw [show (some j).bind (place xs.length) = place xs.length j from rfl, q2] at e
              cases e
              refine set_list pins s σ H _ _ _ ov iv u _ I ro ri rv ⟨a, vs, j, p, rfl, rfl, h3, by rw [← h5.len]; exact q2, ?_⟩
              exact cell_end r z hf (.lst upd_same (by rw [List.length_set]; exact h4) ((RDs.setAt rd p h5).ext (ex _))) k
    · rename_i tk kvs q
      split at e
      · rename_i kt
        split at e
        · rename_i qs eq el
          cases e
          have el := of_decide_eq_true el
          obtain ⟨hk, rfl⟩ := kput_some eq
          cases rx with
          | dead z =>
            have q2 := r.dead n z
            rw [cellAt_some] at q
            rw [q] at q2; cases q2
          | @ref _ a z =>
            obtain ⟨c, h1, h2⟩ := r.cells n _ z
            rw [h1] at q; cases q
            cases ro
            cases ry; rename_i ry
            have lk : (kset kt d kvs).length ≤ sizeLine := by
              have := kset_len (k := kt) (d := d) (kvs := kvs)
              rw [sizeLine_eq]; unfold LIM at el; omega
            cases h2 with
            | @dctK _ _ ps h3 h4 h5 =>
              have hf : ∀ o w, H a ≠ some (.frz o w) := fun o w z => by rw [h3] at z; cases z
              have ex : ∀ u, Ext m H m (upd H a u) := fun u => Ext.set z (r.apart n a z) hf
              obtain ⟨kq, hkq⟩ := RT.has ry (by simpa only [kfit] using hk)
              have ei := RT.key ry hkq
              subst ei
              refine d_setItem hu I (DPut.k (v := v) h3 (by rw [← h5.len, sizeLine_eq]; unfold LIM at el; omega)) ri rv fun s' I' => ⟨_, I', ?_⟩
              exact cell_end r z hf (.dctK upd_same lk ((RDk.put hkq rd h5).ext (ex _))) k
            | @dctT _ _ ps h3 h4 h5 =>
              have hf : ∀ o w, H a ≠ some (.frz o w) := fun o w z => by rw [h3] at z; cases z
              have ex : ∀ u, Ext m H m (upd H a u) := fun u => Ext.set z (r.apart n a z) hf
              cases kt with
              | tup ks =>
                simp only [kfit] at hk
                cases ry with
                | tup g1 g2 g3 g4 =>
                  obtain ⟨kq, hkq⟩ := RTs.has g4 hk
                  have ei := g4.keys hkq
                  subst ei
                  refine d_setItem hu I (DPut.t (v := v) h3 g1 (by rw [← h5.len, sizeLine_eq]; unfold LIM at el; omega)) ri rv fun s' I' => ⟨_, I', ?_⟩
                  exact cell_end r z hf (.dctT upd_same lk ((RDt.put hkq rd h5).ext (ex _))) k
              | _ => simp [kfit] at hk
        · cases e
      · cases e
    · cases e
  · cases e
end
end PV
end
section
set_option Elab.async false
set_option linter.all false
set_option maxRecDepth 100000
set_option maxHeartbeats 2000000
/-! FB33: targets, as readings. -/
namespace PV
open PySem PySem.Spec PyProof.Rows L2
section
variable (K : PySem.W.Frag) (ca : Nat → Addr) (W : WX)
def PostN (σ : L2.St) (m : Mp) (H : Hp) (r : Res Env) (N : L2.St → Hp → Prop) : Prop := match r with
  | .ok env st => ∀ m' H' σ', RS K ca m' H' st → RE K ca m' H' env σ' → Ext m H m' H' → N σ' H'
  | .ex c fs st => ∀ m' H' dd, RS K ca m' H' st → RX K ca m' H' fs dd → Ext m H m' H' → W (.ref (ca c)) dd σ H'
  | .bad => False
def rdG (g : Env → D → M Env) : TG := fun x σ H N => ∃ m st env d, RS K ca m H st ∧ RE K ca m H env σ ∧ RD K ca m H d x ∧ PostN K ca W σ m H (g env d st) N
def rdGs (g : Env → List D → M Env) : TGs := fun xs σ H N => ∃ m st env ds, RS K ca m H st ∧ RE K ca m H env σ ∧ RDs K ca m H ds xs ∧ PostN K ca W0 σ m H (g env ds st) N
end
section
variable {K : PySem.W.Frag} {ca : Nat → Addr} {W : WX} {σ : L2.St} {m m1 : Mp} {H H1 : Hp} {N : L2.St → Hp → Prop}
theorem PostN.at {r : Res Env} (p : PostN K ca W σ m H r N) (e : Ext m H m1 H1) : PostN K ca W σ m1 H1 r N := by
  cases r with
  | ok d st => exact fun m' H' σ' a b c => p m' H' σ' a b (e.trans c)
  | ex c fs st => exact fun m' H' v a b c => p m' H' v a b (e.trans c)
  | bad => exact p
theorem PostN.bind {f : M D} {g : D → M Env} {st : Sto} (p : PostN K ca W σ m H ((f.bind g) st) N) :
    Post K ca W σ m H (f st) fun v H1 => ∃ m1 st1 d, RS K ca m1 H1 st1 ∧ RD K ca m1 H1 d v ∧ Ext m H m1 H1 ∧ PostN K ca W σ m1 H1 (g d st1) N := by
  have p : PostN K ca W σ m H ((f st).bind g) N := p
  cases h : f st with
  | ok d st1 =>
    rw [h] at p
    exact fun m' H' v a b c => ⟨m', st1, d, a, b, c, PostN.at p c⟩
  | ex c fs st1 => rw [h] at p; exact p
  | bad => rw [h] at p; exact p
end
section
variable {X : Cx} {ca : Nat → Addr} {W : WX}
theorem pg_pt {e : Expr} {p : Pt} (h : PG X e (rdP X.K ca p)) : PG X e (rdG X.K ca W fun env d s => M.opt (bindP s p d env) s) := by
  refine h.imp fun x σ H N ⟨m, st, env, d, r, re, rd, q⟩ => ?_
  refine ⟨m, st, env, d, r, re, rd, ?_⟩
  have q : PostN X.K ca W σ m H (M.opt (bindP st p d env) st) N := q
  cases z : bindP st p d env with
  | none => rw [z] at q; exact q.elim
  | some env' =>
    rw [z] at q
    exact ⟨env', rfl, fun σ' h1 _ => q m H σ' r h1 (Ext.refl _ _)⟩
def notSl : Expr → Bool
  | .Slice _ _ _ _ => false
  | _ => true
theorem pg_six {o i : Expr} {pos : Pos} {fo fi : Env → M D} (hu : X.A.units + 1 < cLine) (ho : PE X o (rdE X.K ca W fo)) (hi : PE X i (rdE X.K ca W fi)) (hn : notSl i = true) :
    PG X (.Subscript o i pos) (rdG X.K ca W fun env d => (fo env).bind fun x => (fi env).bind fun y => (putIx x y d).bind fun _ => .ret env) := by
  refine (pg_sub ho hi (set_ix (ca := ca) hu) ?_).imp fun x σ H N ⟨m, st, env, d, r, re, rd, p⟩ => ?_
  · intro v
    cases i <;> first | rfl | (simp [notSl] at hn)
  · refine ⟨m, st, env, r, re, (PostN.bind p).mono fun v H1 ⟨m1, st1, x1, r1, d1, e1, p1⟩ => ?_⟩
    refine ⟨m1, st1, env, r1, re.ext e1, (PostN.bind p1).mono fun w H2 ⟨m2, st2, y1, r2, d2, e2, p2⟩ => ?_⟩
    have p2 : PostN X.K ca W σ m2 H2 ((putIx x1 y1 d st2).bind fun _ => .ret env) N := p2
    cases z : putIx x1 y1 d st2 with
    | bad => rw [z] at p2; exact p2.elim
    | ex c fs s => exact (putIx_q z).elim
    | ok u s =>
      rw [z] at p2
      refine ⟨m2, st2, x1, y1, d, r2, d1.ext e2, d2, (rd.ext e1).ext e2, s, by cases u; exact z, fun m' H' a b => ?_⟩
      exact p2 m' H' σ a (((re.ext e1).ext e2).ext b) b
theorem pg_at {o : Expr} {f : Str} {pos : Pos} {to : TE} {t : V → V → Hp → (Hp → Prop) → Prop} (ho : PE X o to)
    (hs : ∀ (pins : List (Addr × Obj)) (s : Shared) (σ : L2.St) (H : Hp) (o v : V) (ov u : Value) (Q : Hp → Prop), Inv X pins σ H s → RelV o ov → RelV v u → t o v H Q → wpAny (model X.prog X.w) X.A (setAttr ov f u) (fun _ s' => ∃ H', Inv X pins σ H' s' ∧ Q H') X.xe s) :
    PG X (.Attribute o f pos) (fun v σ H Q => to σ H fun o H1 => t o v H1 fun H2 => Q σ H2) := by
  refine ⟨fun pins s σ H v u Q I r h => ?_⟩
  rw [assign_Attribute]
  refine wpAny_bind (wpAny_holding (thn (ho.run pins s σ H _ I h) fun ov s1 ⟨x, H1, I1, r1, q1⟩ => ?_))
  refine wpAny_bind (wpAny_standAt (wpAny_bind (wpAny_holding (thn (hs pins s1 σ H1 x v ov u _ I1 r1 r q1) fun _ s2 ⟨H2, I2, q2⟩ => ?_))))
  exact wpAny_release ⟨σ, H2, I2, q2⟩
theorem putFld_q {own : List Nat} {x d : D} {f : Str} {st : Sto} {c fs s} : putFld own x f d st ≠ .ex c fs s := fun h => by
  unfold putFld at h
  (repeat (first | cases h | (split at h)))
theorem pg_fd {o : Expr} {f : Str} {pos : Pos} {fo : Env → M D} {own : List Nat} (ho : PE X o (rdE X.K ca W fo)) (hc : ∀ c ∈ own, Cls X.K (ca c) ∧ NoAttr X.K (ca c) f) :
    PG X (.Attribute o f pos) (rdG X.K ca W fun env d => (fo env).bind fun x => (putFld own x f d).bind fun _ => .ret env) := by
  refine (pg_at (t := fun o v H Q => ∃ m st x d, RS X.K ca m H st ∧ RD X.K ca m H x o ∧ RD X.K ca m H d v ∧ ∃ st', putFld own x f d st = .ok () st' ∧ ∀ m' H', RS X.K ca m' H' st' → Ext m H m' H' → Q H') ho ?_).imp fun x σ H N ⟨m, st, env, d, r, re, rd, p⟩ => ?_
  · intro pins s σ H o v ov u Q I ro rv ⟨m, st, x, d, r, rx, rd, st', e, k⟩
    unfold putFld at e
    split at e
    · rename_i n
      split at e
      · rename_i c fs q
        split at e
        · rename_i g
          cases e
          rw [Bool.and_eq_true, decide_eq_true_eq] at g
          cases rx with
          | dead z =>
            have q2 := r.dead n z
            rw [cellAt_some] at q
            rw [q] at q2; cases q2
          | @ref _ a z =>
            obtain ⟨c', h1, h2⟩ := r.cells n _ z
            rw [h1] at q; cases q
            cases ro
            cases h2 with
            | @ins _ _ _ dx gs h3 h4 =>
              have hf : ∀ o w, H a ≠ some (.frz o w) := fun o w z => by rw [h3] at z; cases z
              have ex : ∀ u, Ext m H m (upd H a u) := fun u => Ext.set z (r.apart n a z) hf
              obtain ⟨cl, na⟩ := hc c (by simpa using g.2)
              refine setattr_ok I h3 cl na (by rw [← h4.lenE]; omega) rv fun s' I' => ⟨_, I', ?_⟩
              exact cell_end r z hf (.ins upd_same ((RDf.set rd h4).ext (ex _))) k
        · cases e
      · cases e
    · cases e
  · refine ⟨m, st, env, r, re, (PostN.bind p).mono fun v H1 ⟨m1, st1, x1, r1, d1, e1, p1⟩ => ?_⟩
    have p1 : PostN X.K ca W σ m1 H1 ((putFld own x1 f d st1).bind fun _ => .ret env) N := p1
    cases z : putFld own x1 f d st1 with
    | bad => rw [z] at p1; exact p1.elim
    | ex c fs s => exact (putFld_q z).elim
    | ok u s =>
      rw [z] at p1
      refine ⟨m1, st1, x1, d, r1, d1, rd.ext e1, s, by cases u; exact z, fun m' H' a b => ?_⟩
      exact p1 m' H' σ a ((re.ext e1).ext b) b
theorem pgs_rn : PGs X [] (rdGs X.K ca fun env ds => match ds with
    | [] => .ret env
    | _ => M.bad) := by
  refine pgs_nil.imp fun xs σ H Q ⟨m, st, env, ds, r, re, rd, p⟩ => ?_
  cases rd with
  | nil => exact ⟨rfl, p m H σ r re (Ext.refl _ _)⟩
  | cons a b => exact p.elim
theorem pgs_rc {e : Expr} {es : List Expr} {g : Env → D → M Env} {gs : Env → List D → M Env} (h1 : PG X e (rdG X.K ca W0 g)) (h2 : PGs X es (rdGs X.K ca gs)) (hs : notStarT e = true) :
    PGs X (e :: es) (rdGs X.K ca fun env ds => match ds with
      | d :: ds => (g env d).bind fun en => gs en ds
      | [] => M.bad) := by
  refine (pgs_cons h1 h2 (by rw [each_no hs]; rfl)).imp fun xs σ H Q ⟨m, st, env, ds, r, re, rd, p⟩ => ?_
  cases rd with
  | nil => exact p.elim
  | @cons d v ds vs a b =>
    have p : PostN X.K ca W0 σ m H ((g env d st).bind fun en => gs en ds) Q := p
    refine ⟨_, _, rfl, m, st, env, d, r, re, a, ?_⟩
    cases z : g env d st with
    | bad => rw [z] at p; exact p.elim
    | ex c fs s => rw [z] at p; exact p
    | ok en s1 =>
      rw [z] at p
      intro m1 H1 σ1 r1 re1 e1
      refine ⟨m1, s1, en, ds, r1, re1, b.ext e1, ?_⟩
      have p : PostN X.K ca W0 σ m H (gs en ds s1) Q := p
      cases z2 : gs en ds s1 with
      | bad => rw [z2] at p; exact p.elim
      | ex c fs s => rw [z2] at p; exact fun m' H' dd a b c => p m' H' dd a b (e1.trans c)
      | ok en2 s2 => rw [z2] at p; exact fun m' H' σ' a b c => p m' H' σ' a b (e1.trans c)
theorem rdG_weak {g : Env → D → M Env} {e : Expr} (h : PG X e (rdG X.K ca W g)) : PG X e (rdG X.K ca W0 g) := h.imp fun x σ H N ⟨m, st, env, d, r, re, rd, p⟩ => ⟨m, st, env, d, r, re, rd, by
  cases z : g env d st with
  | bad => rw [z] at p; exact p.elim
  | ex c fs s => rw [z] at p; exact fun m' H' dd a b c => (p m' H' dd a b c).elim
  | ok u s => rw [z] at p; exact p⟩
theorem mkT_as (ds : List D) : asTup (mkT ds) = some ds := by
  unfold mkT
  cases e : allD ds with
  | none => rfl
  | some ts =>
    have : ∀ {ds : List D} {ts : List T}, allD ds = some ts → ds = ts.map .v := by
      intro ds
      induction ds with
      | nil => intro ts h; cases h; rfl
      | cons d r ih =>
        intro ts h
        cases d with
        | v t =>
          unfold allD at h
          cases q : allD r with
          | none => rw [q] at h; cases h
          | some us => rw [q] at h; cases h; rw [ih q]; rfl
        | _ => cases h
    show some (ts.map .v) = some ds
    rw [this e]
theorem pg_tpl {es : List Expr} {k : Nat} {pos : Pos} {gs : Env → List D → M Env} (hc : X.calm = true) (h : PGs X es (rdGs X.K ca gs)) (hs : es.all notStarT = true) (hl : ∀ env ds st env' st', gs env ds st = .ok env' st' → ds.length = es.length) :
    PG X (.Tuple es k pos) (rdG X.K ca W fun env d s => match asTup d with
      | some ds => nox (gs env ds) s
      | none => .bad) := by
  obtain ⟨l1, l2⟩ := each_len (env := X.env) hs
  refine (pg_tup hc h l1 l2).imp fun x σ H N ⟨m, st, env, d, r, re, rd, p⟩ => ?_
  cases z : asTup d with
  | none =>
    have p : PostN X.K ca W σ m H (match asTup d with
      | some ds => nox (gs env ds) st
      | none => .bad) N := p
    rw [z] at p; exact p.elim
  | some ds =>
    have p : PostN X.K ca W σ m H (match asTup d with
      | some ds => nox (gs env ds) st
      | none => .bad) N := p
    rw [z] at p
    obtain ⟨a, vs, rfl, h1, h2, h3⟩ := RD.tupI z rd
    have p : PostN X.K ca W σ m H (nox (gs env ds) st) N := p
    cases q : gs env ds st with
    | bad => rw [show nox (gs env ds) st = .bad by unfold nox; rw [q]] at p; exact p.elim
    | ex c fs s => rw [show nox (gs env ds) st = .bad by unfold nox; rw [q]] at p; exact p.elim
    | ok en s =>
      rw [show nox (gs env ds) st = .ok en s by unfold nox; rw [q]] at p
      refine ⟨a, vs, rfl, SqT.of h1, by rw [← h3.len, hl _ _ _ _ _ q], m, st, env, ds, r, re, h3, ?_⟩
      rw [q]; exact p
end
end PV
end
section
set_option Elab.async false
set_option linter.all false
set_option maxRecDepth 100000
set_option maxHeartbeats 2000000
/-! FB34: statements. -/
namespace PV
open PySem PySem.Spec PyProof.Rows L2
section
variable (K : PySem.W.Frag) (ca : Nat → Addr) (W : WX)
def PostS (m : Mp) (H : Hp) (r : SRes) (D : Ends) : Prop := match r with
  | .ok .nx env st => ∀ m' H' σ', RS K ca m' H' st → RE K ca m' H' env σ' → Ext m H m' H' → D.nx σ' H'
  | .ok .br env st => ∀ m' H' σ', RS K ca m' H' st → RE K ca m' H' env σ' → Ext m H m' H' → D.bk σ' H'
  | .ok .co env st => ∀ m' H' σ', RS K ca m' H' st → RE K ca m' H' env σ' → Ext m H m' H' → D.ct σ' H'
  | .ok (.rt d) env st => ∀ m' H' v, RS K ca m' H' st → RD K ca m' H' d v → Ext m H m' H' → D.rt v H'
  | .ex c fs env st => ∀ m' H' σ' dd, RS K ca m' H' st → RE K ca m' H' env σ' → RX K ca m' H' fs dd → Ext m H m' H' → W (.ref (ca c)) dd σ' H'
  | .bad => False
def rdS (f : Env → Sto → SRes) : TS := fun D σ H => ∃ m st env, RS K ca m H st ∧ RE K ca m H env σ ∧ PostS K ca W m H (f env st) D
end
section
variable {K : PySem.W.Frag} {ca : Nat → Addr} {W : WX} {σ : L2.St} {m m1 : Mp} {H H1 : Hp} {D D' : Ends}
theorem PostS.at {r : SRes} (p : PostS K ca W m H r D) (e : Ext m H m1 H1) : PostS K ca W m1 H1 r D := by
  cases r with
  | ok f env st => cases f <;> exact fun m' H' σ' a b c => p m' H' σ' a b (e.trans c)
  | ex c fs env st => exact fun m' H' σ' dd a b c d => p m' H' σ' dd a b c (e.trans d)
  | bad => exact p
theorem PostS.withE {f : M PV.D} {env : Env} {g : PV.D → Sto → SRes} {st : Sto} (re : RE K ca m H env σ) (p : PostS K ca W m H (PV.withE env (f st) g) D) :
    Post K ca W σ m H (f st) fun v H1 => ∃ m1 st1 d, RS K ca m1 H1 st1 ∧ RD K ca m1 H1 d v ∧ Ext m H m1 H1 ∧ PostS K ca W m1 H1 (g d st1) D := by
  unfold PV.withE at p
  cases h : f st with
  | ok d st1 =>
    rw [h] at p
    exact fun m' H' v a b c => ⟨m', st1, d, a, b, c, PostS.at p c⟩
  | ex c fs st1 =>
    rw [h] at p
    exact fun m' H' dd a b e => p m' H' σ dd a (re.ext e) b e
  | bad => rw [h] at p; exact p
theorem PostS.withN {f : M Env} {env : Env} {g : Env → Sto → SRes} {st : Sto} (re : RE K ca m H env σ) (p : PostS K ca W m H (PV.withE env (f st) g) D) :
    PostN K ca W σ m H (f st) fun σ1 H1 => ∃ m1 st1 en, RS K ca m1 H1 st1 ∧ RE K ca m1 H1 en σ1 ∧ Ext m H m1 H1 ∧ PostS K ca W m1 H1 (g en st1) D := by
  unfold PV.withE at p
  cases h : f st with
  | ok d st1 =>
    rw [h] at p
    exact fun m' H' v a b c => ⟨m', st1, d, a, b, c, PostS.at p c⟩
  | ex c fs st1 =>
    rw [h] at p
    exact fun m' H' dd a b e => p m' H' σ dd a (re.ext e) b e
  | bad => rw [h] at p; exact p
theorem PostS.withG {α : Type} {f : M α} {env : Env} {g : α → Sto → SRes} {st : Sto} (re : RE K ca m H env σ) (p : PostS K ca W m H (PV.withE env (f st) g) D) :
    PostG K ca W σ m H (f st) fun a m1 H1 st1 => RS K ca m1 H1 st1 ∧ Ext m H m1 H1 ∧ PostS K ca W m1 H1 (g a st1) D := by
  unfold PV.withE at p
  cases h : f st with
  | ok d st1 =>
    rw [h] at p
    exact fun m' H' a c => ⟨a, c, PostS.at p c⟩
  | ex c fs st1 =>
    rw [h] at p
    exact fun m' H' dd a b e => p m' H' σ dd a (re.ext e) b e
  | bad => rw [h] at p; exact p
theorem PostN.mono {r : Res Env} {N N' : L2.St → Hp → Prop} (p : PostN K ca W σ m H r N) (i : ∀ v H', N v H' → N' v H') : PostN K ca W σ m H r N' := by
  cases r with
  | ok d st => exact fun m' H' v a b c => i v H' (p m' H' v a b c)
  | ex c fs st => exact p
  | bad => exact p
end
section
variable {X : Cx} {ca : Nat → Addr} {W : WX}
def notComp : Expr → Bool
  | .ListComp _ _ _ _ => false
  | .SetComp _ _ _ _ => false
  | .DictComp _ _ _ _ _ => false
  | _ => true
theorem sw_no {e : Expr} {t : Option Expr} {l : Nat} {env : PySem.Env} (h : notComp e = true) : swapsWith e t l env = pure false := by
  cases e <;> first | rfl | (simp [notComp] at h)
def notTup : Expr → Bool
  | .Tuple _ _ _ => false
  | _ => true
theorem ss_no {t e : Expr} {env : PySem.Env} (h : notTup t = true ∨ notTup e = true) (hl : ∀ es p, t ≠ .List es p) : swappedStores [t] e env = pure none := by
  cases t <;> first | rfl | (exact absurd rfl (hl _ _)) | (rcases h with h | h <;> first | (simp [notTup] at h; done) | (cases e <;> first | rfl | (simp [notTup] at h)))
/-- target = e -/
theorem ps_as {tg e : Expr} {pos : Pos} {fe : Env → M D} {g : Env → D → M Env} (he : PE X e (rdE X.K ca W fe)) (hg : PG X tg (rdG X.K ca W g)) (hs : notComp e = true) (hw : swappedStores [tg] e X.env = pure none) (hn : notStarT tg = true) :
    PS X (.Assign [tg] e pos) (rdS X.K ca W fun env s => withE env (fe env s) fun d s => withE env (g env d s) fun en s => .ok .nx en s) := by
  refine (ps_asg he hg (show swapsWith e (some tg) pos.line X.env = pure false from sw_no hs) hw (by rw [each_no hn]; rfl)).imp fun D σ H ⟨m, st, env, r, re, p⟩ => ?_
  refine ⟨m, st, env, r, re, (PostS.withE re p).mono fun v H1 ⟨m1, st1, d, r1, d1, e1, p1⟩ => ?_⟩
  refine ⟨m1, st1, env, d, r1, re.ext e1, d1, (PostS.withN (re.ext e1) p1).mono fun σ2 H2 ⟨m2, st2, en, r2, re2, e2, p2⟩ => ?_⟩
  exact p2 m2 H2 σ2 r2 re2 (Ext.refl _ _)
theorem ps_ex {e : Expr} {pos : Pos} {fe : Env → M D} (he : PE X e (rdE X.K ca W fe)) (hs : notComp e = true) : PS X (.Expr e pos) (rdS X.K ca W fun env s => withE env (fe env s) fun _ s => .ok .nx env s) := by
  refine (ps_expr he (sw_no hs)).imp fun D σ H ⟨m, st, env, r, re, p⟩ => ?_
  refine ⟨m, st, env, r, re, (PostS.withE re p).mono fun v H1 ⟨m1, st1, d, r1, d1, e1, p1⟩ => ?_⟩
  exact p1 m1 H1 σ r1 (re.ext e1) (Ext.refl _ _)
theorem ps_rt {e : Expr} {pos : Pos} {fe : Env → M D} (he : PE X e (rdE X.K ca W fe)) : PS X (.Return (some e) pos) (rdS X.K ca W fun env s => withE env (fe env s) fun d s => .ok (.rt d) env s) := by
  refine (ps_ret he).imp fun D σ H ⟨m, st, env, r, re, p⟩ => ?_
  refine ⟨m, st, env, r, re, (PostS.withE re p).mono fun v H1 ⟨m1, st1, d, r1, d1, e1, p1⟩ => ?_⟩
  exact p1 m1 H1 v r1 d1 (Ext.refl _ _)
theorem ps_rtn {pos : Pos} : PS X (.Return none pos) (rdS X.K ca W fun env s => .ok (.rt (.v .non)) env s) :=
  ps_retN.imp fun D σ H ⟨m, st, env, r, re, p⟩ => p m H .non r (.v .non) (Ext.refl _ _)
theorem ps_ps {pos : Pos} : PS X (.Pass pos) (rdS X.K ca W fun env s => .ok .nx env s) :=
  ps_pass.imp fun D σ H ⟨m, st, env, r, re, p⟩ => p m H σ r re (Ext.refl _ _)
theorem ps_br {pos : Pos} : PS X (.Break pos) (rdS X.K ca W fun env s => .ok .br env s) :=
  ps_break.imp fun D σ H ⟨m, st, env, r, re, p⟩ => p m H σ r re (Ext.refl _ _)
theorem ps_co {pos : Pos} : PS X (.Continue pos) (rdS X.K ca W fun env s => .ok .co env s) :=
  ps_continue.imp fun D σ H ⟨m, st, env, r, re, p⟩ => p m H σ r re (Ext.refl _ _)
theorem ps_dc {x : Str} {j} {pos pos' : Pos} : PS X (.Expr (.Constant (.str x) j pos) pos') (rdS X.K ca W fun env s => .ok .nx env s) :=
  ps_doc.imp fun D σ H ⟨m, st, env, r, re, p⟩ => p m H σ r re (Ext.refl _ _)
/-- a suite -/
theorem pss_n : PSs X [] (rdS X.K ca W fun env s => .ok .nx env s) :=
  pss_nil.imp fun D σ H ⟨m, st, env, r, re, p⟩ => p m H σ r re (Ext.refl _ _)
theorem pss_c {st : Stmt} {rest : List Stmt} {f g : Env → Sto → SRes} (h1 : PS X st (rdS X.K ca W f)) (h2 : PSs X rest (rdS X.K ca W g)) : PSs X (st :: rest) (rdS X.K ca W fun env s => (f env s).bind fun e s => g e s) := by
  refine (pss_cons h1 h2).imp fun D σ H ⟨m, st, env, r, re, p⟩ => ?_
  refine ⟨m, st, env, r, re, ?_⟩
  have p : PostS X.K ca W m H ((f env st).bind fun e s => g e s) D := p
  cases z : f env st with
  | ok fl en s1 =>
    rw [z] at p
    cases fl with
    | nx => exact fun m' H' σ' a b c => ⟨m', s1, en, a, b, PostS.at p c⟩
    | br => exact p
    | co => exact p
    | rt d => exact p
  | ex c fs en s1 => rw [z] at p; exact p
  | bad => rw [z] at p; exact p
theorem ps_fi {c : Expr} {a b : List Stmt} {pos : Pos} {fc : Env → M Bool} {fa fb : Env → Sto → SRes} (hc : PT X c (rdT X.K ca W fc)) (ha : PSs X a (rdS X.K ca W fa)) (hb : PSs X b (rdS X.K ca W fb)) :
    PS X (.If c a b pos) (rdS X.K ca W fun env s => withE env (fc env s) fun k s => match k with
      | true => fa env s
      | false => fb env s) := by
  refine (ps_if hc ha hb).imp fun D σ H ⟨m, st, env, r, re, p⟩ => ?_
  refine ⟨m, st, env, r, re, (PostS.withG re p).mono fun k m1 H1 st1 ⟨r1, e1, p1⟩ => ?_⟩
  cases k with
  | true => rw [if_pos rfl]; exact ⟨m1, st1, env, r1, re.ext e1, p1⟩
  | false => rw [if_neg Bool.false_ne_true]; exact ⟨m1, st1, env, r1, re.ext e1, p1⟩
end
end PV
end
section
set_option Elab.async false
set_option linter.all false
set_option maxRecDepth 100000
set_option maxHeartbeats 2000000
/-! FB35: loops. -/
namespace PV
open PySem PySem.Spec PyProof.Rows L2
section
variable {X : Cx} {ca : Nat → Addr} {W : WX}
theorem PostI.mono {K : PySem.W.Frag} {σ : L2.St} {m : Mp} {H : Hp} {r : Res (List PV.D)} {R R' : It → Hp → Prop} (p : PostI K ca W σ m H r R) (i : ∀ J H', R J H' → R' J H') : PostI K ca W σ m H r R' := by
  cases r with
  | ok d st => exact fun m' H' v a b c => i v H' (p m' H' v a b c)
  | ex c fs st => exact p
  | bad => exact p
theorem PostS.forI {K : PySem.W.Frag} {σ : L2.St} {m : Mp} {H : Hp} {D : Ends} {f : M (List PV.D)} {env : Env} {g : List PV.D → Sto → SRes} {st : Sto} (re : RE K ca m H env σ) (p : PostS K ca W m H (PV.withE env (f st) g) D) :
    PostI K ca W σ m H (f st) fun J H1 => ∃ m1 st1 ds, RS K ca m1 H1 st1 ∧ IW K ca m1 H1 J ds ∧ Ext m H m1 H1 ∧ PostS K ca W m1 H1 (g ds st1) D := by
  unfold PV.withE at p
  cases h : f st with
  | ok d st1 =>
    rw [h] at p
    exact fun m' H' v a b c => ⟨m', st1, d, a, b, c, PostS.at p c⟩
  | ex c fs st1 =>
    rw [h] at p
    exact fun m' H' dd a b e => p m' H' σ dd a (re.ext e) b e
  | bad => rw [h] at p; exact p
/-- what is wanted where the loop goes on with the turns from i -/
theorem ps_fr {tg iter : Expr} {body : List Stmt} {pos : Pos} {g : Pt} {fi : Env → M (List D)} {fb : Env → Sto → SRes} (hp : PassesOwn (model X.prog X.w) X.A X.env X.xe) (hc : X.calm = true) (hi : PI X tg iter (rdI X.K ca W fi)) (hg : PG X tg (rdP X.K ca g)) (hb : PSs X body (rdS X.K ca W fb))
    (hs : ∀ x, foldedSetIterable iter X.env x = pure x) : PS X (.For tg iter body [] pos) (rdS X.K ca W fun env s => withE env (fi env s) fun xs s => forL g fb xs env s) := by
  refine (ps_for hp hc hi hg hb hs).imp fun D σ H ⟨m, st, env, r, re, p⟩ => ?_
  refine ⟨m, st, env, r, re, PostI.mono (PostS.forI re p) fun J H1 ⟨m1, st1, ds, r1, iw, e1, p1⟩ => ?_⟩
  refine ⟨fun i k σ2 H2 => k = ds.length - i ∧ i ≤ ds.length ∧ ∃ m2 st2 env2, RS X.K ca m2 H2 st2 ∧ RE X.K ca m2 H2 env2 σ2 ∧ Ext m1 H1 m2 H2 ∧ PostS X.K ca W m2 H2 (forL g fb (ds.drop i) env2 st2) D,
    ⟨ds.length, by simp, Nat.zero_le _, m1, st1, env, r1, re.ext e1, Ext.refl _ _, p1⟩, ?_⟩
  rintro i k σ2 H2 ⟨rfl, hi2, m2, st2, env2, r2, re2, e2, p2⟩
  by_cases hlt : i < ds.length
  · refine .inr ⟨iw.go i m2 H2 hlt e2.w, fun σ' H' => ∃ m2 st2 env2, RS X.K ca m2 H' st2 ∧ RE X.K ca m2 H' env2 σ' ∧ Ext m1 H1 m2 H' ∧ PostS X.K ca W m2 H' (forL g fb (ds.drop (i + 1)) env2 st2) D,
      fun σ' H' q => ⟨ds.length - (i + 1), by omega, rfl, hlt, q⟩, fun x H' yl => ?_⟩
    obtain ⟨r3, e3, d, hd, rd⟩ := iw.yld i m2 H2 x H' st2 hlt e2.w r2 yl
    have hdr : ds.drop i = d :: ds.drop (i + 1) := by
      obtain ⟨hl, he⟩ := List.getElem?_eq_some_iff.mp hd
      rw [List.drop_eq_getElem_cons hl, he]
    rw [hdr] at p2
    unfold forL at p2
    cases z : bindP st2 g d env2 with
    | none => rw [z] at p2; exact p2.elim
    | some en =>
      rw [z] at p2
      refine ⟨m2, st2, env2, d, r3, re2.ext e3, rd, en, z, fun σ3 re3 _ => ?_⟩
      refine ⟨m2, st2, en, r3, re3, ?_⟩
      have e4 := e2.trans e3
      have p2 := PostS.at p2 e3
      cases q : fb en st2 with
      | bad => dsimp only at p2; rw [q] at p2; exact p2.elim
      | ex c fs e s => dsimp only at p2; rw [q] at p2; exact p2
      | ok fl e s =>
        dsimp only at p2
        rw [q] at p2
        cases fl with
        | nx => exact fun m' H' σ' a b c => ⟨m', s, e, a, b, e4.trans c, PostS.at p2 c⟩
        | co => exact fun m' H' σ' a b c => ⟨m', s, e, a, b, e4.trans c, PostS.at p2 c⟩
        | br => exact p2
        | rt d => exact p2
  · have hn : i = ds.length := by omega
    subst hn
    refine .inl ⟨iw.stop m2 H2 e2.w, ?_⟩
    rw [List.drop_length] at p2
    exact p2 m2 H2 σ2 r2 re2 (Ext.refl _ _)
theorem ps_wh {c : Expr} {body : List Stmt} {pos : Pos} {fc : Env → M Bool} {fb : Env → Sto → SRes} {fuel : Nat} (hp : PassesOwn (model X.prog X.w) X.A X.env X.xe) (hc : PT X c (rdT X.K ca W fc)) (hb : PSs X body (rdS X.K ca W fb)) :
    PS X (.While c body [] pos) (rdS X.K ca W fun env s => whileL fc fb fuel env s) := by
  refine (ps_while hp hc hb).imp fun D σ H ⟨m, st, env, r, re, p⟩ => ?_
  refine ⟨fun k σ2 H2 => ∃ m2 st2 env2, RS X.K ca m2 H2 st2 ∧ RE X.K ca m2 H2 env2 σ2 ∧ PostS X.K ca W m2 H2 (whileL fc fb k env2 st2) D, ⟨fuel, m, st, env, r, re, p⟩, ?_⟩
  rintro k σ2 H2 ⟨m2, st2, env2, r2, re2, p2⟩
  cases k with
  | zero => exact p2.elim
  | succ k =>
    unfold whileL at p2
    refine ⟨m2, st2, env2, r2, re2, (PostS.withG re2 p2).mono fun b m3 H3 st3 ⟨r3, e3, p3⟩ => ?_⟩
    cases b with
    | false =>
      rw [if_neg Bool.false_ne_true]
      exact p3 m3 H3 σ2 r3 (re2.ext e3) (Ext.refl _ _)
    | true =>
      rw [if_pos rfl]
      refine ⟨fun σ' H' => ∃ m2 st2 env2, RS X.K ca m2 H' st2 ∧ RE X.K ca m2 H' env2 σ' ∧ PostS X.K ca W m2 H' (whileL fc fb k env2 st2) D, fun σ' H' q => ⟨k, Nat.lt_succ_self _, q⟩, m3, st3, env2, r3, re2.ext e3, ?_⟩
      dsimp only at p3
      cases q : fb env2 st3 with
      | bad => rw [q] at p3; exact p3.elim
      | ex c fs e s => rw [q] at p3; exact p3
      | ok fl e s =>
        rw [q] at p3
        cases fl with
        | nx => exact fun m' H' σ' a b c => ⟨m', s, e, a, b, PostS.at p3 c⟩
        | co => exact fun m' H' σ' a b c => ⟨m', s, e, a, b, PostS.at p3 c⟩
        | br => exact p3
        | rt d => exact p3
end
end PV
end
section
set_option Elab.async false
set_option linter.all false
set_option maxRecDepth 100000
set_option maxHeartbeats 2000000
/-! FB36: names stored from the right; comprehensions stored. -/
namespace PV
open PySem PySem.Spec PyProof.Rows L2
section
variable {X : Cx} {ca : Nat → Addr} {W : WX}
def notSet : Expr → Bool
  | .Set _ _ _ => false
  | _ => true
def isStar : Expr → Bool
  | .Starred _ _ => true
  | _ => false
theorem star_not {e : Expr} (h : notStar e = true) : isStar e = false := by cases e <;> first | rfl | (simp [notStar] at h)
theorem any_star {f : Expr → Bool} (hf : ∀ e, f e = isStar e) {es : List Expr} (h : es.all notStar = true) : es.any f = false := by
  rw [List.any_eq_false]
  intro e he
  rw [hf, star_not (List.all_eq_true.mp h e he)]
  exact Bool.false_ne_true
theorem ss2 {x y : Str} {px py pt p2 : Pos} {kt k2 : Nat} {a b : Expr} {env : PySem.Env} (hk : env.blockKind = .function) (kx : env.kindOf x = some .local) (ky : env.kindOf y = some .local) (hl : (py.line == px.line) = true) (hne : x ≠ y) (hst : [a, b].all notStar = true)
    (hf : [a, b].all (foldedForSure 8) = false) (hc : [a, b].all (constantsAlone 8) = false) : swappedStores [.Tuple [.Name x px, .Name y py] kt pt] (.Tuple [a, b] k2 p2) env = pure (some [x, y]) := by
  have e1 : ([x, y].eraseDups.length != [x, y].length) = false := by
    have : [x, y].eraseDups = [x, y] := by
      simp [List.eraseDups_cons, Ne.symm hne]
    rw [this]; rfl
  have e2 : (Expr.Name x px).pos.line = px.line := rfl
  unfold swappedStores
  simp only [pure_bind, List.length_cons, List.length_nil, Nat.zero_add, Nat.reduceAdd, BEq.rfl, Bool.or_true, Bool.true_or, Bool.not_true, bne_self_eq_false, Bool.false_or, hk]
  rw [if_neg (by decide), any_star (fun e => by cases e <;> rfl) hst]
  simp only [Bool.false_eq_true, if_false, List.head?_cons, Option.map_some, Option.getD_some, List.filterMap_cons, List.filterMap_nil, kx, ky, hl, e2, BEq.rfl, Bool.and_true, if_true, Bool.true_and]
  simp only [bne_self_eq_false, Bool.false_or, List.length_cons, List.length_nil]
  rw [if_neg (show ¬ ([x, y].eraseDups.length != 0 + 1 + 1) = true from by rw [show ([x, y].eraseDups.length != 0 + 1 + 1) = false from e1]; exact Bool.false_ne_true), if_neg (by rw [hf]; exact Bool.false_ne_true), if_neg (by rw [hc]; exact Bool.false_ne_true)]
theorem ss3 {x y z : Str} {px py pz pt p2 : Pos} {kt k2 : Nat} {a b c : Expr} {env : PySem.Env} (hk : env.blockKind = .function) (kx : env.kindOf x = some .local) (ky : env.kindOf y = some .local) (kz : env.kindOf z = some .local) (hl : (py.line == px.line) = true) (hl2 : (pz.line == px.line) = true)
    (hne : x ≠ y) (hne2 : x ≠ z) (hne3 : y ≠ z) (hst : [a, b, c].all notStar = true) (hf : [a, b, c].all (foldedForSure 8) = false) (hc : [a, b, c].all (constantsAlone 8) = false) :
    swappedStores [.Tuple [.Name x px, .Name y py, .Name z pz] kt pt] (.Tuple [a, b, c] k2 p2) env = pure (some [x, y, z]) := by
  have e1 : ([x, y, z].eraseDups.length != [x, y, z].length) = false := by
    have : [x, y, z].eraseDups = [x, y, z] := by
      simp [List.eraseDups_cons, Ne.symm hne, Ne.symm hne2, Ne.symm hne3]
    rw [this]; rfl
  have e2 : (Expr.Name x px).pos.line = px.line := rfl
  unfold swappedStores
  simp only [pure_bind, List.length_cons, List.length_nil, Nat.zero_add, Nat.reduceAdd, BEq.rfl, Bool.or_true, Bool.true_or, Bool.not_true, bne_self_eq_false, Bool.false_or, hk]
  rw [if_neg (by decide), any_star (fun e => by cases e <;> rfl) hst]
  simp only [Bool.false_eq_true, if_false, List.head?_cons, Option.map_some, Option.getD_some, List.filterMap_cons, List.filterMap_nil, kx, ky, kz, hl, hl2, e2, BEq.rfl, Bool.and_true, if_true, Bool.true_and]
  simp only [bne_self_eq_false, Bool.false_or, List.length_cons, List.length_nil]
  rw [if_neg (show ¬ ([x, y, z].eraseDups.length != 0 + 1 + 1 + 1) = true from by rw [show ([x, y, z].eraseDups.length != 0 + 1 + 1 + 1) = false from e1]; exact Bool.false_ne_true), if_neg (by rw [hf]; exact Bool.false_ne_true), if_neg (by rw [hc]; exact Bool.false_ne_true)]
theorem withE_bind {α : Type} {env : Env} {r : Res α} {f : α → M D} {k : D → Sto → SRes} : withE env (r.bind f) k = withE env r fun a s => withE env (f a s) k := by
  cases r <;> rfl
theorem PostS.withL {K : PySem.W.Frag} {σ : L2.St} {m : Mp} {H : Hp} {D : Ends} {f : M (List PV.D)} {env : Env} {g : List PV.D → Sto → SRes} {st : Sto} (re : RE K ca m H env σ) (p : PostS K ca W m H (PV.withE env (f st) g) D) :
    PostL K ca W σ m H (f st) fun vs H1 => ∃ m1 st1 ds, RS K ca m1 H1 st1 ∧ RDs K ca m1 H1 ds vs ∧ Ext m H m1 H1 ∧ PostS K ca W m1 H1 (g ds st1) D := by
  unfold PV.withE at p
  cases h : f st with
  | ok d st1 =>
    rw [h] at p
    exact fun m' H' v a b c => ⟨m', st1, d, a, b, c, PostS.at p c⟩
  | ex c fs st1 =>
    rw [h] at p
    exact fun m' H' dd a b e => p m' H' σ dd a (re.ext e) b e
  | bad => rw [h] at p; exact p
/-- the reading of a tuple of names stored from a display -/
abbrev rdPar (K : PySem.W.Frag) (ca : Nat → Addr) (W : WX) (f : Env → M (List D)) (g : List D → Bool) (is : List Nat) : TS := rdS K ca W fun env s => withE env (((f env).bind fun ds => (guardM (g ds)).bind fun _ => .ret (mkT ds)) s) fun d s => withE env (M.opt (bindP s (.tp (is.map .nm)) d env) s) fun en s => .ok .nx en s
theorem bindNm {st : Sto} {i : Nat} {d : D} {env en : Env} (h : bindP st (.nm i) d env = some en) : en = env.set i (some d) := by
  unfold bindP at h
  cases z : decide (i < env.length) <;> rw [z] at h <;> cases h
  rfl
theorem bindPs_cons {st : Sto} {p : Pt} {ps : List Pt} {ds : List D} {env en : Env} (h : bindPs st (p :: ps) ds env = some en) : ∃ d r e1, ds = d :: r ∧ bindP st p d env = some e1 ∧ bindPs st ps r e1 = some en := by
  cases ds with
  | nil => cases h
  | cons d r =>
    unfold bindPs at h
    cases z : bindP st p d env with
    | none => rw [z] at h; cases h
    | some e1 => rw [z] at h; exact ⟨d, r, e1, rfl, z, h⟩
theorem bindPs_nil {st : Sto} {ds : List D} {env en : Env} (h : bindPs st [] ds env = some en) : ds = [] ∧ en = env := by
  cases ds with
  | nil => cases h; exact ⟨rfl, rfl⟩
  | cons d r => cases h
theorem par_read {f : Env → M (List D)} {g : List D → Bool} {is : List Nat} {D : Ends} {σ : L2.St} {H : Hp} (h : rdPar X.K ca W f g is D σ H) :
    rdL X.K ca W f σ H fun vs H1 => ∃ m1 st1 ds env en, RS X.K ca m1 H1 st1 ∧ RDs X.K ca m1 H1 ds vs ∧ RE X.K ca m1 H1 env σ ∧ bindPs st1 (is.map .nm) ds env = some en ∧ ∀ σ', RE X.K ca m1 H1 en σ' → D.nx σ' H1 := by
  obtain ⟨m, st, env, r, re, p⟩ := h
  have p : PostS X.K ca W m H (withE env ((f env st).bind fun ds => (guardM (g ds)).bind fun _ => .ret (mkT ds)) fun d s => withE env (M.opt (bindP s (.tp (is.map .nm)) d env) s) fun en s => .ok .nx en s) D := p
  rw [withE_bind] at p
  refine ⟨m, st, env, r, re, (PostS.withL re p).mono fun vs H1 ⟨m1, st1, ds, r1, d1, e1, p1⟩ => ?_⟩
  have p1 : PostS X.K ca W m1 H1 (withE env ((guardM (g ds) st1).bind fun _ => .ret (mkT ds)) fun d s => withE env (M.opt (bindP s (.tp (is.map .nm)) d env) s) fun en s => .ok .nx en s) D := p1
  cases hg : g ds with
  | false => rw [hg] at p1; exact p1.elim
  | true =>
    rw [hg] at p1
    have p1 : PostS X.K ca W m1 H1 (withE env (M.opt (bindP st1 (.tp (is.map .nm)) (mkT ds) env) st1) fun en s => .ok .nx en s) D := p1
    cases z : bindP st1 (.tp (is.map .nm)) (mkT ds) env with
    | none => rw [z] at p1; exact p1.elim
    | some en =>
      rw [z] at p1
      unfold bindP asSeq at z
      rw [mkT_as] at z
      exact ⟨m1, st1, ds, env, en, r1, d1, re.ext e1, z, fun σ' q => p1 m1 H1 σ' r1 q (Ext.refl _ _)⟩
theorem ps_p2 {i j : Nat} {x y : Str} {a b : Expr} {px py pt p2 pos : Pos} {kt k2 : Nat} {f : Env → M (List D)} {g : List D → Bool} (hc : X.calm = true) (hN : X.N.Nodup) (hi : X.N[i]? = some x) (hj : X.N[j]? = some y) (hij : i ≠ j) (hbk : X.env.blockKind = .function)
    (hx : X.env.scope.names.lookup x = some .local) (hy : X.env.scope.names.lookup y = some .local) (ha : PA X [a, b] (rdL X.K ca W f)) (hl : (py.line == px.line) = true) (hst : [a, b].all notStar = true) (hf : [a, b].all (foldedForSure 8) = false) (hcc : [a, b].all (constantsAlone 8) = false) :
    PS X (.Assign [.Tuple [.Name x px, .Name y py] kt pt] (.Tuple [a, b] k2 p2) pos) (rdPar X.K ca W f g [i, j]) := by
  have hne : x ≠ y := fun z => by
    subst z
    have := (List.getElem?_inj (List.getElem?_eq_some_iff.mp hi).1 hN).mp (hi.trans hj.symm)
    exact hij this
  refine (ps_par hc hN hi hj hij hx hy ha (ss2 hbk hx hy hl hne hst hf hcc)).imp fun D σ H h => ?_
  obtain ⟨m, st, env, r, re, p⟩ := par_read h
  refine ⟨m, st, env, r, re, p.mono fun vs H1 ⟨m1, st1, ds, env1, en, r1, d1, re1, z, k⟩ => ?_⟩
  obtain ⟨d, rr, e1, rfl, z1, z⟩ := bindPs_cons z
  obtain ⟨d', rr, e2, rfl, z2, z⟩ := bindPs_cons z
  obtain ⟨rfl, rfl⟩ := bindPs_nil z
  obtain ⟨v, w, rfl, q1, q2⟩ := d1.two
  have := bindNm z1; subst this
  have := bindNm z2; subst this
  exact ⟨v, w, rfl, k _ ((re1.set q1).set q2)⟩
theorem ps_p3 {i j l : Nat} {x y z : Str} {a b c : Expr} {px py pz pt p2 pos : Pos} {kt k2 : Nat} {f : Env → M (List D)} {g : List D → Bool} (hc : X.calm = true) (hN : X.N.Nodup) (hi : X.N[i]? = some x) (hj : X.N[j]? = some y) (hl : X.N[l]? = some z) (hij : i ≠ j) (hil : i ≠ l) (hjl : j ≠ l) (hbk : X.env.blockKind = .function)
    (hx : X.env.scope.names.lookup x = some .local) (hy : X.env.scope.names.lookup y = some .local) (hz : X.env.scope.names.lookup z = some .local) (ha : PA X [a, b, c] (rdL X.K ca W f)) (hl1 : (py.line == px.line) = true) (hl2 : (pz.line == px.line) = true)
    (hst : [a, b, c].all notStar = true) (hf : [a, b, c].all (foldedForSure 8) = false) (hcc : [a, b, c].all (constantsAlone 8) = false) :
    PS X (.Assign [.Tuple [.Name x px, .Name y py, .Name z pz] kt pt] (.Tuple [a, b, c] k2 p2) pos) (rdPar X.K ca W f g [i, j, l]) := by
  have ne : ∀ {i j : Nat} {x y : Str}, X.N[i]? = some x → X.N[j]? = some y → i ≠ j → x ≠ y := fun hi hj hij z => by
    subst z
    exact hij ((List.getElem?_inj (List.getElem?_eq_some_iff.mp hi).1 hN).mp (hi.trans hj.symm))
  refine (ps_par3 hc hN hi hj hl hij hil hjl hx hy hz ha (ss3 hbk hx hy hz hl1 hl2 (ne hi hj hij) (ne hi hl hil) (ne hj hl hjl) hst hf hcc)).imp fun D σ H h => ?_
  obtain ⟨m, st, env, r, re, p⟩ := par_read h
  refine ⟨m, st, env, r, re, p.mono fun vs H1 ⟨m1, st1, ds, env1, en, r1, d1, re1, z, k⟩ => ?_⟩
  obtain ⟨d, rr, e1, rfl, z1, z⟩ := bindPs_cons z
  obtain ⟨d', rr, e2, rfl, z2, z⟩ := bindPs_cons z
  obtain ⟨d'', rr, e3, rfl, z3, z⟩ := bindPs_cons z
  obtain ⟨rfl, rfl⟩ := bindPs_nil z
  cases d1 with
  | @cons _ u _ vs q1 d1 =>
    obtain ⟨v, w, rfl, q2, q3⟩ := d1.two
    have := bindNm z1; subst this
    have := bindNm z2; subst this
    have := bindNm z3; subst this
    exact ⟨u, v, w, rfl, k _ (((re1.set q1).set q2).set q3)⟩
/-! ### comprehensions -/
theorem fold_no {e : Expr} {env : PySem.Env} (h : notSet e = true) : ∀ x, foldedSetIterable e env x = pure x := by
  intro x
  cases e <;> first | rfl | (simp [notSet] at h)
section
variable {elt tg iter : Expr} {ifs : List Expr} {scope : Scope} {own : List (Str × Nat)} {pos : Pos} {pt : Pt} {f : Env → M (List D)} {c : Env → M Bool} {e : Env → M D} {mu : Bool}
theorem pe_cp (hc : X.calm = true) (hN : X.N.Nodup) (hi : PI X tg iter (rdI X.K ca W f)) (ok : BlkOk X.N X.env.scope scope own)
    (hg : ∀ (s : Shared) (H : Hp) (C : Addr) (cl : List (Str × Addr)) (fp : List Addr), PG (X.blk s H scope (compEnvC scope cl C X.env) fp) tg (rdP X.K ca pt)) (ht : ∀ (s : Shared) (H : Hp) (C : Addr) (cl : List (Str × Addr)) (fp : List Addr), PTs (X.blk s H scope (compEnvC scope cl C X.env) fp) ifs (rdT X.K ca W0 c))
    (he : ∀ (s : Shared) (H : Hp) (C : Addr) (cl : List (Str × Addr)) (fp : List Addr), PE (X.blk s H scope (compEnvC scope cl C X.env) fp) elt (rdE X.K ca W0 e)) (hs : notSet iter = true) (hsl : ∀ i ∈ pt.slots, i ∈ own.map (·.2)) :
    PE X (.ListComp elt [⟨tg, iter, ifs, 0⟩] scope pos) (rdE X.K ca W fun env => (f env).bind fun xs => (nox (turns pt (wipeE env (own.map (·.2))) c e xs [])).bind fun ys => mkL mu ys) :=
  (pe_lc hc hN hi ok hg ht he (fold_no hs)).imp fun σ H Q h => lc_read hsl h
/-- name = [..] on one line -/
theorem ps_cp {i : Nat} {y : Str} {py spos : Pos} (hc : X.calm = true) (hN : X.N.Nodup) (hy : X.N[i]? = some y) (hyl : X.env.scope.names.lookup y = some .local) (hk : X.env.scope.kind = .function) (hl : (py.line == pos.line) = true)
    (hw : (scope.names.any fun (n, k) => n == y && (k == .local || k == .cell)) = false) (hi : PI X tg iter (rdI X.K ca W f)) (ok : BlkOk X.N X.env.scope scope own)
    (hg : ∀ (s : Shared) (H : Hp) (C : Addr) (cl : List (Str × Addr)) (fp : List Addr), PG (X.blk s H scope (compEnvC scope cl C X.env) fp) tg (rdP X.K ca pt)) (ht : ∀ (s : Shared) (H : Hp) (C : Addr) (cl : List (Str × Addr)) (fp : List Addr), PTs (X.blk s H scope (compEnvC scope cl C X.env) fp) ifs (rdT X.K ca W0 c))
    (he : ∀ (s : Shared) (H : Hp) (C : Addr) (cl : List (Str × Addr)) (fp : List Addr), PE (X.blk s H scope (compEnvC scope cl C X.env) fp) elt (rdE X.K ca W0 e)) (hs : notSet iter = true) (hsl : ∀ i ∈ pt.slots, i ∈ own.map (·.2)) :
    PS X (.Assign [.Name y py] (.ListComp elt [⟨tg, iter, ifs, 0⟩] scope pos) spos) (rdS X.K ca W fun env s => withE env (((f env).bind fun xs => (nox (turns pt (wipeE env (own.map (·.2))) c e xs [])).bind fun ys => mkL mu ys) s) fun d s => withE env (M.opt (bindP s (.nm i) d env) s) fun en s => .ok .nx en s) := by
  refine (ps_setLc hc hN hy hyl (sw_true hk hyl hl hw) hi ok hg ht he (fold_no hs)).imp fun D σ H ⟨m, st, env, r, re, p⟩ => ?_
  refine lc_read (mu := mu) (W := W) hsl ⟨m, st, env, r, re, (PostS.withE re p).mono fun v H1 ⟨m1, st1, d, r1, d1, e1, p1⟩ => ?_⟩
  show D.nx (σ.set i (some v)) H1
  have p1 : PostS X.K ca W m1 H1 (withE env (M.opt (bindP st1 (.nm i) d env) st1) fun en s => .ok .nx en s) D := p1
  cases z : bindP st1 (.nm i) d env with
  | none => rw [z] at p1; exact p1.elim
  | some en =>
    rw [z] at p1
    have := bindNm z; subst this
    exact p1 m1 H1 _ r1 ((re.ext e1).set d1) (Ext.refl _ _)
end
end
end PV
end
section
set_option Elab.async false
set_option linter.all false
set_option maxRecDepth 100000
set_option maxHeartbeats 1000000
/-! FB37: an own exception's __init__ over super().__init__(text). -/
namespace PV
open PySem PySem.Spec PyProof.Rows L2
/-- the context of that body -/
def cxS (CX : CXT) (P : Program) (w : World) (K : PySem.W.Frag) (mg : Str → Option Value) (base : Heap) (N : List Str) (qual : Str) (scope : Scope) (f : Addr) (cd : Value) (cc : Addr) (A : Around) (outer : List PySem.Env) (s : Shared) (H : Hp) (E : XK) : Cx where
  prog := P
  w := w
  K := K
  mg := mg
  base := base
  A := A.deeper (PySem.W.ksEnv qual scope s.heap.objs.size f cd cc)
  N := N
  s_0 := s
  H_0 := H
  env := PySem.W.ksEnv qual scope s.heap.objs.size f cd cc
  outer := outer
  stack := PySem.W.ksEnv qual scope s.heap.objs.size f cd cc :: outer
  ex := []
  calm := true
  fn := fun _ => false
  pn := []
  xe := fun e s' => wpAny (model P w) (A.deeper (PySem.W.ksEnv qual scope s.heap.objs.size f cd cc)) (leaving (PySem.W.ksEnv qual scope s.heap.objs.size f cd cc) e) (fun _ s'' => CX outer H s E e s'') (fun e' s'' => CX outer H s E e' s'') s'
/-- what the scope of such an __init__ says -/
structure SupScope (ps : List Str) (sc : Scope) : Prop where
  kind : sc.kind = .function
  co : sc.isCoroutine = false
  gen : sc.isGenerator = false
  nd : ps.Nodup
  par : ∀ x ∈ ps, sc.names.lookup x = some .local
  nocell : ∀ y ∈ sc.names, y.2 ≠ .cell
  free : ∀ y ∈ sc.names, y.2 = .free → y.1 = "__class__"
  cls : sc.names.lookup ("__class__" : Str) = some .free
  sup : sc.names.lookup ("super" : Str) = some .globalImplicit
theorem zip_sub : ∀ (P : List Str) (vs : List Value), ((P.zip vs).map (·.1)).Sublist P
  | [], _ => by simp
  | _ :: _, [] => by simp
  | p :: P, v :: vs => by
    rw [List.zip_cons_cons, List.map_cons]
    exact (zip_sub P vs).cons₂ p
theorem rev_get {x : Str} {v : Value} : ∀ {P : List Str} {vs : List Value} {i : Nat}, P.Nodup → P[i]? = some x → vs[i]? = some v → (P.zip vs).reverse.lookup x = some v := by
  intro P vs i nd h1 h2
  have key : ∀ (l : List (Str × Value)), (l.map (·.1)).Nodup → (x, v) ∈ l → l.lookup x = some v := by
    intro l
    induction l with
    | nil => intro _ h; cases h
    | cons p l ih =>
      intro hn hm
      obtain ⟨a, b⟩ := p
      rw [List.map_cons, List.nodup_cons] at hn
      rcases List.mem_cons.mp hm with h | h
      · cases h
        simp [List.lookup]
      · have : (x == a) = false := by
          rw [beq_eq_false_iff_ne]
          rintro rfl
          exact hn.1 (List.mem_map_of_mem (f := (·.1)) h)
        simp [List.lookup, this, ih hn.2 h]
  refine key _ ?_ (List.mem_reverse.mpr ?_)
  · rw [List.map_reverse]
    refine List.pairwise_reverse.mpr (List.Pairwise.imp Ne.symm ?_)
    exact nd.sublist (zip_sub _ _)
  · refine List.mem_of_getElem? (i := i) ?_
    rw [List.getElem?_zip_eq_some]
    exact ⟨h1, h2⟩
section
variable {CX : CXT} {P : Program} {w : World} {K : PySem.W.Frag} {mg : Str → Option Value} {base : Heap} {ps : List Str} {qual : Str} {scope : Scope} {f cc C : Addr} {cd : Value} {A : Around} {outer : List PySem.Env} {s s1 : Shared} {H : Hp} {E : XK} {us : List Value} {vs : List V}
theorem sup_start {oc : Value} {od : Option Addr} {osl : Array (Option Value)} (S : SupScope ps scope) (hd : A.handled = none) (e0 : Env0 P w K mg base A outer s H) (r : Vals vs us) (hl : vs.length = ps.length)
    (hc : K.lookup cc = some ⟨oc, od, .cell (some (.ref C)), osl⟩) {h₁ : Heap} {t : Nat} (hn : h₁.Ns s.heap.objs.size (fun x => (ps.zip us).reverse.lookup x)) (hk : ∀ b o, s.heap.get? b = some o → h₁.get? b = some o) :
    Inv (cxS CX P w K mg base ps qual scope f cd cc A outer s H E) [] (vs.map some) H { s with heap := h₁, toks := t } := by
  have ckey : ∀ {x : Str} {c : Addr}, ([(("__class__" : Str), cc)]).lookup x = some c → x = ("__class__" : Str) ∧ c = cc := by
    intro x c h
    by_cases z : x = ("__class__" : Str)
    · subst z
      simp [List.lookup] at h
      exact ⟨rfl, h.symm⟩
    · have : (x == ("__class__" : Str)) = false := by simpa using z
      simp [List.lookup, this] at h
  have bcc := e0.mod.kin _ _ hc
  have noA : ∀ b : Addr, b ∉ (cxS CX P w K mg base ps qual scope f cd cc A outer s H E).ex := fun b z => absurd (show b ∈ ([] : List Addr) from z) (by simp)
  refine ⟨⟨e0.mod, S.kind, rfl, rfl, Nat.le_refl _, fun y z c h1 h2 => ?_, fun y hy => ?_, fun y c h _ => ?_, fun _ => hd, Around.frames_deeper e0.frames, .inr ⟨rfl, rfl⟩, fun b z => absurd z (noA b), e0.bs, e0.bsz, fun b _ _ => noA b, fun b z => absurd z (noA b), e0.funs, e0.frf⟩,
    rfl, e0.bare, Un.kept hk, ⟨_, hn, fun i y v h1 h2 h3 => ?_⟩, fun y c h => ?_, e0.hok.fresh (Nat.le_refl _), fun y c h => ?_, fun p hp => absurd (show p ∈ ([] : List (Addr × Obj)) from hp) (by simp), e0.hok.kept hk, ?_⟩
  · exact (ckey h1).1.trans (ckey h2).1.symm
  · have hy : scope.names.lookup y = some .cell ∨ scope.names.lookup y = some .free := hy
    rcases hy with hy | hy
    · exact absurd rfl (S.nocell _ (PySem.mem_of_lookup hy))
    · have := S.free _ (PySem.mem_of_lookup hy) rfl
      exact ⟨cc, by show ([(("__class__" : Str), cc)]).lookup y = some cc; rw [show y = ("__class__" : Str) from this]; simp [List.lookup]⟩
  · exact absurd (show false = true from h) (by decide)
  · have h1 : ps[i]? = some y := h1
    rw [List.getElem?_map] at h2
    cases e : vs[i]? with
    | none => rw [e] at h2; cases h2
    | some a =>
      rw [e] at h2
      cases h2
      obtain ⟨u, hu, rv⟩ := r.get e
      exact ⟨u, rv, .inl ⟨S.par y (List.mem_of_getElem? h1), rev_get S.nd h1 hu⟩⟩
  · obtain ⟨rfl, rfl⟩ := ckey h
    exact ⟨_, _, hk _ _ (e0.bs _ _ bcc).1, rfl⟩
  · obtain ⟨rfl, rfl⟩ := ckey h
    exact (e0.bs _ _ bcc).2
  · show _ = ps.length
    rw [List.length_map, hl]
end
end PV
end
section
set_option Elab.async false
set_option linter.all false
set_option maxRecDepth 100000
set_option maxHeartbeats 2000000
/-! FB38: super().__init__(text), walked; the whole __init__. -/
namespace PV
open PySem PySem.Spec PyProof.Rows L2
/-- what the written part and the text say of such a class -/
structure SupC (prog : Program) (K : PySem.W.Frag) (mg : Str → Option Value) (C f cc cda : Addr) (fd : FuncData) (qual : Str) (scope : Scope) (ps : List Str) (sf fl : Str) : Prop where
  lk : ∃ oc od osl, K.lookup f = some ⟨oc, od, .func fd, osl⟩
  code : PySem.W.codeIn K (.ref cda) qual = true
  file : ∃ ccl cdd vs ccs file tf, K.lookup cda = some ⟨ccl, cdd, .fields vs, ccs⟩ ∧ vs[2]? = some (.str file tf) ∧ ((prog.main.file : Str) == file) = true
  top : (prog.main.scope.names.lookup ("super" : Str)).isSome = false
  cell : ∃ cl cld csl, K.lookup cc = some ⟨cl, cld, .cell (some (.ref C)), csl⟩
  ocl : ∃ cd, PySem.W.clsIn K C = some cd
  sub : PySem.W.mroIn K C (.ref C) = some true
  sup : PySem.W.ks_superIn K C C "__init__" = some (some (.builtin "ValueError.__init__"))
  opq : PySem.W.nsIn K cStatics "thirdparty.any" = some none
  isV : PySem.W.subIn K (.ref C) (.type "ValueError") = some true
  nosup : mg "super" = none
  par : ∃ ar, (fd.params.posonlyargs ++ fd.params.args).head? = some ar ∧ ar.arg = sf
  fst : ps[0]? = some sf
  oex : OexC K C
  nofl : PySem.W.findIn K (.ref C) fl = some none
section
variable {X : Cx} {C f cc cda a : Addr} {fd : FuncData} {qual : Str} {scope : Scope} {ps : List Str} {sf fl txt : Str} {pins : List (Addr × Obj)} {σ : L2.St} {H : Hp} {s : Shared} {p0 p1 p2 p3 p4 p5 : Pos} {body : List Stmt} {j : Nat}
theorem boot_super : bootBuiltins "super" = some (.type "super") := by decide +kernel
/-- super() of an exception that is being made: a new object -/
theorem sup_base {attr : Str} {whole : Sem Value} {Q : Value → Shared → Prop} {L : Addr} (T : SupC X.prog X.K X.mg C f cc cda fd qual scope ps sf fl) (S : SupScope ps scope) (I : Inv X pins σ H s) (hX : X.env = PySem.W.ksEnv qual scope L f (.ref cda) cc) (hN : X.N = ps)
    (h0 : σ[0]? = some (some (.ref a))) (e : H a = some (exo a C none)) (hat : (attr == ("__class__" : Str)) = false)
    (h : ∀ so s', Inv X pins σ H s' → s'.heap.get? so = some (PySem.W.ks_superObj C a C) → Q (.ref so) s') :
    PySem.wpAt (model X.prog X.w) X.A (.func body X.env) (attributeBase (.Call (.Name "super" p0) [] [] p1) attr X.env whole) Q X.xe s := by
  obtain ⟨oc, od, osl, lk⟩ := T.lk
  obtain ⟨ccl, cdd, vs, ccs, file, tf, lc, hvs, hfile⟩ := T.file
  obtain ⟨cl, cld, csl, lcell⟩ := T.cell
  obtain ⟨cd, hD⟩ := T.ocl
  obtain ⟨ar, hp, har⟩ := T.par
  obtain ⟨t1, ho⟩ := exo_at I.hok e
  have KI := I.kIn
  have sup : X.env.kindOf "super" = some .globalImplicit := by rw [hX]; exact S.sup
  obtain ⟨oD, hD1, hD2⟩ : ∃ oD, s.heap.get? C = some oD ∧ oD.data = .cls cd := by
    unfold PySem.W.clsIn at hD
    split at hD
    · rename_i c d cd' sl ho
      cases hD
      exact ⟨_, KI _ _ ho, rfl⟩
    · cases hD
  have hxy : ∀ (y : Str) (k : NameKind), scope.names.lookup y = some k → X.env.kindOf y = some k := fun y k z => by rw [hX]; exact z
  obtain ⟨mb, hb1, hb2⟩ := I.mod.blt
  obtain ⟨m, hns, hloc⟩ := I.loc
  have hsf : X.env.kindOf sf = some .local := hxy _ _ (S.par sf (List.mem_of_getElem? T.fst))
  obtain ⟨u, ru, lu⟩ := hloc 0 sf (.ref a) (by rw [hN]; exact T.fst) h0 (.inl (by show X.env.scope.names.lookup sf = _; rw [hX]; exact S.par sf (List.mem_of_getElem? T.fst)))
  obtain rfl : u = Value.ref a := ru
  have hm : m sf = some (.ref a) := by
    rcases lu with ⟨_, q⟩ | ⟨q, _⟩
    · exact q
    · rw [hsf] at q
      rcases q with q | q <;> cases q
  have gl := I.mod.glob.keeps I.bk
  refine ks_wpAt_super_base (of := ⟨oc, od, .func fd, osl⟩) (oc := ⟨ccl, cdd, .fields vs, ccs⟩) sup (hxy _ _ S.cls) hat (by rw [hX]) (KI _ _ lk) rfl hp (by rw [hX]) (KI _ _ lc) rfl hvs hfile T.top ?_
  refine PySem.W.ks_loadName_global I.ok.kind sup (Calls.loadGlobal_builtin (by rw [I.ok.glob]; exact gl) T.nosup (by rw [I.ok.blt]; exact hb1.keeps I.bk) ((hb2 _ (by decide)).trans boot_super) ⟨rfl, ?_⟩)
  refine wpAny_loadName_free I.ok.kind (hxy _ _ S.cls) (by rw [hX]; simp [List.lookup]) ⟨_, KI _ _ lcell, rfl⟩ ?_
  rw [har]
  refine wpAny_loadName_local I.ok.kind hsf hns hm ?_
  refine ks_wpAny_isType_cls hD1 hD2 ⟨rfl, ?_⟩
  obtain ⟨hp', g, d, t, os⟩ := s
  refine ks_wpAny_call_super hD1 hD2 ho rfl (fun c e => by cases e) (PySem.W.looks_mroIn KI T.sub) (fun h' e' k => ?_)
  exact h _ _ (I.kept (t' := t) k) e'
theorem sup_meth {pl : Sem Bool} {Q : Value × List Value → Shared → Prop} {E : Value → Shared → Prop} {so : Addr} (T : SupC X.prog X.K X.mg C f cc cda fd qual scope ps sf fl) (I : Inv X pins σ H s) (hso : s.heap.get? so = some (PySem.W.ks_superObj C a C)) (e : H a = some (exo a C none))
    (h : ∀ u s', Inv X pins σ H s' → s'.heap.get? u = some (PySem.W.kxs_mw "ValueError.__init__" a) → Q (.ref u, []) s') : wpAny (model X.prog X.w) X.A (getMethod (.ref so) "__init__" pl) Q E s := by
  obtain ⟨t1, ho⟩ := exo_at I.hok e
  have KI := I.kIn
  have J : PySem.W.InstAt s.heap a { cls := .ref C, dict := none, data := .fields #[.ref t1, .none, .none, .none, .bool false, .none] } C none := ⟨ho, rfl, rfl, trivial⟩
  have hI : PySem.W.Looks (model X.prog X.w) s.heap (isInstance (.ref a) (.type "ValueError")) true := J.type.andThen (PySem.W.looks_subIn KI T.isV)
  obtain ⟨cd, hc⟩ := T.ocl
  have hm := T.sup
  unfold PySem.W.ks_superIn at hm
  rw [hc] at hm
  obtain ⟨hp', g, d, t, os⟩ := s
  refine PySem.W.kxs_getMethod PySem.W.kxs_ValueError hso (PySem.W.looks_opaque KI T.opq) (l₀ := cd.mro) ?_ rfl KI hm hI (PySem.W.ks_ne KI J hc) (by decide) ?_
  · exact fun A Q E s k q => wpAny_bind ((PySem.W.looks_clsIn KI hc) A _ E s k (wpAny_pure q))
  · exact h _ _ (I.kept (t' := t + 1) (fun b o z => Heap.get?_push_of_some _ z)) (Heap.get?_push_at rfl rfl)
theorem sup_call {us : List Value} {Q : Value → Shared → Prop} {E : Value → Shared → Prop} {u : Addr} (T : OexC X.K C) (I : Inv X pins σ H s) (hu : s.heap.get? u = some (PySem.W.kxs_mw "ValueError.__init__" a)) (e : H a = some (exo a C none)) (hz : us.length ≤ sizeLine)
    (h : ∀ s', Inv X pins σ H s' → Q .none s') : wpAny (model X.prog X.w) X.A (call (.ref u) us) Q E s := by
  obtain ⟨nm, q, N, bs, bm, sn, sub, ab, col, dd, k0, k1, k2, k3, k5, hC, hbm⟩ := T.cls
  obtain ⟨t1, ho⟩ := exo_at I.hok e
  have hC := I.kIn _ _ hC
  obtain ⟨hp, g, d, t, os⟩ := s
  refine wpAny_call (codeAny_of_tree ?_)
  show wpAny _ X.A.in1 (callAny (.ref u) ⟨us, []⟩) _ _ _
  simp only [callAny]
  refine wpAny_bind (wpAny_load hu ?_)
  simp only [PySem.W.kxs_mw, show (Value.type "method-wrapper" == Value.type "method" || Value.type "method-wrapper" == Value.type "builtin_function_or_method" || Value.type "method-wrapper" == Value.type "method-wrapper") = true by decide, if_true]
  refine PySem.W.KFB.if_so (by decide) ?_
  refine wpAny_bind (PySem.W.check_bound_init F.excBase_ValueError.toExcCallFacts hC ho rfl ?_)
  refine wpAny_bind (wpAny_pure (wpAny_pure ?_))
  refine ⟨plainId_quiet F.excBase_ValueError.init.plain _, codeAny_builtin F.excBase_ValueError.initEntry ?_⟩
  refine PySem.W.exc_init_tree (cls := .ref C) (t0 := t1) (dv := none) (c2 := .none) (c3 := .none) (b4 := .bool false) ho hz fun h' k hx _ => ?_
  have J := I.write (t' := t) (x := a) (e := a) (o := exo a C none) (by rw [e]; exact True.intro) (.inl rfl) k ⟨_, hx⟩ (exo_ok hx)
  have eu : upd H a (exo a C none) = H := by
    funext b
    by_cases hb : b = a
    · rw [hb, upd_same, e]
    · rw [upd_ne hb]
  rw [eu] at J
  exact h _ J
/-- super().__init__(text) -/
abbrev supE (p0 p1 p2 p3 p4 : Pos) (txt : Str) (j : Nat) : Expr := .Call (.Attribute (.Call (.Name "super" p0) [] [] p1) "__init__" p2) [.Constant (.str txt) j p3] [] p4
/-- how that call runs -/
def SupRun (p0 p1 p2 p3 p4 : Pos) (txt : Str) (j : Nat) : Prop := ∀ env : PySem.Env, ∃ pl : Sem Bool, eval (supE p0 p1 p2 p3 p4 txt j) env = (do
      let ov ← attributeBase (.Call (.Name "super" p0) [] [] p1) "__init__" env (eval (.Call (.Name "super" p0) [] [] p1) env)
      standAt p2.atName
      let (f, first) ← holding [ov] (getMethod ov "__init__" pl)
      callWith p4 f first (backTo p4 (starEach [.Constant (.str txt) j p3] env)) [])
theorem sup_stmt {L : Addr} (T : SupC X.prog X.K X.mg C f cc cda fd qual scope ps sf fl) (S : SupScope ps scope) (I : Inv X pins σ H s) (hX : X.env = PySem.W.ksEnv qual scope L f (.ref cda) cc) (hN : X.N = ps) (h0 : σ[0]? = some (some (.ref a))) (e : H a = some (exo a C none))
    (hr : SupRun p0 p1 p2 p3 p4 txt j) {Q : PySem.Flow → Shared → Prop} (h : ∀ s', Inv X pins σ H s' → Q .next s') :
    PySem.wpAt (model X.prog X.w) X.A (.func body X.env) (exec (.Expr (supE p0 p1 p2 p3 p4 txt j) p5) X.env) Q X.xe s := by
  obtain ⟨pl, he⟩ := hr X.env
  have hm : PySem.wpAt (model X.prog X.w) X.A (.func body X.env) (eval (supE p0 p1 p2 p3 p4 txt j) X.env) (fun _ s' => Q .next s') X.xe s := by
    refine ks_wpAt_MethodCall (o := .Call (.Name "super" p0) [] [] p1) (name := "__init__") (pl := pl) (sup_base T S I hX hN h0 e (by decide) fun so s1 I1 hso => sup_meth T I1 hso e fun u s2 I2 hu => ?_) he
    refine PySem.W.kxs_callWith (i := "ValueError.__init__") (x := a) rfl ?_
    refine Calls.evalArgs_plain (Calls.spliced_cons (Calls.Constant_str (k := j) (pos := p3) (Calls.spliced_nil ⟨hu, ?_⟩)))
    exact sup_call T.oex (I2.tok _) hu e (by rw [sizeLine_eq]; simp) fun s' J => h s' J
  exact ks_wpAt_Expr_any hm I.quiet (sw_no rfl)
end
section
variable {CX : CXT} {P : Program} {w : World} {K : PySem.W.Frag} {mg : Str → Option Value} {base : Heap} {C f cc cda : Addr} {qual name : Str} {scope : Scope} {sf fl fx txt : Str} {p0 p1 p2 p3 p4 p5 q0 q1 q2 q3 : Pos} {params : Arguments} {dV kV doc pm ct : Value} {an : Option Addr} {j k : Nat}
/-- what such an __init__ does -/
def spExc (C : Addr) (fl : Str) : Sp := fun vs H Q _ => ∃ a y, vs = [.ref a, y] ∧ H a = some (exo a C none) ∧ ∀ dx, H dx = none → dx ≠ a → Q .non (upd (upd H dx (exd dx [(fl, y)])) a (exo a C (some dx)))
theorem sup_of (T : SupC P K mg C f cc cda (PySem.W.ksFn name qual params [.Expr (supE p0 p1 p2 p3 p4 txt j) p5, .Assign [.Attribute (.Name sf q0) fl q1] (.Name fx q2) q3] scope dV kV doc pm an (.ref cda) ct cc) qual scope [sf, fx] sf fl) (S : SupScope [sf, fx] scope) (hr : SupRun p0 p1 p2 p3 p4 txt j)
    (n1 : (sf == ("__debug__" : Str)) = false) (n2 : (sf == ("__classdict__" : Str)) = false) (n3 : (fx == ("__debug__" : Str)) = false) (n4 : (fx == ("__classdict__" : Str)) = false) :
    FnOk P w K mg base CX (k + 1) f (PySem.W.ksFn name qual params [.Expr (supE p0 p1 p2 p3 p4 txt j) p5, .Assign [.Attribute (.Name sf q0) fl q1] (.Name fx q2) q3] scope dV kV doc pm an (.ref cda) ct cc) [sf, fx] (spExc C fl) := by
  refine ⟨fun vs H Q E ⟨a, y, e, _⟩ => by rw [e]; rfl, fun A outer s H args us vs Q E rm e0 hb r hsp => ?_⟩
  obtain ⟨a, y, ev, ea, hq⟩ := hsp
  subst ev
  have KX : K.In s.heap := e0.mod.kin.keeps fun b o e => (e0.bs b o e).1
  have lim : s.heap.NoLimit := e0.mod.nolimit.keeps fun b o e => (e0.bs b o e).1
  obtain ⟨oc, od, osl, lk⟩ := T.lk
  obtain ⟨cl, cld, csl, lcell⟩ := T.cell
  refine ks_codeAny_call_defAt (binds := [sf, fx].zip us) rm.depth (KX _ _ lk) rfl lim (PySem.W.codeRec_of KX T.code) rfl hb S.nocell (fun x hx => S.par x.1 (List.of_mem_zip hx).1) (fun h₀ hns hk => ?_) S.co S.gen S.kind
  have I : Inv (cxS CX P w K mg base [sf, fx] qual scope f (.ref cda) cc A outer s H E) [] ([V.ref a, y].map some) H { s with heap := h₀, toks := s.toks + ([sf, fx].zip us).length } := sup_start S rm.hd e0 r rfl lcell hns hk
  refine ks_wpAt_execs_cons (sup_stmt (X := cxS CX P w K mg base [sf, fx] qual scope f (.ref cda) cc A outer s H E) (L := s.heap.objs.size) T S I rfl rfl rfl ea hr fun s1 I1 => ?_)
  refine wpAt_of_wpAny ?_
  have v0 : Vis (cxS CX P w K mg base [sf, fx] qual scope f (.ref cda) cc A outer s H E).env.scope sf := .inl (S.par sf (by simp))
  have v1 : Vis (cxS CX P w K mg base [sf, fx] qual scope f (.ref cda) cc A outer s H E).env.scope fx := .inl (S.par fx (by simp))
  have st : PSs (cxS CX P w K mg base [sf, fx] qual scope f (.ref cda) cc A outer s H E) [.Assign [.Attribute (.Name sf q0) fl q1] (.Name fx q2) q3] _ := pss_cons (ps_ost (pe_var (i := 0) rfl v0 n1 n2) (pe_var (i := 1) rfl v1 n3 n4) (sw_no rfl)) pss_nil
  refine wpAny_mono (st.run [] s1 _ H { nx := fun _ H' => Q .non H', rt := fun _ _ => False } I1 ?_) (fun fl' s' hs => ?_) fun _ _ hs => hs
  · refine ⟨y, rfl, V.ref a, rfl, a, C, rfl, T.oex, T.nofl, .inl ⟨ea, fun dx hd hne => ?_⟩⟩
    exact hq dx hd hne
  · cases fl' with
    | ret u =>
      obtain ⟨v, σ', H', J, rv, q⟩ := hs
      exact q.elim
    | next =>
      obtain ⟨σ', H', J, q⟩ := hs
      exact ⟨.non, H', J.os, J.bare, J.base, J.hok, rfl, q⟩
    | brk =>
      obtain ⟨_, _, _, q⟩ := hs
      exact q.elim
    | cont =>
      obtain ⟨_, _, _, q⟩ := hs
      exact q.elim
end
end PV
end
section
set_option Elab.async false
set_option linter.all false
set_option maxRecDepth 100000
set_option maxHeartbeats 2000000
/-! FB39: raise. -/
namespace PV
open PySem PySem.Spec PyProof.Rows L2
/-- nothing is told of what leaves -/
abbrev CX0 : CXT := fun _ _ _ _ _ _ => False
theorem exc_same {H : Hp} {a dx : Addr} {o1 o2 : HO} {fs : List (Str × V)} {u : HO} (ha : H a = none) (hne : dx ≠ a) : upd (del (upd (upd (upd H a u) dx o1) a o2) a) dx (.xd fs) = upd H dx (.xd fs) := by
  funext b
  by_cases h1 : b = dx
  · rw [h1, upd_same, upd_same]
  · rw [upd_ne h1, upd_ne h1]
    by_cases h2 : b = a
    · rw [h2, del_same, ha]
    · rw [del_ne h2, upd_ne h2, upd_ne h1, upd_ne h2]
section
variable {X : Cx} {ca : Nat → Addr} {W : WX} {P : Pr}
theorem excFs_one {c : Nat} {f : Str} {ds : List D} {fs : List (Str × D)} (hc : (P.cl c).bind Cl.exc = some (some f)) (h : excFs P c ds = some fs) : ∃ d, ds = [d] ∧ fs = [(f, d)] := by
  unfold excFs at h
  rw [hc] at h
  match ds, h with
  | [d], h => exact ⟨d, rfl, (Option.some.inj h).symm⟩
theorem ps_rs {c k : Nat} {fI : Addr} {fd : FuncData} {ps : List Str} {fl x : Str} {e : Expr} {es : List Expr} {p pos pos' : Pos} {fL : Env → M (List D)} (hx : (P.cl c).bind Cl.exc = some (some fl)) (hc : X.calm = true) (tk : Takes X W) (T : OexC X.K (ca c))
    (iC : PySem.W.findIn X.K (.ref (ca c)) "__init__" = some (some (.ref fI))) (tI : PySem.W.typeIn X.K (.ref fI) = some (.type "function")) (F1 : FnOk X.prog X.w X.K X.mg X.base CX0 k fI fd ps (spExc (ca c) fl)) (hr : Room (k + 1) X.A) (hb : Binds X.K fd ps [])
    (hg : Gl X x) (hm : X.mg x = some (.ref (ca c))) (ha : PA X (e :: es) (rdL X.K ca W fL)) (hdb : (x == ("__debug__" : Str)) = false) (hs : (e :: es).all notStar = true) :
    PS X (.Raise (some (.Call (.Name x p) (e :: es) [] pos)) none pos') (rdS X.K ca W fun env s => withE env (fL env s) fun ds s => match excFs P c ds with
      | some fs => .ex c fs env s
      | none => .bad) := by
  have h2 := hs
  simp only [List.all_cons, Bool.and_eq_true] at h2
  refine (ps_raise hc tk (pmk_oex (dvs := []) T iC tI F1 hr hb .nil (fun _ _ _ _ _ _ _ z => z.elim) hg hm ha hdb (starEach_no h2.1) (stars_no h2.2))).imp fun D σ H ⟨m, st, env, r, re, q⟩ => ?_
  refine ⟨m, st, env, r, re, (PostS.withL re q).mono fun vs H1 ⟨m1, st1, ds, r1, d1, e1, p1⟩ => ?_⟩
  cases hf : excFs P c ds with
  | none => rw [hf] at p1; exact p1.elim
  | some fs =>
    rw [hf] at p1
    obtain ⟨d, rfl, rfl⟩ := excFs_one hx hf
    cases d1 with
    | @cons _ y _ _ dy dn =>
      cases dn
      refine ⟨by simp, fun a ha => ⟨a, y, rfl, upd_same, fun dx hdx hne => ⟨rfl, dx, [(fl, y)], upd_same, ?_, ?_, ?_⟩⟩⟩
      · rw [upd_ne hne, upd_same]
      · rw [upd_ne hne] at hdx
        exact hdx
      · rw [exc_same ha hne]
        rw [upd_ne hne] at hdx
        exact p1 m1 _ σ (some dx) (r1.new hdx) ((re.ext e1).ext (Ext.new hdx)) ⟨dx, _, rfl, upd_same, .cons (dy.ext (Ext.new hdx)) .nil⟩ (Ext.new hdx)
end
end PV
end
section
set_option Elab.async false
set_option linter.all false
set_option maxRecDepth 100000
set_option maxHeartbeats 2000000
/-! FB40: several except clauses, with names or without. -/
namespace PV
open PySem PySem.Spec PyProof.Rows L2
abbrev ClT := Addr → Value → Option Addr → TS
/-- what a clause's end means behind the suite: its name is gone -/
def offE (i : Nat) (D : Ends) : Ends := { nx := fun τ G => D.nx (τ.set i none) G, rt := D.rt, bk := fun τ G => D.bk (τ.set i none) G, ct := fun τ G => D.ct (τ.set i none) G }
def wCl (K : PySem.W.Frag) (Wo : WX) (D : Ends) : List (Value × Option Nat × ClT) → WX
  | [] => Wo
  | (c, i, ts) :: r => fun cl dd τ G => ∃ b, PySem.W.exmOne K cl c = some b ∧ (b = true → ∀ x, G x = none → match i with
      | none => ts x cl dd D τ G
      | some i => ts x cl dd (offE i D) (τ.set i (some (.ref x))) G) ∧ (b = false → wCl K Wo D r cl dd τ G)
inductive ClsOf (X : Cx) : List ExceptHandler → List (Value × Option Nat × ClT) → Prop
  | nil : ClsOf X [] []
  | plain {x : Str} {c : Value} {ts : ClT} {b₀ : Stmt} {su : List Stmt} {p p2 : Pos} {hs : List ExceptHandler} {l : List (Value × Option Nat × ClT)} (hc : Names X x c)
      (hsu : ∀ (z : Addr) (ob : Obj) (cl : Value) (dd : Option Addr) (q : List (Addr × Obj)), Zc cl dd ob → (∃ vs, ob.data = .fields vs) → PSs (X.suite z ((z, ob) :: q)) (b₀ :: su) (ts z cl dd)) (r : ClsOf X hs l) :
      ClsOf X (.ExceptHandler (some (.Name x p)) none (b₀ :: su) p2 :: hs) ((c, none, ts) :: l)
  | named {x n : Str} {i : Nat} {c : Value} {ts : ClT} {b₀ : Stmt} {su : List Stmt} {p p2 : Pos} {hs : List ExceptHandler} {l : List (Value × Option Nat × ClT)} (hi : X.N[i]? = some n) (hl : X.env.kindOf n = some .local) (hc : Names X x c)
      (hsu : ∀ (z : Addr) (ob : Obj) (cl : Value) (dd : Option Addr) (q : List (Addr × Obj)), Zc cl dd ob → (∃ vs, ob.data = .fields vs) → PSs (X.suite z ((z, ob) :: q)) (b₀ :: su) (ts z cl dd)) (r : ClsOf X hs l) :
      ClsOf X (.ExceptHandler (some (.Name x p)) (some n) (b₀ :: su) p2 :: hs) ((c, some i, ts) :: l)
section
variable {X : Cx} {body : List Stmt} {h₀ : ExceptHandler} {hds : List ExceptHandler} {l : List (Value × Option Nat × ClT)} {pos : Pos} {tb : WX → TS} {Wo : WX}
theorem ps_trys (hs : X.stack = X.env :: X.outer) (hf : X.env.frame = some X.env.locals) (hN : X.N.Nodup) (tk : Takes X Wo)
    (hb : ∀ (W : WX) (q : List (Addr × Obj)) (xe : Value → Shared → Prop), Takes (X.tr q xe) W → PassesOwn (model X.prog X.w) X.A X.env xe → PSs (X.tr q xe) body (tb W))
    (hh : ClsOf X (h₀ :: hds) l) : PS X (.Try body (h₀ :: hds) [] [] pos) (fun D τ G => tb (wCl X.K Wo D l) D τ G) := by
  refine ⟨fun pins s τ G D I h => ?_⟩
  have okX := I.ok
  have frX : X.A.frames = some (X.env :: X.outer) := by rw [okX.frames, hs]
  refine wpAny_Try_except ?_
  refine wpAny_mono ((hb (wCl X.K Wo D l) (X.pn ++ pins) (fun e u1 => wpAny (model X.prog X.w) X.A (noteFrame e X.env) (fun _ u2 => wpAny (model X.prog X.w) X.A (setFlight e none) (fun _ u3 =>
    wpAny (model X.prog X.w) X.A (handleBy e X.env (h₀ :: hds)) (SP X pins D) X.xe u3) X.xe u2) X.xe u1) (fun v t xx => ?_) PassesOwn.looking).run [] s τ G D (I.toTry _) h) (fun f s1 hsp => ?_) (fun e s1 he => he)
  · obtain ⟨z, Bg, sJ, pins2, τ2, G2, cl, dd, rfl, J0, nb, up0, sky0, nz, osz, agz, wz⟩ := xx
    have J1 : Inv X pins τ2 G2 sJ := J0.ofTry okX
    have sky1 : Sky Bg (X.env :: X.outer) z (Zc cl dd) X.env.locals t.heap := by rw [← hs]; exact sky0
    show wpAny (model X.prog X.w) X.A (noteFrame (.ref z) X.env) _ _ _
    refine Sky.land Zc.steady frX hf sky1 fun g3 fly3 up3 => ?_
    have J3 : Inv X pins τ2 G2 { t with heap := g3 } := J1.landed nb fly3.1 (up0.trans up3) osz agz
    obtain ⟨ob3, vs3, hg3, hz3, hd3⟩ := fly3.there
    have ng3 : z ∉ frs (X.env :: X.outer) := fun hm => by
      obtain ⟨_, ob', e', hnf⟩ := fly3.2.2.1.mem hm
      rw [hg3] at e'; cases e'
      exact hnf _ hd3
    have zL : z ≠ X.env.locals := fun q => ng3 (List.mem_filterMap.mpr ⟨X.env, List.mem_cons_self, by rw [hf, q]⟩)
    have zF : z ∉ X.fs := fun hm => by
      obtain ⟨e, he, q⟩ := List.mem_filterMap.mp hm
      exact ng3 (List.mem_filterMap.mpr ⟨e, List.mem_cons_of_mem _ he, q⟩)
    have S3 := J3.suite hg3 hd3 nz zL zF
    have test : ∀ {x : Str} {c : Value} {b : Bool} {p : Pos} {Q : Value → Shared → Prop} {E : Value → Shared → Prop}, Names X x c → Q c { t with heap := g3 } → wpAny (model X.prog X.w) (X.A.mark (some (.ref z))) (eval (.Name x p) X.env) Q E { t with heap := g3 } := fun {x c b p Q E} hc q => by
      obtain ⟨hg, hdbg, hm | ⟨hm, hv, hnn⟩⟩ := hc
      · exact ld_glob (X := X.suite z ((z, ob3) :: (X.pn ++ pins))) S3 hg hm q hdbg
      · exact ld_blt (X := X.suite z ((z, ob3) :: (X.pn ++ pins))) S3 hg hm hv q hnn hdbg
    have LT : PySem.W.Looks (model X.prog X.w) g3 (typeOf (.ref z)) cl := fun A Q E s k q => wpAny_typeOf_ref (k _ _ hg3) (by rw [hz3.1]; exact q)
    have main : ∀ {hs' : List ExceptHandler} {l' : List (Value × Option Nat × ClT)}, ClsOf X hs' l' → wCl X.K Wo D l' cl dd τ2 G2 →
        wpAny (model X.prog X.w) X.A (handleBy (.ref z) X.env hs') (SP X pins D) X.xe { t with heap := g3 } := by
      intro hs' l' hk
      induction hk with
      | nil =>
        intro wn
        refine wpAny_handleBy_nil ?_
        obtain ⟨k1, k2, k3, ob, vs, Tb, oT, tv, hob, hzb, hdb, h1, hr⟩ := id fly3
        unfold PySem.passOn
        refine wpAny_bind (wpAny_field hob hdb h1 ?_)
        rw [if_neg (show ¬ ((Value.ref Tb == Value.none) = true) from by simp)]
        have last : wpAny (model X.prog X.w) X.A (setFlight (.ref z) X.env.frame) (fun _ u4 => wpAny (model X.prog X.w) X.A (throw (.ref z) : Sem PySem.Flow) (SP X pins D) X.xe u4) X.xe { t with heap := g3 } := by
          rw [hf]
          refine HandSPX.setFlight_upZ fly3 fun g4 hold4 up4 => wpAny_throw (tk _ _ ?_)
          exact ⟨z, Bg, sJ, pins, τ2, G2, cl, dd, rfl, J1, nb, (up0.trans up3).trans up4, .inr (.inr (by rw [hs]; exact hold4)), nz, osz, agz, wn⟩
        first
          | exact wpAny_bind (wpAny_pure (wpAny_bind last))
          | exact wpAny_bind last
      | @plain x c ts b₀ su p p2 hs2 l2 hc hsu r ih =>
        intro wn
        obtain ⟨b, hb1, yes, no⟩ := wn
        refine wpAny_handleBy_cons (codeAny_handlers_test ?_) (by intro q; cases q)
        refine test (b := b) hc ((PySem.W.exm_one (M := model X.prog X.w) (J3.kIn) LT hb1).here ?_)
        cases b with
        | false =>
          show wpAny _ X.A (handleBy (.ref z) X.env hs2) _ _ _
          exact ih (no rfl)
        | true =>
          refine codeAny_handlers_suite ?_
          refine HandSPX.lands_againZ fly3 fun g4 fly4 up4 => ?_
          have J4 : Inv X pins τ2 G2 { t with heap := g4 } := J1.landed nb fly4.1 ((up0.trans up3).trans up4) osz agz
          obtain ⟨ob4, vs4, hg4, hz4, hd4⟩ := fly4.there
          have S4 := J4.suite hg4 hd4 nz zL zF
          refine wpAny_mono ((hsu z ob4 cl dd (X.pn ++ pins) hz4 ⟨_, hd4⟩).run [] _ _ G2 _ S4 (yes rfl z nz)) (fun f s6 sp6 => ?_) (fun _ _ q => False.elim q)
          cases f with
          | ret u =>
            obtain ⟨v6, τ6, G6, S6, r6, q6⟩ := sp6
            exact ⟨_, _, _, S6.unsuite okX, r6, q6⟩
          | next =>
            obtain ⟨τ6, G6, S6, q6⟩ := sp6
            exact ⟨_, _, S6.unsuite okX, q6⟩
          | brk =>
            obtain ⟨τ6, G6, S6, q6⟩ := sp6
            exact ⟨_, _, S6.unsuite okX, q6⟩
          | cont =>
            obtain ⟨τ6, G6, S6, q6⟩ := sp6
            exact ⟨_, _, S6.unsuite okX, q6⟩
      | @named x n i c ts b₀ su p p2 hs2 l2 hi hln hc hsu r ih =>
        intro wn
        obtain ⟨b, hb1, yes, no⟩ := wn
        refine wpAny_handleBy_cons (codeAny_handlers_test ?_) (by intro q; cases q)
        refine test (b := b) hc ((PySem.W.exm_one (M := model X.prog X.w) (J3.kIn) LT hb1).here ?_)
        cases b with
        | false =>
          show wpAny _ X.A (handleBy (.ref z) X.env hs2) _ _ _
          exact ih (no rfl)
        | true =>
          refine codeAny_handlers_suite_as ?_
          refine HandSPX.lands_againZ fly3 fun g4 fly4 up4 => ?_
          have J4 : Inv X pins τ2 G2 { t with heap := g4 } := J1.landed nb fly4.1 ((up0.trans up3).trans up4) osz agz
          obtain ⟨ob4, vs4, hg4, hz4, hd4⟩ := fly4.there
          have S4 := J4.suite hg4 hd4 nz zL zF
          refine store_ok (X := X.suite z ((z, ob4) :: (X.pn ++ pins))) (v := .ref z) S4 hN hi (.inl hln) rfl (fun s5 S5 => ?_) (.inr hln)
          refine wpAny_mono ((hsu z ob4 cl dd (X.pn ++ pins) hz4 ⟨_, hd4⟩).run [] s5 _ G2 _ S5 (yes rfl z nz)) (fun f s6 sp6 => ?_) (fun _ _ q => False.elim q)
          have gone : ∀ {τ6 : L2.St} {G6 : Hp} {Q : Shared → Prop}, Inv (X.suite z ((z, ob4) :: (X.pn ++ pins))) [] τ6 G6 s6 → (∀ s7, Inv X pins (τ6.set i none) G6 s7 → Q s7) →
              wpAny (model X.prog X.w) X.A (do bindName X.env n .none; unbindBehindTheSuite X.env n p2) (fun _ s7 => Q s7) X.xe s6 := fun {τ6 G6 Q} S6 hq => gone_ok (S6.unsuite okX) hN hi hln hq
          cases f with
          | ret u =>
            obtain ⟨v6, τ6, G6, S6, r6, q6⟩ := sp6
            exact gone S6 fun s7 J7 => ⟨_, _, _, J7, r6, q6⟩
          | next =>
            obtain ⟨τ6, G6, S6, q6⟩ := sp6
            exact gone S6 fun s7 J7 => ⟨_, _, J7, q6⟩
          | brk =>
            obtain ⟨τ6, G6, S6, q6⟩ := sp6
            exact gone S6 fun s7 J7 => ⟨_, _, J7, q6⟩
          | cont =>
            obtain ⟨τ6, G6, S6, q6⟩ := sp6
            exact gone S6 fun s7 J7 => ⟨_, _, J7, q6⟩
    exact main hh wz
  · cases f with
    | ret u =>
      obtain ⟨v, τ2, G2, J2, r, q⟩ := hsp
      exact ⟨v, τ2, G2, J2.ofTry okX, r, q⟩
    | next =>
      obtain ⟨τ2, G2, J2, q⟩ := hsp
      exact wpAny_execs_nil ⟨τ2, G2, J2.ofTry okX, q⟩
    | brk =>
      obtain ⟨τ2, G2, J2, q⟩ := hsp
      exact ⟨τ2, G2, J2.ofTry okX, q⟩
    | cont =>
      obtain ⟨τ2, G2, J2, q⟩ := hsp
      exact ⟨τ2, G2, J2.ofTry okX, q⟩
end
end PV
end
section
set_option Elab.async false
set_option linter.all false
set_option maxRecDepth 100000
set_option maxHeartbeats 2000000
/-! FB41: try by the evaluator. -/
namespace PV
open PySem PySem.Spec PyProof.Rows L2
section
variable (K : PySem.W.Frag) (ca : Nat → Addr)
/-- a suite behind 'as', its name at slot i; g: what it does, by the exception's class and fields -/
def rdX (P : Pr) (i : Nat) (g : Nat → List (Str × D) → Env → Sto → SRes) : ClT := fun z cl dd Dn τ G => ∃ c fs m st env, isExc P c = true ∧ cl = .ref (ca c) ∧ RS K ca m G st ∧ RE K ca m G env τ ∧ env[i]? = some none ∧ τ[i]? = some (some (.ref z)) ∧ RX K ca m G fs dd ∧
  PostS K ca W0 m G (g c fs env st) Dn
def rdN (f : Env → Sto → SRes) : ClT := fun _ _ _ => rdS K ca W0 f
end
/-- a suite without exceptions -/
def noxS (r : SRes) : SRes := match r with
  | .ok f e s => .ok f e s
  | _ => .bad
def offS (i : Nat) (r : SRes) : SRes := match r with
  | .ok f e s => .ok f (e.set i none) s
  | _ => .bad
section
variable (P : Pr) (F : Bool → Nat → List D → M D) (FL : Nat → Env → M D) (X : Cx) (ca : Nat → Addr)
def toCl (h : Nat × Option Nat × List S) : Value × Option Nat × ClT := (.ref (ca h.1), h.2.1, match h.2.1 with
  | none => rdN X.K ca fun env s => noxS (exSs P F FL env h.2.2 s)
  | some i => rdX X.K ca P i fun c fs env s => offS i (exSs P F FL (env.set i (some (.exv c fs))) h.2.2 s))
def ExmOk (K : PySem.W.Frag) : Prop := ∀ c k, isExc P c = true → isExc P k = true → PySem.W.exmOne K (.ref (ca c)) (.ref (ca k)) = some (decide (k = c))
end
section
variable {P : Pr} {F : Bool → Nat → List D → M D} {FL : Nat → Env → M D} {X : Cx} {ca : Nat → Addr} {W : WX} {m : Mp} {H : Hp} {D0 : Ends}
theorem PostS.nox {K : PySem.W.Frag} {r : SRes} (p : PostS K ca W m H (noxS r) D0) : PostS K ca W0 m H (noxS r) D0 := by
  cases r with
  | ok f e s => cases f <;> exact p
  | ex c fs e s => exact p.elim
  | bad => exact p.elim
theorem RE.off {K : PySem.W.Frag} {i : Nat} {e : Env} {τ : L2.St} {m : Mp} {H : Hp} (h : RE K ca m H (e.set i none) τ) (o : Option V) : RE K ca m H (e.set i none) (τ.set i o) := by
  refine ⟨by rw [h.1]; simp, fun j d hd => ?_⟩
  have hj : j ≠ i := fun z => by
    subst z
    by_cases hl : j < e.length
    · rw [List.getElem?_set_self hl] at hd; cases hd
    · rw [List.getElem?_eq_none (by simpa using hl)] at hd; cases hd
  obtain ⟨v, q, r⟩ := h.2 j d hd
  exact ⟨v, by rw [List.getElem?_set_ne (Ne.symm hj)]; exact q, r⟩
theorem PostS.off {K : PySem.W.Frag} {i : Nat} {r : SRes} (p : PostS K ca W m H (offS i r) D0) : PostS K ca W0 m H (offS i r) (offE i D0) := by
  cases r with
  | ok f e s =>
    cases f with
    | rt d => exact p
    | nx => exact fun m' H' σ' a b c => p m' H' (σ'.set i none) a (b.off none) c
    | br => exact fun m' H' σ' a b c => p m' H' (σ'.set i none) a (b.off none) c
    | co => exact fun m' H' σ' a b c => p m' H' (σ'.set i none) a (b.off none) c
  | ex c fs e s => exact p.elim
  | bad => exact p.elim
theorem RE.clr {K : PySem.W.Frag} {i : Nat} {e : Env} {τ : L2.St} {m : Mp} {H : Hp} (h : RE K ca m H e τ) : RE K ca m H (e.set i none) τ := by
  refine ⟨by simpa using h.1, fun j d hd => ?_⟩
  have hj : j ≠ i := fun z => by
    subst z
    by_cases hl : j < e.length
    · rw [List.getElem?_set_self hl] at hd; cases hd
    · rw [List.getElem?_eq_none (by simpa using hl)] at hd; cases hd
  rw [List.getElem?_set_ne (Ne.symm hj)] at hd
  exact h.2 j d hd
theorem set_set {α : Type} (l : List α) (i : Nat) (a b : α) : (l.set i a).set i b = l.set i b := by simp
theorem cl_go (hx : ExmOk P ca X.K) {c : Nat} {fs : List (Str × D)} {e : Env} {st : Sto} {dd : Option Addr} {τ : L2.St} (rs : RS X.K ca m H st) (re : RE X.K ca m H e τ) (rx : RX X.K ca m H fs dd) :
    ∀ (hs : List (Nat × Option Nat × List S)), PostS X.K ca W m H (exH P F FL c fs e hs st) D0 → wCl X.K W D0 (hs.map (toCl P F FL X ca)) (.ref (ca c)) dd τ H := by
  intro hs
  induction hs with
  | nil =>
    intro p
    unfold exH at p
    exact p m H τ dd rs re rx (Ext.refl _ _)
  | cons h r ih =>
    intro p
    obtain ⟨k, i, su⟩ := h
    unfold exH at p
    cases g : (isExc P c && isExc P k) with
    | false => rw [g] at p; exact p.elim
    | true =>
      rw [g] at p
      rw [Bool.and_eq_true] at g
      refine ⟨decide (k = c), hx c k g.1 g.2, fun q z hz => ?_, fun q => ?_⟩
      · rw [q] at p
        cases i with
        | none =>
          have p : PostS X.K ca W m H (noxS (exSs P F FL e su st)) D0 := by
            cases w : exSs P F FL e su st <;> (rw [w] at p; exact p)
          exact ⟨m, st, e, rs, re, p.nox⟩
        | some i =>
          dsimp only at p
          cases hl : decide (i < e.length) with
          | false => rw [hl] at p; exact p.elim
          | true =>
            rw [hl] at p
            have hl := of_decide_eq_true hl
            have p : PostS X.K ca W m H (offS i (exSs P F FL ((e.set i none).set i (some (.exv c fs))) su st)) D0 := by
              rw [set_set]
              cases w : exSs P F FL (e.set i (some (.exv c fs))) su st <;> (rw [w] at p; exact p)
            refine ⟨c, fs, m, st, e.set i none, g.1, rfl, rs, re.clr.off _, List.getElem?_set_self hl, ?_, rx, p.off⟩
            exact List.getElem?_set_self (by rw [← re.1]; exact hl)
      · rw [q] at p
        exact ih p
theorem ps_ty {body : List Stmt} {h₀ : ExceptHandler} {hds : List ExceptHandler} {pos : Pos} {fb : Env → Sto → SRes} {hs : List (Nat × Option Nat × List S)} (hst : X.stack = X.env :: X.outer) (hf : X.env.frame = some X.env.locals) (hN : X.N.Nodup) (tk : Takes X W) (hx : ExmOk P ca X.K)
    (hb : ∀ (W' : WX) (q : List (Addr × Obj)) (xe : Value → Shared → Prop), Takes (X.tr q xe) W' → PassesOwn (model X.prog X.w) X.A X.env xe → PSs (X.tr q xe) body (rdS X.K ca W' fb))
    (hh : ClsOf X (h₀ :: hds) (hs.map (toCl P F FL X ca))) : PS X (.Try body (h₀ :: hds) [] [] pos) (rdS X.K ca W fun env s => match fb env s with
      | .ex c fs e s => exH P F FL c fs e hs s
      | r => r) := by
  refine (ps_trys hst hf hN tk (tb := fun W' => rdS X.K ca W' fb) hb hh).imp fun D σ H ⟨m, st, env, r, re, p⟩ => ?_
  refine ⟨m, st, env, r, re, ?_⟩
  have p : PostS X.K ca W m H (match fb env st with
      | .ex c fs e s => exH P F FL c fs e hs s
      | r => r) D := p
  cases w : fb env st with
  | ok f e s =>
    rw [w] at p
    cases f <;> exact p
  | ex c fs e s =>
    rw [w] at p
    exact fun m' H' σ' dd a b x ex => cl_go hx a b x hs (PostS.at p ex)
  | bad => rw [w] at p; exact p
end
end PV
end
section
set_option Elab.async false
set_option linter.all false
set_option maxRecDepth 100000
set_option maxHeartbeats 2000000
/-! FB42: suites behind 'as': x = ["text", e.f], return e.f, return [e.f]. -/
namespace PV
open PySem PySem.Spec PyProof.Rows L2
def fldOf (fs : List (Str × D)) : Sum Str Str → Option D
  | .inl x => some (.v (.str x))
  | .inr f => fget fs f
def elems (fs : List (Str × D)) : List (Sum Str Str) → Option (List D)
  | [] => some []
  | g :: r => match fldOf fs g, elems fs r with
    | some d, some ds => some (d :: ds)
    | _, _ => none
/-- of an own exception its fields are read -/
def XfOk (P : Pr) (ca : Nat → Addr) (K : PySem.W.Frag) (f : Str) : Prop := ∀ c, isExc P c = true → XfC K (ca c) ∧ PySem.W.findIn K (.ref (ca c)) f = some none
section
variable (P : Pr) (K : PySem.W.Frag) (ca : Nat → Addr) (i : Nat) (z : Addr) (cl : Value) (dd : Option Addr)
def rXL (gs : List (Sum Str Str)) : TA := fun σ G Q => ∃ c fs m st env, isExc P c = true ∧ cl = .ref (ca c) ∧ RS K ca m G st ∧ RE K ca m G env σ ∧ σ[i]? = some (some (.ref z)) ∧ RX K ca m G fs dd ∧ ∃ ds, elems fs gs = some ds ∧ ∀ vs, RDs K ca m G ds vs → Q vs G
def rX1 (f : Str) : TE := fun σ G Q => ∃ c fs m st env, isExc P c = true ∧ cl = .ref (ca c) ∧ RS K ca m G st ∧ RE K ca m G env σ ∧ σ[i]? = some (some (.ref z)) ∧ RX K ca m G fs dd ∧ ∃ d, fget fs f = some d ∧ ∀ v, RD K ca m G d v → Q v G
end
theorem rdf_get {K : PySem.W.Frag} {ca : Nat → Addr} {m : Mp} {H : Hp} {f : Str} : ∀ {fs : List (Str × D)} {gs : List (Str × V)} {d : D}, RDf K ca m H fs gs → fget fs f = some d → ∃ v, gs.lookup f = some v ∧ RD K ca m H d v
  | _, _, _, .nil, e => by cases e
  | _, _, d, @RDf.cons _ _ _ _ g t v r gs h h2, e => by
    unfold fget at e
    by_cases hg : f = g
    · subst hg
      rw [if_pos rfl] at e
      cases e
      exact ⟨v, by simp [List.lookup], h⟩
    · rw [if_neg hg] at e
      obtain ⟨w, q1, q2⟩ := rdf_get h2 e
      have : (f == g) = false := by simpa using hg
      exact ⟨w, by simp [List.lookup, this, q1], q2⟩
section
variable {P : Pr} {X : Cx} {ca : Nat → Addr} {i : Nat} {z : Addr} {ob : Obj} {cl : Value} {dd : Option Addr} {q : List (Addr × Obj)}
/-- e.f -/
theorem pe_x1 {n f : Str} {p pos : Pos} (hx : XfOk P ca X.K f) (hz : Zc cl dd ob) (hd : ∃ vs, ob.data = .fields vs) (hN : X.N[i]? = some n) (hv : Vis X.env.scope n) (n1 : (n == ("__debug__" : Str)) = false) (n2 : (n == ("__classdict__" : Str)) = false)
    (hb : attributeBase (.Name n p) f X.env (eval (.Name n p) X.env) = eval (.Name n p) X.env) : PE (X.suite z ((z, ob) :: q)) (.Attribute (.Name n p) f pos) (rX1 P X.K ca i z cl dd f) := by
  by_cases h : ∃ c, isExc P c = true ∧ cl = .ref (ca c)
  · obtain ⟨c, h1, h2⟩ := h
    refine (pe_xf (X := X) (C := ca c) (hx c h1).1 (hx c h1).2 hz hd (pe_var (X := X.suite z ((z, ob) :: q)) hN hv n1 n2) hb).imp fun σ G Q ⟨c', fs, m, st, env, _, _, rs, re, hs, rx, d, e, k⟩ => ?_
    obtain ⟨a, gs, e1, e2, e3⟩ := rx
    obtain ⟨v, l1, l2⟩ := rdf_get e3 e
    exact ⟨.ref z, hs, rfl, h2, a, gs, v, e1, e2, l1, k v l2⟩
  · exact ⟨fun pins s σ H Q I ⟨c, _, _, _, _, h1, h2, _⟩ => absurd ⟨c, h1, h2⟩ h⟩
theorem pa_xn : PA (X.suite z ((z, ob) :: q)) [] (rXL P X.K ca i z cl dd []) :=
  pa_nil.imp fun σ H Q ⟨_, _, _, _, _, _, _, _, _, _, _, ds, e, k⟩ => by cases e; exact k [] .nil
theorem pa_xs {x : Str} {j : Nat} {p : Pos} {es : List Expr} {gs : List (Sum Str Str)} (ok : okS x = true) (h : PA (X.suite z ((z, ob) :: q)) es (rXL P X.K ca i z cl dd gs)) : PA (X.suite z ((z, ob) :: q)) (.Constant (.str x) j p :: es) (rXL P X.K ca i z cl dd (.inl x :: gs)) :=
  (pa_cons pe_str h).imp fun σ H Q ⟨c, fs, m, st, env, h1, h2, rs, re, hs, rx, ds, e, k⟩ => by
    unfold elems fldOf at e
    dsimp only at e
    cases w : elems fs gs with
    | none => rw [w] at e; cases e
    | some dr =>
      rw [w] at e
      cases e
      exact ⟨c, fs, m, st, env, h1, h2, rs, re, hs, rx, dr, w, fun vs r => k _ (.cons (.v (.str x ok)) r)⟩
theorem pa_xf {f : Str} {e : Expr} {es : List Expr} {gs : List (Sum Str Str)} (he : PE (X.suite z ((z, ob) :: q)) e (rX1 P X.K ca i z cl dd f)) (h : PA (X.suite z ((z, ob) :: q)) es (rXL P X.K ca i z cl dd gs)) (hn : notStar e = true) :
    PA (X.suite z ((z, ob) :: q)) (e :: es) (rXL P X.K ca i z cl dd (.inr f :: gs)) :=
  (pa_cons he h (starEach_no hn)).imp fun σ H Q ⟨c, fs, m, st, env, h1, h2, rs, re, hs, rx, ds, e, k⟩ => by
    unfold elems fldOf at e
    dsimp only at e
    cases w1 : fget fs f with
    | none => rw [w1] at e; cases e
    | some d =>
      cases w : elems fs gs with
      | none => rw [w1, w] at e; cases e
      | some dr =>
        rw [w1, w] at e
        cases e
        exact ⟨c, fs, m, st, env, h1, h2, rs, re, hs, rx, d, w1, fun v r => ⟨c, fs, m, st, env, h1, h2, rs, re, hs, rx, dr, w, fun vs r2 => k _ (.cons r r2)⟩⟩
end
end PV
end
section
set_option Elab.async false
set_option linter.all false
set_option maxRecDepth 100000
set_option maxHeartbeats 2000000
/-! FB43: the suites' statements. -/
namespace PV
open PySem PySem.Spec PyProof.Rows L2
section
variable (P : Pr) (K : PySem.W.Frag) (ca : Nat → Addr) (i : Nat) (z : Addr) (cl : Value) (dd : Option Addr)
def rXE (f : List (Str × D) → M D) : TE := fun σ G Q => ∃ c fs m st env, isExc P c = true ∧ cl = .ref (ca c) ∧ RS K ca m G st ∧ RE K ca m G env σ ∧ σ[i]? = some (some (.ref z)) ∧ RX K ca m G fs dd ∧ Post K ca W0 σ m G (f fs st) Q
end
theorem elems_len {fs : List (Str × D)} : ∀ {gs : List (Sum Str Str)} {ds : List D}, elems fs gs = some ds → ds.length = gs.length
  | [], _, e => by cases e; rfl
  | g :: r, ds, e => by
    unfold elems at e
    cases w1 : fldOf fs g with
    | none => rw [w1] at e; cases e
    | some d =>
      cases w : elems fs r with
      | none => rw [w1, w] at e; cases e
      | some dr =>
        rw [w1, w] at e
        cases e
        rw [List.length_cons, List.length_cons, elems_len w]
/-- a list of texts and fields -/
def lstX (mu : Bool) (gs : List (Sum Str Str)) (fs : List (Str × D)) : M D := match elems fs gs with
  | some ds => mkL mu ds
  | none => M.bad
section
variable {P : Pr} {X : Cx} {ca : Nat → Addr} {i : Nat} {z : Addr} {ob : Obj} {cl : Value} {dd : Option Addr} {q : List (Addr × Obj)}
theorem pe_xl {mu : Bool} {es : List Expr} {gs : List (Sum Str Str)} {pos : Pos} (h : PA (X.suite z ((z, ob) :: q)) es (rXL P X.K ca i z cl dd gs)) (hl : gs.length ≤ 1000) : PE (X.suite z ((z, ob) :: q)) (.List es pos) (rXE P X.K ca i z cl dd (lstX mu gs)) :=
  (pe_lst h).imp fun σ H Q ⟨c, fs, m, st, env, h1, h2, rs, re, hs, rx, p⟩ => by
    unfold lstX at p
    cases w : elems fs gs with
    | none => rw [w] at p; exact p.elim
    | some ds =>
      rw [w] at p
      have l : ds.length ≤ sizeLine := by rw [elems_len w, sizeLine_eq]; omega
      exact ⟨c, fs, m, st, env, h1, h2, rs, re, hs, rx, ds, w, fun vs r => ⟨by rw [← r.len]; exact l, fun p1 hp => mkL_new rs r l hp p⟩⟩
theorem pe_xv {f : Str} {e : Expr} (h : PE (X.suite z ((z, ob) :: q)) e (rX1 P X.K ca i z cl dd f)) : PE (X.suite z ((z, ob) :: q)) e (rXE P X.K ca i z cl dd fun fs => M.opt (fget fs f)) :=
  h.imp fun σ H Q ⟨c, fs, m, st, env, h1, h2, rs, re, hs, rx, p⟩ => by
    dsimp only at p
    cases w : fget fs f with
    | none => rw [w] at p; exact p.elim
    | some d =>
      rw [w] at p
      exact ⟨c, fs, m, st, env, h1, h2, rs, re, hs, rx, d, w, fun v r => p m H v rs r (Ext.refl _ _)⟩
/-- return E -/
theorem px_rt {e : Expr} {pos : Pos} {f : List (Str × D) → M D} (he : PE (X.suite z ((z, ob) :: q)) e (rXE P X.K ca i z cl dd f)) : PSs (X.suite z ((z, ob) :: q)) [.Return (some e) pos] (rdX X.K ca P i (fun _ fs env st => withE env (f fs st) fun d s => .ok (.rt d) env s) z cl dd) := by
  refine (pss_cons (ps_ret he) pss_nil).imp fun D σ H ⟨c, fs, m, st, env, h1, h2, rs, re, he, hs, rx, p⟩ => ?_
  refine ⟨c, fs, m, st, env, h1, h2, rs, re, hs, rx, (PostS.withE re p).mono fun v H1 ⟨m1, st1, d, r1, d1, e1, p1⟩ => ?_⟩
  exact p1 m1 H1 v r1 d1 (Ext.refl _ _)
/-- x = E -/
theorem px_as {x : Str} {e : Expr} {p pos : Pos} {j : Nat} {f : List (Str × D) → M D} (hN : X.N.Nodup) (hj : X.N[j]? = some x) (hx : X.env.scope.names.lookup x = some .local) (he : PE (X.suite z ((z, ob) :: q)) e (rXE P X.K ca i z cl dd f)) (hs : notComp e = true) (hw : swappedStores [.Name x p] e X.env = pure none) :
    PSs (X.suite z ((z, ob) :: q)) [.Assign [.Name x p] e pos] (rdX X.K ca P i (fun _ fs env st => withE env (f fs st) fun d s => match decide (j < env.length) with
      | true => .ok .nx (env.set j (some d)) s
      | false => .bad) z cl dd) := by
  refine (pss_cons (ps_asg he (pg_nm (X := X.suite z ((z, ob) :: q)) (ca := ca) hN hj (.inl hx) (.inr hx)) (show swapsWith e (some (.Name x p)) pos.line X.env = pure false from sw_no hs) hw rfl) pss_nil).imp fun D σ H ⟨c, fs, m, st, env, h1, h2, rs, re, he, hs, rx, p⟩ => ?_
  refine ⟨c, fs, m, st, env, h1, h2, rs, re, hs, rx, (PostS.withE re p).mono fun v H1 ⟨m1, st1, d, r1, d1, e1, p1⟩ => ?_⟩
  cases hl : decide (j < env.length) with
  | false => rw [hl] at p1; exact p1.elim
  | true =>
    rw [hl] at p1
    refine ⟨m1, st1, env, d, r1, re.ext e1, d1, env.set j (some d), by unfold bindP; rw [hl], fun σ' r' _ => ?_⟩
    exact p1 m1 H1 σ' r1 r' (Ext.refl _ _)
end
end PV
end
section
set_option Elab.async false
set_option linter.all false
set_option maxRecDepth 100000
set_option maxHeartbeats 2000000
/-! FB44: the suites' core text computed. -/
namespace PV
open PySem PySem.Spec PyProof.Rows L2
def toItem (i : Nat) : Sum Str Str → Bool × C
  | .inl x => (false, .str x)
  | .inr f => (false, .attr (.var i) f)
def ofItem (i : Nat) : Bool × C → Option (Sum Str Str)
  | (false, .str x) => some (.inl x)
  | (false, .attr (.var k) f) => match decide (k = i) with
    | true => some (.inr f)
    | false => none
  | _ => none
theorem ofItem_ok {i : Nat} {e : Bool × C} {g : Sum Str Str} (h : ofItem i e = some g) : e = toItem i g := by
  unfold ofItem at h
  split at h
  · cases h; rfl
  · rename_i k f
    split at h
    · rename_i q
      cases h
      rw [of_decide_eq_true q]; rfl
    · cases h
  · cases h
def ofItems (i : Nat) : List (Bool × C) → Option (List (Sum Str Str))
  | [] => some []
  | e :: r => match ofItem i e, ofItems i r with
    | some g, some gs => some (g :: gs)
    | _, _ => none
theorem ofItems_ok {i : Nat} : ∀ {es : List (Bool × C)} {gs : List (Sum Str Str)}, ofItems i es = some gs → es = gs.map (toItem i)
  | [], gs, h => by cases h; rfl
  | e :: r, gs, h => by
    unfold ofItems at h
    cases w1 : ofItem i e with
    | none => rw [w1] at h; cases h
    | some g =>
      cases w2 : ofItems i r with
      | none => rw [w1, w2] at h; cases h
      | some l =>
        rw [w1, w2] at h
        cases h
        rw [List.map_cons, ofItem_ok w1, ofItems_ok w2]
section
variable {P : Pr} {F : Bool → Nat → List D → M D} {FL : Nat → Env → M D} {i c : Nat} {fs : List (Str × D)} {env : Env} {st : Sto}
theorem ev_xf {f : Str} (hl : i < env.length) : ev P F FL (env.set i (some (.exv c fs))) (.attr (.var i) f) st = M.opt (fget fs f) st := by
  have h : (env.set i (some (D.exv c fs)))[i]? = some (some (D.exv c fs)) := List.getElem?_set_self hl
  unfold ev
  unfold ev
  unfold M.bind
  rw [h]
  rfl
theorem evst_x (hl : i < env.length) : ∀ (gs : List (Sum Str Str)), evst P F FL (env.set i (some (.exv c fs))) (gs.map (toItem i)) st = match elems fs gs with
    | some ds => .ok ds st
    | none => .bad
  | [] => by unfold evst; rfl
  | .inl x :: r => by
    have ih := evst_x hl r
    show evst P F FL (env.set i (some (.exv c fs))) ((false, C.str x) :: r.map (toItem i)) st = _
    unfold evst ev
    show (Res.bind (evst P F FL (env.set i (some (.exv c fs))) (r.map (toItem i)) st) _) = _
    rw [ih, show elems fs (.inl x :: r) = (elems fs r).map fun ds => D.v (.str x) :: ds from by
      rw [elems]
      cases elems fs r <;> rfl]
    cases elems fs r <;> rfl
  | .inr f :: r => by
    have ih := evst_x hl r
    show evst P F FL (env.set i (some (.exv c fs))) ((false, C.attr (.var i) f) :: r.map (toItem i)) st = _
    unfold evst
    unfold M.bind
    rw [ev_xf hl, show elems fs (.inr f :: r) = (fget fs f).bind fun d => (elems fs r).map fun ds => d :: ds from by
      rw [elems, fldOf]
      cases fget fs f <;> cases elems fs r <;> rfl]
    cases w : fget fs f with
    | none => rfl
    | some d =>
      show (Res.bind (evst P F FL (env.set i (some (.exv c fs))) (r.map (toItem i)) st) _) = _
      rw [ih]
      cases elems fs r <;> rfl
theorem fewS_x {i : Nat} (gs : List (Sum Str Str)) (ds : List D) : fewS (gs.map (toItem i)) ds = true := by
  have : (gs.map (toItem i)).any (fun p => p.1) = false := by
    rw [List.any_eq_false]
    intro p hp
    obtain ⟨g, _, rfl⟩ := List.mem_map.mp hp
    cases g <;> exact Bool.false_ne_true
  unfold fewS
  rw [this]
  rfl
theorem ev_xl {mu : Bool} {gs : List (Sum Str Str)} (hl : i < env.length) : ev P F FL (env.set i (some (.exv c fs))) (.lst mu (gs.map (toItem i))) st = lstX mu gs fs st := by
  unfold ev
  unfold M.bind
  rw [evst_x hl]
  unfold lstX
  cases elems fs gs with
  | none => rfl
  | some ds =>
    show (Res.bind (guardM (fewS (gs.map (toItem i)) ds) st) _) = _
    rw [fewS_x]
    rfl
/-- expressions of a suite: a field, a list of texts and fields -/
inductive XE0 where | f (f : Str) | l (mu : Bool) (gs : List (Sum Str Str))
def XE0.core (i : Nat) : XE0 → C
  | .f x => .attr (.var i) x
  | .l mu gs => .lst mu (gs.map (toItem i))
def XE0.sem : XE0 → List (Str × D) → M D
  | .f x => fun fs => M.opt (fget fs x)
  | .l mu gs => lstX mu gs
theorem ev_x0 (e : XE0) (hl : i < env.length) : ev P F FL (env.set i (some (.exv c fs))) (e.core i) st = e.sem fs st := by
  cases e with
  | f f => exact ev_xf hl
  | l mu gs => exact ev_xl hl
theorem g_quiet (e : XE0) {c' : Nat} {fs' : List (Str × D)} {s' : Sto} : e.sem fs st ≠ .ex c' fs' s' := by
  cases e with
  | f f =>
    show M.opt (fget fs f) st ≠ _
    cases fget fs f <;> exact fun h => by cases h
  | l mu gs =>
    show lstX mu gs fs st ≠ _
    unfold lstX
    cases elems fs gs with
    | none => exact fun h => by cases h
    | some ds => exact mkL_q
theorem set_off {o : Option D} (h : env[i]? = some none) : (env.set i o).set i none = env := by
  rw [List.set_set]
  refine List.ext_getElem? fun j => ?_
  by_cases hj : i = j
  · subst hj
    have hl : i < env.length := (List.getElem?_eq_some_iff.mp h).1
    rw [List.getElem?_set_self hl, h]
  · rw [List.getElem?_set_ne hj]
theorem ret_x (e : XE0) (h : env[i]? = some none) : offS i (exSs P F FL (env.set i (some (.exv c fs))) [.ret (e.core i)] st) = withE env (e.sem fs st) fun d s => .ok (.rt d) env s := by
  have hl : i < env.length := (List.getElem?_eq_some_iff.mp h).1
  unfold exSs exS
  rw [ev_x0 e hl]
  cases w : e.sem fs st with
  | ok d s =>
    show SRes.ok _ _ _ = SRes.ok _ _ _
    rw [set_off h]
  | ex c' fs' s' => exact absurd w (g_quiet e)
  | bad => rfl
theorem asg_x (e : XE0) {j : Nat} (hj : j ≠ i) (h : env[i]? = some none) : offS i (exSs P F FL (env.set i (some (.exv c fs))) [.asg (.pt (.nm j)) (e.core i)] st) = withE env (e.sem fs st) fun d s => match decide (j < env.length) with
      | true => .ok .nx (env.set j (some d)) s
      | false => .bad := by
  have hl : i < env.length := (List.getElem?_eq_some_iff.mp h).1
  unfold exSs exS
  rw [ev_x0 e hl]
  cases w : e.sem fs st with
  | ok d s =>
    unfold store
    show offS i (SRes.bind (withE _ (M.opt (bindP s (.nm j) d (env.set i (some (.exv c fs)))) s) _) _) = _
    unfold bindP
    rw [List.length_set]
    cases q : decide (j < env.length) with
    | false => rfl
    | true =>
      show offS i (exSs P F FL ((env.set i (some (.exv c fs))).set j (some d)) [] s) = SRes.ok .nx (env.set j (some d)) s
      unfold exSs
      show SRes.ok _ _ _ = SRes.ok _ _ _
      rw [List.set_comm _ _ (Ne.symm hj), set_off]
      rw [List.getElem?_set_ne hj]
      exact h
  | ex c' fs' s' => exact absurd w (g_quiet e)
  | bad => rfl
end
section
variable {P : Pr} {F : Bool → Nat → List D → M D} {FL : Nat → Env → M D} {K : PySem.W.Frag} {ca : Nat → Addr} {i : Nat} {z : Addr} {cl : Value} {dd : Option Addr}
theorem rdX.to {g g' : Nat → List (Str × D) → Env → Sto → SRes} (h : ∀ c fs env st, env[i]? = some none → g' c fs env st = g c fs env st) (D : Ends) (τ : L2.St) (G : Hp) (q : rdX K ca P i g' z cl dd D τ G) : rdX K ca P i g z cl dd D τ G := by
  obtain ⟨c, fs, m, st, env, h1, h2, rs, re, he, hs, rx, p⟩ := q
  rw [h c fs env st he] at p
  exact ⟨c, fs, m, st, env, h1, h2, rs, re, he, hs, rx, p⟩
end
end PV
end
section
set_option Elab.async false
set_option linter.all false
set_option maxRecDepth 100000
set_option maxHeartbeats 2000000
/-! FB45: a set of texts, from a list or a tuple, texts that stand twice among them. -/
namespace PV
open PySem PySem.Spec PyProof.Rows
/-- the texts met among the first i -/
def metS (zs : List Str) (i : Nat) : List Str := uniq [] (zs.take i)
theorem uniq_add : ∀ (l : List Str) (seen : List Str) (x : Str), uniq seen (l ++ [x]) = match (uniq seen l).any fun y => decide (y = x) with
    | true => uniq seen l
    | false => uniq seen l ++ [x]
  | [], seen, x => by
    show uniq seen [x] = _
    unfold uniq
    cases h : seen.any fun y => decide (y = x) <;> (unfold uniq; simp [h, uniq])
  | y :: l, seen, x => by
    show uniq seen (y :: (l ++ [x])) = _
    rw [uniq]
    cases h : seen.any fun z => decide (z = y) with
    | true =>
      have e : uniq seen (y :: l) = uniq seen l := by rw [uniq, h]
      rw [e]
      exact uniq_add l seen x
    | false =>
      have e : uniq seen (y :: l) = uniq (seen ++ [y]) l := by rw [uniq, h]
      rw [e]
      exact uniq_add l (seen ++ [y]) x
theorem uniq_len : ∀ (l : List Str) (seen : List Str), (uniq seen l).length ≤ seen.length + l.length
  | [], seen => by simp [uniq]
  | y :: l, seen => by
    rw [uniq]
    cases h : seen.any fun z => decide (z = y) with
    | true =>
      have := uniq_len l seen
      simp only [List.length_cons]
      omega
    | false =>
      have := uniq_len l (seen ++ [y])
      simp only [List.length_append, List.length_cons, List.length_nil] at this ⊢
      omega
theorem metS_len (zs : List Str) (i : Nat) : (metS zs i).length ≤ i := by
  have := uniq_len (zs.take i) []
  unfold metS
  simp only [List.length_nil, List.length_take] at this
  omega
theorem metS_succ {zs : List Str} {i : Nat} (h : i < zs.length) : metS zs (i + 1) = match (metS zs i).any fun y => decide (y = zs.getD i Str.empty) with
    | true => metS zs i
    | false => metS zs i ++ [zs.getD i Str.empty] := by
  unfold metS
  rw [List.take_succ, List.getElem?_eq_getElem h]
  simp only [Option.toList_some]
  rw [uniq_add]
  have : zs.getD i Str.empty = zs[i] := by simp [List.getD, h]
  rw [this]
section
variable {prog : Program} {w : World} {Ar : Around} {R : Result → Shared → Prop} {it : Addr} {fp wr : List Addr} {G : Array GenState → Array GenState → Prop} {n : Nat} {P : Nat → Value → Prop} {St : Nat → Shared → Prop}
/-- what the set holds behind i items -/
abbrev SetAt (prog : Program) (w : World) (h : Heap) (a : Addr) (zs : List Str) (i : Nat) : Prop := h.SetOf (PySem.strKind prog w) a (fun ky => (metS zs i).any fun y => decide (y = ky)) (metS zs i).length
theorem SetAt.moved {h g : Heap} {a : Addr} {zs : List Str} {i : Nat} (x : SetAt prog w h a zs i) (k : ∀ o, h.get? a = some o → g.get? a = some o) : SetAt prog w g a zs i := by
  obtain ⟨o, es, ep, t, ho, rest⟩ := x
  exact ⟨o, es, ep, t, k o ho, rest⟩
theorem set_turns (Wk : WalksS prog w Ar.in1 it fp wr G n P St) (a : Addr) (ha : a ∉ fp) (zs : List Str) (hz : zs.length = n) (few : n + 1 < scanBound) (val : ∀ i v, P i v → ∃ t, v = .str (zs.getD i Str.empty) t) :
    ∀ (k i : Nat) (u : Shared), n - i = k → i ≤ n → St i u → SetAt prog w u.heap a zs i → (∀ u2, Moved (a :: wr) G u u2 → SetAt prog w u2.heap a zs n → R (.ok (.ret .none)) u2) →
      codeAny (model prog w) Ar (.builtin "set.update.loop" ⟨[.ref a, .ref it], []⟩) R u := by
  have nw : a ∉ wr := fun h => ha (Wk.sub _ h)
  have sb : ∀ b ∈ wr, b ∈ a :: wr := fun b hb => .tail _ hb
  intro k
  induction k with
  | zero =>
    intro i u hk hi st sa out
    have e : i = n := by omega
    subst e
    refine codeAny_builtin PyProof.Rows.F.entry_set_update_loop ?_
    rw [Around.under_plainId PyProof.Rows.F.plain_set_update_loop _]
    show wpAny _ Ar.in1 (pyNext (.ref it) >>= _) _ _ u
    refine wpAny_bind (Wk.done u _ _ st fun u2 mv => ?_)
    show wpAny _ Ar.in1 (ret Value.none) _ _ u2
    exact wpAny_pure (out u2 (mv.mono sb) (sa.moved fun o q => mv.heap a o nw q))
  | succ k ih =>
    intro i u hk hi st sa out
    have lt : i < n := by omega
    refine codeAny_builtin PyProof.Rows.F.entry_set_update_loop ?_
    rw [Around.under_plainId PyProof.Rows.F.plain_set_update_loop _]
    show wpAny _ Ar.in1 (pyNext (.ref it) >>= _) _ _ u
    refine wpAny_bind (Wk.item i u _ _ lt st fun v u2 hP st2 mv => ?_)
    obtain ⟨t, rfl⟩ := val i v hP
    have sa2 := sa.moved fun o q => mv.heap a o nw q
    show wpAny _ Ar.in1 (holding [Value.str (zs.getD i Str.empty) t] (setAdd a (.str (zs.getD i Str.empty) t)) >>= _) _ _ u2
    refine wpAny_bind (wpAny_holding ?_)
    unfold setAdd
    refine wpAny_holding ?_
    refine wpAny_bind ((PySem.strKind prog w).pyHash (k := zs.getD i Str.empty) (strKind_is _ _ _ _) ?_)
    have room : (metS zs i).length + 1 < scanBound := by have := metS_len zs i; omega
    refine wpAny_setAddHashed_of (knd := PySem.strKind prog w) (s := { u2 with toks := u2.toks + 1 }) (strKind_is _ _ _ _) rfl sa2 room fun g hsb s3 => ?_
    have s4 : SetAt prog w g a zs (i + 1) := by
      refine SetOf_congr s3 (fun ky => ?_) ?_
      · rw [metS_succ (by omega)]
        cases q : (metS zs i).any fun y => decide (y = zs.getD i Str.empty) with
        | false => simp [eq_comm]
        | true =>
          dsimp only
          by_cases e : ky = zs.getD i Str.empty
          · subst e; rw [q]; rfl
          · rw [decide_eq_false e, Bool.or_false]
      · rw [metS_succ (by omega)]
        cases q : (metS zs i).any fun y => decide (y = zs.getD i Str.empty) <;> simp
    refine wpAny_pure ⟨plainId_quiet PyProof.Rows.F.plain_set_update_loop _, ih (i + 1) _ (by omega) lt (Wk.frame _ u2 _ _ st2 (Nat.le_succ _) fun b hb o q => ?_) s4 fun u3 mv3 s5 => ?_⟩
    · rw [hsb.2 b (fun z : b = a => ha (by rw [← z]; exact hb))]; exact q
    · refine out u3 (Moved.trans Wk.gtrans ((mv.mono sb).then_heap (Nat.le_succ _) fun b o hb q => ?_) mv3) s5
      rw [hsb.2 b (fun z : b = a => hb (by rw [z]; exact List.mem_cons_self))]; exact q
end
end PV
end
section
set_option Elab.async false
set_option linter.all false
set_option maxRecDepth 100000
set_option maxHeartbeats 2000000
/-! FB46: set(xs) called. -/
namespace PV
open PySem PySem.Spec PyProof.Rows
abbrev emS (lg : Bool) : Obj := { cls := .type "set", dict := none, data := .set #[] 0 (.fresh 0 0 lg) }
section
variable {prog : Program} {w : World} {Ar : Around} {E : Value → Shared → Prop} {u : Shared}
set_option maxHeartbeats 3200000 in
theorem set_of_list {lo : Addr} {its : Array Value} {zs : List Str} {Q : Value → Shared → Prop} (nh : Ar.handled = none) (isq : u.heap.IsList lo its) (are : StrsAre its.toList zs) (few : zs.length + 1 < scanBound)
    (out : ∀ (g : Heap) (tt : Nat), SetAt prog w g u.heap.objs.size zs its.size → (∀ b ob, b < u.heap.objs.size → u.heap.get? b = some ob → g.get? b = some ob) → Q (.ref u.heap.objs.size) { u with heap := g, toks := tt }) :
    wpAny (model prog w) Ar (call (.type "set") [.ref lo]) Q E u := by
  obtain ⟨m1, m2, mro⟩ := PySem.F.called_set.mro
  have mb := PySem.F.called_set.made; have ms := PySem.F.called_set.sub; have nt := PySem.F.called_set.notType; have cc := PySem.F.called_set.canCreate; have tc := PySem.F.typeCall_set_1 (.ref lo)
  refine wpAny_call (codeAny_of_tree (show wpAny _ _ (callAny (.type "set") _) _ _ _ from ?_))
  refine wpAny_pure ⟨Code.quiet_builtin _ (by decide +kernel), codeAny_builtin PySem.F.entry_type_call ?_⟩; rw [Around.under_plain (weight_type_call_type "set" [.ref lo] []) rfl]
  repeat (any_goals (first | assumption | wp_step))
  refine codeAny_mono (code_set_new_1 (.ref lo) (E := E) (Q₁ := fun oj v => ∃ lg : Bool, oj = .ref u.heap.objs.size ∧ v = { u with heap := u.heap.push (emS lg) }) fun lg => ⟨lg, rfl, rfl⟩) fun r v rr => ?_
  rcases r with er | fl
  · exact rr
  cases fl
  any_goals (first | exact False.elim rr | skip)
  obtain ⟨lg, rfl, rfl⟩ := rr
  have atS : (u.heap.push (emS lg)).get? u.heap.objs.size = some (emS lg) := Heap.get?_push_size _ rfl
  have tyS : Shared.TypeIs { u with heap := u.heap.push (emS lg) } (.ref u.heap.objs.size) "set" := ⟨_, atS, rfl⟩
  have il := PySem.F.called_set.init.lookup; have ib := PySem.F.called_set.init.bind (.ref u.heap.objs.size)
  repeat (any_goals (first | assumption | wp_step))
  refine codeAny_mono (codeAny_call_builtin (R := wants (fun r v => r = .none ∧ ∃ g tt, v = { u with heap := g, toks := tt } ∧ SetAt prog w g u.heap.objs.size zs its.size ∧ (∀ b ob, b < u.heap.objs.size → u.heap.get? b = some ob → g.get? b = some ob)) E)
    PySem.F.called_set.init.plain PySem.F.entry_set_init (check_set_init_1 tyS ?_)) fun r2 v2 rr2 => ?_
  · obtain ⟨⟨k1, k2, k3, k4⟩, oAt, oc, nn, od⟩ := isq
    dsimp only at oc od
    subst oc od
    have up : (u.heap.push (emS lg)).get? lo = some { cls := .type "list", dict := k2, data := .seq its nn, slots := k4 } := Heap.get?_push_of_some _ oAt
    have f1 := PySem.F.sub_list_set; have f2 := PySem.F.sub_list_frozenset
    have f3 : (Value.type "list" == Value.type "dict") = false := by decide
    have isq2 : (u.heap.push (emS lg)).IsList lo its := ⟨_, up, rfl, nn, rfl⟩
    unfold Builtin.«set.__init__» noKeywords Builtin.Frozenset.updateFrom
    generalize e0 : pyIter = PI0
    wp_walk
    subst e0
    refine wpAny_pyIter_list isq2 (wpAny_bind (wpAny_runValue ?_))
    have below : lo < u.heap.objs.size := Heap.lt_size oAt
    have nh3 : Ar.in1.in1.in1.handled = none := by simp [nh]
    have sz1 : (u.heap.push (emS lg)).objs.size = u.heap.objs.size + 1 := Heap.size_push ..
    have nI : lo ≠ (u.heap.push (emS lg)).objs.size := by
      rw [sz1]
      exact Nat.ne_of_lt (Nat.lt_succ_of_lt below)
    have nF : u.heap.objs.size ∉ [(u.heap.push (emS lg)).objs.size, lo] := by
      rw [sz1]
      intro hm
      rcases List.mem_cons.mp hm with h | h
      · exact absurd h (Nat.ne_of_lt (Nat.lt_succ_self _))
      · exact absurd (List.mem_singleton.mp h) (Nat.ne_of_gt below)
    have eqn : zs.length = its.size := by rw [← StrsAre.len_eq are, Array.length_toList]
    have val : ∀ (i : Nat) (v : Value), its[i]? = some v → ∃ t, v = .str (zs.getD i Str.empty) t := fun i v hv => SS.strs_at are i v ((Array.getElem?_toList ..).trans hv)
    refine set_turns ((Walks.list nh3 _ lo nI its).toS) u.heap.objs.size nF zs eqn (by omega) val (its.size - 0) 0 _ (by omega) (Nat.zero_le _) ⟨⟨_, Heap.get?_push_size _ rfl, rfl, rfl⟩, (isq2.push _)⟩ ?_ fun u2 mv sa => ?_
    · have at2 : ((u.heap.push (emS lg)).push { cls := .type "list_iterator", data := .fields #[.ref lo, .int 0 0] }).get? u.heap.objs.size = some (emS lg) := Heap.get?_push_of_some _ atS
      exact SetOf_congr ((setObjOf_fresh (knd := PySem.strKind prog w) lg).setOf at2 (by unfold scanBound; omega)) (fun _ => rfl) rfl
    · obtain ⟨g, g2, g3, g4, g5⟩ := u2
      obtain rfl : g2 = u.gens := mv.gens
      obtain rfl : g3 = u.drawn := mv.drawn
      obtain rfl : g5 = u.os := mv.os
      show wpAny _ _ _ _ _ _
      refine wpAny_pure (show wpAny _ _ (ret Value.none) _ _ _ from wpAny_pure ⟨rfl, g, g4, rfl, sa, fun b ob lt q => ?_⟩)
      refine mv.heap b ob (fun hm => ?_) (Heap.get?_push_of_some _ (Heap.get?_push_of_some _ q))
      rw [sz1] at hm
      rcases List.mem_cons.mp hm with h | h
      · exact absurd h (Nat.ne_of_lt lt)
      · exact absurd (List.mem_singleton.mp h) (Nat.ne_of_lt (Nat.lt_succ_of_lt lt))
  · rcases r2 with er | fl2
    · exact rr2
    cases fl2
    any_goals (first | exact False.elim rr2 | skip)
    obtain ⟨rfl, g, tt, rfl, sa, kp⟩ := rr2
    repeat (any_goals (first | assumption | wp_step))
    exact out _ _ sa kp
set_option maxHeartbeats 3200000 in
theorem set_of_tuple {lo : Addr} {its : Array Value} {zs : List Str} {Q : Value → Shared → Prop} (nh : Ar.handled = none) (isq : u.heap.IsTuple lo its) (are : StrsAre its.toList zs) (few : zs.length + 1 < scanBound)
    (out : ∀ (g : Heap) (tt : Nat), SetAt prog w g u.heap.objs.size zs its.size → (∀ b ob, b < u.heap.objs.size → u.heap.get? b = some ob → g.get? b = some ob) → Q (.ref u.heap.objs.size) { u with heap := g, toks := tt }) :
    wpAny (model prog w) Ar (call (.type "set") [.ref lo]) Q E u := by
  obtain ⟨m1, m2, mro⟩ := PySem.F.called_set.mro
  have mb := PySem.F.called_set.made; have ms := PySem.F.called_set.sub; have nt := PySem.F.called_set.notType; have cc := PySem.F.called_set.canCreate; have tc := PySem.F.typeCall_set_1 (.ref lo)
  refine wpAny_call (codeAny_of_tree (show wpAny _ _ (callAny (.type "set") _) _ _ _ from ?_))
  refine wpAny_pure ⟨Code.quiet_builtin _ (by decide +kernel), codeAny_builtin PySem.F.entry_type_call ?_⟩; rw [Around.under_plain (weight_type_call_type "set" [.ref lo] []) rfl]
  repeat (any_goals (first | assumption | wp_step))
  refine codeAny_mono (code_set_new_1 (.ref lo) (E := E) (Q₁ := fun oj v => ∃ lg : Bool, oj = .ref u.heap.objs.size ∧ v = { u with heap := u.heap.push (emS lg) }) fun lg => ⟨lg, rfl, rfl⟩) fun r v rr => ?_
  rcases r with er | fl
  · exact rr
  cases fl
  any_goals (first | exact False.elim rr | skip)
  obtain ⟨lg, rfl, rfl⟩ := rr
  have atS : (u.heap.push (emS lg)).get? u.heap.objs.size = some (emS lg) := Heap.get?_push_size _ rfl
  have tyS : Shared.TypeIs { u with heap := u.heap.push (emS lg) } (.ref u.heap.objs.size) "set" := ⟨_, atS, rfl⟩
  have il := PySem.F.called_set.init.lookup; have ib := PySem.F.called_set.init.bind (.ref u.heap.objs.size)
  repeat (any_goals (first | assumption | wp_step))
  refine codeAny_mono (codeAny_call_builtin (R := wants (fun r v => r = .none ∧ ∃ g tt, v = { u with heap := g, toks := tt } ∧ SetAt prog w g u.heap.objs.size zs its.size ∧ (∀ b ob, b < u.heap.objs.size → u.heap.get? b = some ob → g.get? b = some ob)) E)
    PySem.F.called_set.init.plain PySem.F.entry_set_init (check_set_init_1 tyS ?_)) fun r2 v2 rr2 => ?_
  · obtain ⟨⟨k1, k2, k3, k4⟩, oAt, oc, nn, od⟩ := isq
    dsimp only at oc od
    subst oc od
    have up : (u.heap.push (emS lg)).get? lo = some { cls := .type "tuple", dict := k2, data := .seq its nn, slots := k4 } := Heap.get?_push_of_some _ oAt
    have f1 := PySem.F.sub_tuple_set; have f2 := PySem.F.sub_tuple_frozenset
    have f3 : (Value.type "tuple" == Value.type "dict") = false := by decide
    have isq2 : (u.heap.push (emS lg)).IsTuple lo its := ⟨_, up, rfl, nn, rfl⟩
    unfold Builtin.«set.__init__» noKeywords Builtin.Frozenset.updateFrom
    generalize e0 : pyIter = PI0
    wp_walk
    subst e0
    refine wpAny_pyIter_tuple isq2 (wpAny_bind (wpAny_runValue ?_))
    have below : lo < u.heap.objs.size := Heap.lt_size oAt
    have nh3 : Ar.in1.in1.in1.handled = none := by simp [nh]
    have sz1 : (u.heap.push (emS lg)).objs.size = u.heap.objs.size + 1 := Heap.size_push ..
    have nI : lo ≠ (u.heap.push (emS lg)).objs.size := by
      rw [sz1]
      exact Nat.ne_of_lt (Nat.lt_succ_of_lt below)
    have nF : u.heap.objs.size ∉ [(u.heap.push (emS lg)).objs.size, lo] := by
      rw [sz1]
      intro hm
      rcases List.mem_cons.mp hm with h | h
      · exact absurd h (Nat.ne_of_lt (Nat.lt_succ_self _))
      · exact absurd (List.mem_singleton.mp h) (Nat.ne_of_gt below)
    have eqn : zs.length = its.size := by rw [← StrsAre.len_eq are, Array.length_toList]
    have val : ∀ (i : Nat) (v : Value), its[i]? = some v → ∃ t, v = .str (zs.getD i Str.empty) t := fun i v hv => SS.strs_at are i v ((Array.getElem?_toList ..).trans hv)
    refine set_turns ((Walks.tuple nh3 _ lo nI its).toS) u.heap.objs.size nF zs eqn (by omega) val (its.size - 0) 0 _ (by omega) (Nat.zero_le _) ⟨⟨_, Heap.get?_push_size _ rfl, rfl, rfl⟩, (isq2.push _)⟩ ?_ fun u2 mv sa => ?_
    · have at2 : ((u.heap.push (emS lg)).push { cls := .type "tuple_iterator", data := .fields #[.ref lo, .int 0 0] }).get? u.heap.objs.size = some (emS lg) := Heap.get?_push_of_some _ atS
      exact SetOf_congr ((setObjOf_fresh (knd := PySem.strKind prog w) lg).setOf at2 (by unfold scanBound; omega)) (fun _ => rfl) rfl
    · obtain ⟨g, g2, g3, g4, g5⟩ := u2
      obtain rfl : g2 = u.gens := mv.gens
      obtain rfl : g3 = u.drawn := mv.drawn
      obtain rfl : g5 = u.os := mv.os
      show wpAny _ _ _ _ _ _
      refine wpAny_pure (show wpAny _ _ (ret Value.none) _ _ _ from wpAny_pure ⟨rfl, g, g4, rfl, sa, fun b ob lt q => ?_⟩)
      refine mv.heap b ob (fun hm => ?_) (Heap.get?_push_of_some _ (Heap.get?_push_of_some _ q))
      rw [sz1] at hm
      rcases List.mem_cons.mp hm with h | h
      · exact absurd h (Nat.ne_of_lt lt)
      · exact absurd (List.mem_singleton.mp h) (Nat.ne_of_lt (Nat.lt_succ_of_lt lt))
  · rcases r2 with er | fl2
    · exact rr2
    cases fl2
    any_goals (first | exact False.elim rr2 | skip)
    obtain ⟨rfl, g, tt, rfl, sa, kp⟩ := rr2
    repeat (any_goals (first | assumption | wp_step))
    exact out _ _ sa kp
end
end PV
end
section
set_option Elab.async false
set_option linter.all false
set_option maxRecDepth 100000
set_option maxHeartbeats 1000000
/-! FB47: -a, len(set(a)), dict displays, o.f. -/
namespace PV
open PySem PySem.Spec PyProof.Rows L2
section
variable {X : Cx} {ca : Nat → Addr} {W : WX}
theorem pe_neg {a : Expr} {fa : Env → M D} {pos : Pos} (ha : PE X a (rdE X.K ca W fa)) : PE X (.UnaryOp .USub a pos) (rdE X.K ca W fun env => (fa env).bind fun x => (M.opt (asI x)).bind fun i => .ret (.v (.int (-i)))) := by
  refine (pe_un un_neg ha).imp fun σ H Q ⟨m, st, env, r, e, p⟩ => ⟨m, st, env, r, e, (Post.bind p).mono fun x H1 ⟨m1, st1, d, r1, d1, ex, p1⟩ => ?_⟩
  obtain ⟨i, hi, p2⟩ := opt_ok p1
  obtain rfl := asI_some hi
  cases d1
  rename_i d1
  cases d1
  exact ⟨i, rfl, p2 m1 H1 _ r1 (.v (.int _)) (Ext.refl _ _)⟩
/-! ### len(set(a)) -/
def lensetF (f : M D) : M D := f.bind fun x s => match ((asSeq s x).bind allD).bind fun ts => ts.mapM asStr with
    | some xs => (guardM (decide (xs.length ≤ 4000)) s).bind fun _ => .ret (.v (.int (uniq [] xs).length))
    | none => .bad
theorem seqStr_I {K : PySem.W.Frag} {m : Mp} {H : Hp} {st : Sto} {d : D} {v : V} {xs : List Str} (r : RS K ca m H st) (h : RD K ca m H d v) (e : (((asSeq st d).bind allD).bind fun ts => ts.mapM asStr) = some xs) :
    ∃ a, v = .ref a ∧ (H a = some (.lst (xs.map V.str)) ∨ H a = some (.tup (xs.map V.str))) := by
  unfold asSeq at e
  cases q : asTup d with
  | some ds =>
    rw [q] at e
    obtain ⟨a, vs, rfl, h1, h2, h3⟩ := RD.tupI q h
    cases q2 : allD ds with
    | none => simp [q2] at e
    | some ts =>
      simp only [Option.bind_some, q2] at e
      obtain ⟨rfl, ho⟩ := RTs.strs (allD_RTs h3 q2) e
      exact ⟨a, rfl, .inr h1⟩
  | none =>
    rw [q] at e
    dsimp only at e
    cases q1 : asList st d with
    | none => rw [q1] at e; cases e
    | some ds =>
      rw [q1] at e
      obtain ⟨a, vs, rfl, h1, h2, h3⟩ := RD.lstI r q1 h
      cases q2 : allD ds with
      | none => simp [q2] at e
      | some ts =>
        simp only [Option.bind_some, q2] at e
        obtain ⟨rfl, ho⟩ := RTs.strs (allD_RTs h3 q2) e
        exact ⟨a, rfl, .inl h1⟩
theorem pe_ls {a : Expr} {fa : Env → M D} {p p2 q pos : Pos} (hc : X.calm = true) (hg : Gl X "len") (hm : X.mg "len" = none) (hg2 : Gl X "set") (hm2 : X.mg "set" = none) (ha : PE X a (rdE X.K ca W fa))
    (na : notStar a = true) : PE X (.Call (.Name "len" p) [.Call (.Name "set" p2) [a] [] q] [] pos) (rdE X.K ca W fun env => lensetF (fa env)) := by
  have na : starEach [a] X.env = (false, eval a X.env) :: starEach [] X.env := starEach_no na
  refine ⟨fun pins s σ H Q I h => ?_⟩
  refine Call_ (ld_blt I hg hm boot_len ?_)
  refine PyProof.Rows.callWith_builtin1 (PyProof.Rows.args_cons ?_ rfl) rfl rfl
  refine Call_ (ld_blt I hg2 hm2 boot_set ?_)
  obtain ⟨m, st, env, rs0, re0, p⟩ := h
  refine PyProof.Rows.callWith_type1 (PyProof.Rows.args_cons (thn (ha.run pins s σ H _ I ⟨m, st, env, rs0, re0, Post.bind p⟩) fun v s1 ⟨x, H1, I1, r1, q1⟩ => PyProof.Rows.args_nil ?_) na) na rfl
  obtain ⟨m1, st1, d, rs1, rd1, ex, p1⟩ := q1
  cases e : ((asSeq st1 d).bind allD).bind fun ts => ts.mapM asStr with
  | none => rw [e] at p1; exact p1.elim
  | some xs =>
    rw [e] at p1
    obtain ⟨g, p2⟩ := guard_ok (α := Unit) p1
    have hx : xs.length ≤ 4000 := of_decide_eq_true g
    obtain ⟨l, rfl, hq⟩ := seqStr_I rs1 rd1 e
    obtain rfl : v = Value.ref l := r1
    have fin : ∀ (its : List Value), Vals (xs.map V.str) its → ∀ (h' : Heap) (tk : Nat), SetAt X.prog X.w h' s1.heap.objs.size xs its.toArray.size → (∀ b o, b < s1.heap.objs.size → s1.heap.get? b = some o → h'.get? b = some o) →
        wpAny (model X.prog X.w) X.A (spliced (backTo pos (starEach [] X.env))) (fun vs s₂ => wpAny (model X.prog X.w) X.A (call (.builtin "len") (Value.ref s1.heap.objs.size :: vs)) (EP X pins σ Q) X.xe s₂) X.xe { s1 with heap := h', toks := tk } := fun its r h' tk hS hk => by
      refine PyProof.Rows.args_nil ?_
      have hl : its.toArray.size = xs.length := by rw [List.size_toArray, ← r.length, List.length_map]
      rw [hl] at hS
      obtain ⟨o, es, ep, t, ho, hex, hd, _, _, _, hf, hn⟩ := hS
      have I2 : Inv X pins σ H1 { s1 with heap := h', toks := tk } := I1.kept fun b o e => hk b o (Heap.lt_size e) e
      have hlen := metS_len xs xs.length
      have hms : (metS xs xs.length).length = (uniq [] xs).length := by unfold metS; rw [List.take_length]
      refine call_len_set ho hex hd hf (by rw [hn] <;> omega) ⟨.int (uniq [] xs).length, H1, I2.tok _, ⟨_, by rw [hn, hms]⟩, ?_⟩
      exact p2 m1 H1 _ rs1 (.v (.int _)) (Ext.refl _ _)
    rcases hq with hq | hq
    · obtain ⟨its, r, pl, hz⟩ := I1.list (SqL.of hq)
      exact set_of_list (I1.ok.hd hc) pl.isList (by simpa using strsAre_of r) (by unfold scanBound; omega) fun h' tk hS hk => fin its r h' tk hS hk
    · obtain ⟨its, r, pl, hz⟩ := I1.tuple (SqT.of hq)
      exact set_of_tuple (I1.ok.hd hc) pl (by simpa using strsAre_of r) (by unfold scanBound; omega) fun h' tk hS hk => fin its r h' tk hS hk
end
/-! ### displays -/
section
variable {K : PySem.W.Frag} {ca : Nat → Addr} {m1 m' : Mp} {H H1 : Hp} {D0 : Addr} {st st0 : Sto} {W : WX} {σ : L2.St} {Q : VK}
theorem mkK_fin {mu : Bool} {acc : List (T × D)} {vs : List (Key × V)} (r0 : RS K ca m1 H1 st0) (hp : H1 D0 = none) (r : RS K ca m' H st) (h : LX m1 H1 D0 m' H) (hD : H D0 = some (.dK vs)) (b : RDk K ca m' H acc vs) (l : acc.length ≤ sizeLine)
    (p : Post K ca W σ m1 H1 (mkK mu false acc st) Q) : Q (.ref D0) H := by
  have hn := outNow r0 hp
  cases mu with
  | true =>
    have p : End K ca m1 H1 (.ref st.length) (st ++ [some (.dct false acc)]) Q := p
    refine p ((m'.bare m1).push D0) H _ (r.adopt h hn (.dctK hD l (b.extW h.toPush))) (.ref ?_) (h.pushed hp)
    show (m'.l ++ [some D0])[_]? = _
    rw [← r.len]; simp
  | false =>
    have rb := r.bare h
    have ob := h.outOwn r hn
    unfold mkK at p
    cases q : allV acc with
    | some ts =>
      rw [q] at p
      have p : End K ca m1 H1 (.v (.dct false ts)) st Q := p
      obtain ⟨i1, i2⟩ := allV_rd b q
      exact p _ H _ rb (.v (.dctK (.inl hD) ob (by rw [i2]; exact l) (i1.extW h.toBare))) h.bare
    | none => rw [q] at p; exact p.elim
/-- a display's pairs -/
def evkF (env : Env) : List ((Env → M D) × (Env → M D)) → M (List (T × D))
  | [] => .ret []
  | (k, e) :: r => (k env).bind fun x => (e env).bind fun y => match x with
    | .v q => (evkF env r).bind fun ps => .ret ((q, y) :: ps)
    | _ => M.bad
theorem kputs_fit {tk : Bool} : ∀ {more kvs qs : List (T × D)}, kputs tk kvs more = some qs → ∀ p ∈ more, kfit tk p.1 = true
  | [], _, _, _, p, h => by cases h
  | (k, d) :: r, kvs, qs, e, p, h => by
    unfold kputs at e
    cases e1 : kput tk kvs k d with
    | none => rw [e1] at e; cases e
    | some q =>
      rw [e1] at e
      obtain ⟨f, rfl⟩ := kput_some e1
      rcases List.mem_cons.mp h with rfl | h
      · exact f
      · exact kputs_fit (show kputs tk _ r = some qs from e) p h
abbrev rdW (K : PySem.W.Frag) (ca : Nat → Addr) (p : (Env → M D) × (Env → M D)) : TE × TE := (rdE K ca W0 p.1, rdE K ca W0 p.2)
theorem dd_pairs : ∀ (fs : List ((Env → M D) × (Env → M D))) {R : List (V × V) → Hp → Prop} {m' : Mp} {G : Hp} {st st' : Sto} {env : Env} {ps : List (T × D)}, RS K ca m' G st → RE K ca m' G env σ → LX m1 H1 D0 m' G → G D0 = some (.dK []) → evkF env fs st = .ok ps st' → (∀ p ∈ ps, kfit false p.1 = true) →
    (∀ (m2 : Mp) (G2 : Hp) (rs : List (Key × V)), RS K ca m2 G2 st' → LX m1 H1 D0 m2 G2 → G2 D0 = some (.dK []) → Ext m' G m2 G2 → RDk K ca m2 G2 ps rs → R (rs.map fun kv => (kV kv.1, kv.2)) G2) → tPairs (fs.map (rdW K ca)) σ G R
  | [], R, m', G, st, st', env, ps, r, re, lx, hd, e, _, k => by
    cases e
    exact k m' G [] r lx hd (Ext.refl _ _) .nil
  | (fk, fe) :: fs, R, m', G, st, st', env, ps, r, re, lx, hd, e, hf, k => by
    unfold evkF at e
    obtain ⟨x, s1, e1, e⟩ := bind_ok (f := fk env) e
    obtain ⟨y, s2, e2, e⟩ := bind_ok (f := fe env) e
    refine ⟨m', st, env, r, re, ?_⟩
    show Post K ca W0 σ m' G (fk env st) _
    rw [e1]
    intro m2 G2 v r2 rv ex2
    have lx2 := lx.step ex2
    have hd2 : G2 D0 = some (.dK []) := ex2.hid D0 _ (by rw [lx.hh]; exact List.mem_cons_self ..) hd
    refine ⟨m2, s1, env, r2, re.ext ex2, ?_⟩
    show Post K ca W0 σ m2 G2 (fe env s1) _
    rw [e2]
    intro m3 G3 w r3 rw3 ex3
    have lx3 := lx2.step ex3
    have hd3 : G3 D0 = some (.dK []) := ex3.hid D0 _ (by rw [lx2.hh]; exact List.mem_cons_self ..) hd2
    cases x with
    | v q =>
      obtain ⟨ps', s3, e3, e⟩ := bind_ok (f := evkF env fs) e
      cases e
      cases rv
      rename_i rv
      obtain ⟨kq, hk⟩ := RT.has rv (by simpa only [kfit] using hf _ (List.mem_cons_self ..))
      refine dd_pairs fs r3 ((re.ext ex2).ext ex3) lx3 hd3 e3 (fun p hp => hf p (List.mem_cons_of_mem _ hp)) fun m4 G4 rs r4 lx4 hd4 ex4 rk => ?_
      have := k m4 G4 ((kq, w) :: rs) r4 lx4 hd4 ((ex2.trans ex3).trans ex4) (.cons hk (rw3.ext ex4) rk)
      rw [List.map_cons, ← RT.key rv hk] at this
      exact this
    | ref n => cases e
    | tp ds => cases e
    | lp ds => cases e
    | exv c fs => cases e
    | lam k c => cases e
theorem evkF_len {env : Env} : ∀ {fs : List ((Env → M D) × (Env → M D))} {st st' : Sto} {ps : List (T × D)}, evkF env fs st = .ok ps st' → ps.length = fs.length
  | [], _, _, _, e => by cases e; rfl
  | (fk, fe) :: fs, _, _, _, e => by
    unfold evkF at e
    obtain ⟨x, s1, e1, e⟩ := bind_ok (f := fk env) e
    obtain ⟨y, s2, e2, e⟩ := bind_ok (f := fe env) e
    cases x with
    | v q =>
      obtain ⟨ps', s3, e3, e⟩ := bind_ok (f := evkF env fs) e
      cases e
      simp [evkF_len e3]
    | ref n => cases e
    | tp ds => cases e
    | lp ds => cases e
    | exv c fs => cases e
    | lam k c => cases e
theorem dd_read {mu : Bool} {fs : List ((Env → M D) × (Env → M D))} (h15 : fs.length ≤ 15) (h : rdE K ca W (fun env => (nox (evkF env fs)).bind fun ps => (M.opt (kputs false [] ps)).bind fun qs => mkK mu false qs) σ H Q) : tDisp (fs.map (rdW K ca)) σ H Q := by
  obtain ⟨m, st, env, r, re, p⟩ := h
  obtain ⟨ps, st9, e, p⟩ := nox_post p
  obtain ⟨qs, eq, p⟩ := opt_ok p
  intro D0 hD
  refine dd_pairs (m1 := m) (H1 := H) (D0 := D0) fs (r.hide hD (.inr (.inl ⟨_, rfl⟩))) (re.extW (LX.start hD).x) (LX.start hD) upd_same e (kputs_fit eq) fun m2 G2 rs r2 lx hd ex rk => ?_
  have hl : rs.length = fs.length := by rw [← rk.len, evkF_len e]
  refine ⟨hd, rs, rfl, by omega, ?_⟩
  have hDh : D0 ∈ m2.h := by rw [lx.hh]; exact List.mem_cons_self ..
  have ow : ExtW m2 G2 m2 (upd G2 D0 (.dK (mergeK [] rs))) := ExtW.own hDh hd fun _ _ z => by cases z
  have ql := kputs_len eq
  have pl := evkF_len e
  refine mkK_fin r hD (r2.own hDh hd (fun _ _ z => by cases z) (.inr (.inl ⟨_, rfl⟩))) (lx.own hD hd (fun _ _ z => by cases z)) upd_same (RDk.extW ow (RDk.puts .nil rk eq)) ?_ p
  rw [sizeLine_eq]
  simp at ql
  omega
end
section
variable {X : Cx} {ca : Nat → Addr} {W : WX}
/-- the display's parts by their readings -/
inductive DDs (X : Cx) (ca : Nat → Addr) : List (Option Expr) → List Expr → List ((Env → M D) × (Env → M D)) → Prop
  | nil : DDs X ca [] [] []
  | cons {k v : Expr} {ks : List (Option Expr)} {vs : List Expr} {fk fe : Env → M D} {fs : List ((Env → M D) × (Env → M D))} : PE X k (rdE X.K ca W0 fk) → PE X v (rdE X.K ca W0 fe) → DDs X ca ks vs fs → DDs X ca (some k :: ks) (v :: vs) ((fk, fe) :: fs)
theorem DDs.pps {pos : Pos} : ∀ {ks : List (Option Expr)} {vs : List Expr} {fs : List ((Env → M D) × (Env → M D))}, DDs X ca ks vs fs → PPs X pos ks vs (fs.map (rdW X.K ca)) ∧ ks.all (·.isSome) = true ∧ ks.length = vs.length ∧ fs.length = ks.length
  | _, _, _, .nil => ⟨pps_nil, rfl, rfl, rfl⟩
  | _, _, _, .cons h1 h2 r => by
    obtain ⟨i1, i2, i3, i4⟩ := DDs.pps (pos := pos) r
    exact ⟨pps_cons h1 h2 i1, by simpa using i2, by simp [i3], by simp [i4]⟩
theorem pe_dd {mu : Bool} {ks : List (Option Expr)} {vs : List Expr} {fs : List ((Env → M D) × (Env → M D))} {pos : Pos} (h : DDs X ca ks vs fs) (h0 : fs ≠ []) (h15 : fs.length ≤ 15) :
    PE X (.Dict ks vs pos) (rdE X.K ca W fun env => (nox (evkF env fs)).bind fun ps => (M.opt (kputs false [] ps)).bind fun qs => mkK mu false qs) := by
  obtain ⟨i1, i2, i3, i4⟩ := DDs.pps (pos := pos) h
  exact (pe_disp i1 i2 i3 (fun z => h0 (by rw [z] at i4; exact List.length_eq_zero_iff.mp i4)) (by omega)).imp fun σ H Q z => dd_read h15 z
/-- {} -/
theorem pe_dd0 {mu tk : Bool} {pos : Pos} : PE X (.Dict [] [] pos) (rdE X.K ca W fun env => (nox (evkF env [])).bind fun ps => (M.opt (kputs tk [] ps)).bind fun qs => mkK mu tk qs) := by
  cases tk with
  | false =>
    refine pe_dnewK.imp fun σ H Q ⟨m, st, env, r, re, p⟩ p0 hp => ?_
    have p : Post X.K ca W σ m H (mkK mu false [] st) Q := p
    cases e : mkK mu false ([] : List (T × D)) st with
    | ok d st' => rw [e] at p; exact mkK_end (mu := mu) r .nil (by simp) e p p0 hp
    | ex c fs s => exact (mkK_q e).elim
    | bad => rw [e] at p; exact p.elim
  | true =>
    refine pe_dnewT.imp fun σ H Q ⟨m, st, env, r, re, p⟩ p0 hp => ?_
    have p : Post X.K ca W σ m H (mkK mu true [] st) Q := p
    cases e : mkK mu true ([] : List (T × D)) st with
    | ok d st' => rw [e] at p; exact mkK_endT (mu := mu) r .nil (by simp) e p p0 hp
    | ex c fs s => exact (mkK_q e).elim
    | bad => rw [e] at p; exact p.elim
end
end PV
end
section
set_option Elab.async false
set_option linter.all false
set_option maxRecDepth 100000
set_option maxHeartbeats 1000000
/-! FC1: own defs, classes, attributes, by the evaluator; a cell frozen. -/
namespace PV
open PySem PySem.Spec PyProof.Rows L2
/-- what a def promises that computes g from n values -/
def spR (K : PySem.W.Frag) (ca : Nat → Addr) (g : List D → M D) (n : Nat) : Sp := fun vs H Q E => vs.length = n ∧ ∃ m st ds, RS K ca m H st ∧ RDs K ca m H ds vs ∧ Post K ca (fun c dd _ H' => E c dd H') [] m H (g ds st) Q
section
variable {X : Cx} {ca : Nat → Addr} {W : WX} {P : Pr} {F : Bool → Nat → List D → M D}
theorem Post.we {K : PySem.W.Frag} {σ : L2.St} {m : Mp} {H : Hp} {r : Res D} {Q : VK} (p : Post K ca W σ m H r Q) : Post K ca (fun c dd _ H' => WE W σ c dd H') [] m H r Q := by
  cases r <;> exact p
/-- a call asks for n values -/
def Wants (g : List D → M D) (n : Nat) : Prop := ∀ ds st, ds.length ≠ n → g ds st = .bad
theorem Wants.len {K : PySem.W.Frag} {σ : L2.St} {m : Mp} {H : Hp} {Q : VK} {g : List D → M D} {n : Nat} (h : Wants g n) {ds : List D} {st : Sto} (p : Post K ca W σ m H (g ds st) Q) : ds.length = n := by
  by_cases e : ds.length = n
  · exact e
  · rw [h ds st e] at p; exact p.elim
theorem rd_call {g : List D → M D} {n : Nat} (hg : Wants g n) {f : Env → M (List D)} {σ : L2.St} {H : Hp} {Q : VK} (h : rdE X.K ca W (fun env => (f env).bind g) σ H Q) : tCallG (spR X.K ca g n) W n 0 (fun us _ => us) (rdL X.K ca W f) tNil σ H Q := by
  obtain ⟨m, st, env, r, re, p⟩ := h
  refine ⟨m, st, env, r, re, (Post.bindL p).mono fun vs H1 ⟨m1, st1, ds, r1, d1, ex, p1⟩ => ?_⟩
  have hl := hg.len p1
  have hv : vs.length = n := by rw [← d1.len]; exact hl
  exact ⟨hv, rfl, hv, m1, st1, ds, r1, d1, p1.we⟩
theorem rd_call0 {g : List D → M D} {n : Nat} (hg : Wants g n) {σ : L2.St} {H : Hp} {Q : VK} (h : rdE X.K ca W (fun _ => (M.ret []).bind g) σ H Q) : tCallG (spR X.K ca g n) W n 0 (fun us _ => us) tNil tNil σ H Q := by
  obtain ⟨m, st, env, r, re, p⟩ := h
  have p : Post X.K ca W σ m H (g [] st) Q := p
  have hl := hg.len p
  exact ⟨hl, rfl, hl, m, st, [], r, .nil, p.we⟩
variable {k n : Nat} {f : Addr} {fd : FuncData} {ps : List Str} {x : Str} {p pos : Pos} {e : Expr} {es : List Expr}
/-- f(e, ..) -/
theorem pe_ce {g : List D → M D} {fl : Env → M (List D)} (hw : Wants g n) (Fn : FnG X.prog X.w X.K X.mg X.base k f fd ps (spR X.K ca g n)) (hr : Room k X.A) (hgd : X.A.guards = some []) (hg : Gl X x) (hm : X.mg x = some (.ref f)) (hk : PySem.W.keepIn X.K (.ref f) = true) (hb : Bnd X.K fd ps n [] (fun us _ => us) (fun vs _ => vs)) (tx : Takes X W)
    (ha : PA X (e :: es) (rdL X.K ca W fl)) (hdb : (x == ("__debug__" : Str)) = false) (hs : (e :: es).all notStar = true) : PE X (.Call (.Name x p) (e :: es) [] pos) (rdE X.K ca W fun env => (fl env).bind g) :=
  (pe_cg Fn hr hgd hg hm hk hb tx ha hdb hs).imp fun σ H Q h => rd_call hw h
theorem pe_ce0 {g : List D → M D} (hw : Wants g n) (Fn : FnG X.prog X.w X.K X.mg X.base k f fd ps (spR X.K ca g n)) (hr : Room k X.A) (hgd : X.A.guards = some []) (hg : Gl X x) (hm : X.mg x = some (.ref f)) (hk : PySem.W.keepIn X.K (.ref f) = true) (hb : Bnd X.K fd ps n [] (fun us _ => us) (fun vs _ => vs)) (tx : Takes X W)
    (hdb : (x == ("__debug__" : Str)) = false) : PE X (.Call (.Name x p) [] [] pos) (rdE X.K ca W fun env => (M.ret []).bind g) :=
  (pe_cg0 Fn hr hgd hg hm hk hb tx hdb).imp fun σ H Q h => rd_call0 hw h
/-! ### C(e, ..) -/
theorem make_rs {K : PySem.W.Frag} {m1 : Mp} {H1 : Hp} {st1 : Sto} {x dx : Addr} {c : Nat} (r1 : RS K ca m1 H1 st1) (hx : H1 x = none) (hdx : H1 dx = none) (hne : dx ≠ x) :
    RS K ca (m1.push x) (upd (upd H1 dx (.own x)) x (.ins (ca c) dx [])) (st1 ++ [some (.ins c [])]) ∧ Ext m1 H1 (m1.push x) (upd (upd H1 dx (.own x)) x (.ins (ca c) dx [])) ∧ (m1.push x).l[st1.length]? = some (some x) := by
  have hx' : upd H1 dx (.own x) x = none := by rw [upd_ne hne.symm]; exact hx
  refine ⟨(r1.new hdx).push hx' (.ins upd_same .nil), (Ext.new hdx).trans (Ext.newM hx'), ?_⟩
  show (m1.l ++ [some x])[_]? = _
  rw [← r1.len]; simp
theorem rd_make {c i : Nat} {cl : Cl} (hc : P.cl c = some cl) (hi : cl.init = some i) (hw : Wants (F false i) (n + 1)) {f : Env → M (List D)} {σ : L2.St} {H : Hp} {Q : VK} (h : rdE X.K ca W (fun env => (f env).bind (makeI P F c)) σ H Q) :
    tMakeG (ca c) (spR X.K ca (F false i) (n + 1)) W n 0 (fun us _ => us) (rdL X.K ca W f) tNil σ H Q := by
  obtain ⟨m, st, env, r, re, p⟩ := h
  refine ⟨m, st, env, r, re, (Post.bindL p).mono fun vs H1 ⟨m1, st1, ds, r1, d1, ex, p1⟩ => ?_⟩
  unfold makeI at p1
  rw [hc] at p1
  simp only [Option.bind_some, hi, Option.map_some] at p1
  have hl : ds.length = n := by
    by_cases e : ds.length = n
    · exact e
    · rw [show F false i (.ref st1.length :: ds) (st1 ++ [some (.ins c [])]) = .bad from hw _ _ (by simp [e])] at p1
      exact p1.elim
  have hv : vs.length = n := by rw [← d1.len]; exact hl
  refine ⟨hv, rfl, fun x dx hx hdx hne => ?_⟩
  obtain ⟨q1, q2, q3⟩ := make_rs (c := c) r1 hx hdx hne
  refine ⟨by simp [hv], m1.push x, _, .ref st1.length :: ds, q1, .cons (.ref q3) (d1.ext q2), ?_⟩
  cases w : F false i (.ref st1.length :: ds) (st1 ++ [some (.ins c [])]) with
  | bad => rw [w] at p1; exact p1.elim
  | ex c' fs s' => rw [w] at p1; exact fun m' H' dd a b e => p1 m' H' dd a b (q2.trans e)
  | ok d s' =>
    rw [w] at p1
    intro m' H' v rs' rd' e'
    have key : ∀ t, d = .v t → t = .non → v = V.non := by
      rintro t rfl rfl
      cases rd'; rename_i rd'
      cases rd'; rfl
    have fin : ∀ {pp : Res D}, (pp = trimZ st1.length (.ref st1.length) s' ∨ pp = trim st1.length (.ref st1.length) s') → Post X.K ca W σ m1 H1 pp Q → Q (.ref x) H' := fun hp p => by
      have rdx : RD X.K ca m' H' (.ref st1.length) (.ref x) := (RD.ref q3).ext e'
      rcases hp with rfl | rfl
      · exact trimZ_ok r1 p m' H' _ rs' rdx (q2.trans e')
      · exact trim_ok r1 p m' H' _ rs' rdx (q2.trans e')
    cases d with
    | v t =>
      cases t with
      | non =>
        refine ⟨key _ rfl rfl, ?_⟩
        have p1 : Post X.K ca W σ m1 H1 (match cl.fz with | true => trimZ st1.length (.ref st1.length) s' | false => trim st1.length (.ref st1.length) s') Q := p1
        cases hz : cl.fz with
        | true => rw [hz] at p1; exact fin (.inl rfl) p1
        | false => rw [hz] at p1; exact fin (.inr rfl) p1
      | bl b => exact p1.elim
      | int b => exact p1.elim
      | str b => exact p1.elim
      | tup b => exact p1.elim
      | lst b => exact p1.elim
      | dct b b2 => exact p1.elim
      | obj b b2 => exact p1.elim
      | scr b => exact p1.elim
    | ref n => exact p1.elim
    | tp ds => exact p1.elim
    | lp ds => exact p1.elim
    | exv c fs => exact p1.elim
    | lam k c => exact p1.elim
theorem pe_mk {c i : Nat} {cl : Cl} {fl : Env → M (List D)} (hc : P.cl c = some cl) (hi : cl.init = some i) (hw : Wants (F false i) (n + 1)) (M : Mk X.K (ca c) f) (Fn : FnG X.prog X.w X.K X.mg X.base k f fd ps (spR X.K ca (F false i) (n + 1))) (hr : Room (k + 1) X.A) (hgd : X.A.guards = some []) (hg : Gl X x) (hm : X.mg x = some (.ref (ca c)))
    (hb : Bnd X.K fd ps (n + 1) [] (fun us _ => us) (fun vs _ => vs)) (tx : Takes X W) (ha : PA X (e :: es) (rdL X.K ca W fl)) (hdb : (x == ("__debug__" : Str)) = false) (hs : (e :: es).all notStar = true) :
    PE X (.Call (.Name x p) (e :: es) [] pos) (rdE X.K ca W fun env => (fl env).bind (makeI P F c)) :=
  (pe_kg M Fn hr hgd hg hm hb tx ha hdb hs).imp fun σ H Q h => rd_make hc hi hw h
/-! ### o.f -/
theorem getattr_eq {d : D} {s : Sto} {f : Str} (h : ∀ c fs, d ≠ .exv c fs) : getattr P F d f s = match asIns s d with
    | some (c, fs) => match P.cl c with
      | some k => match k.exc, fget k.props f with
        | none, some p => nox (F false p [d]) s
        | none, none => M.opt (fget fs f) s
        | _, _ => .bad
      | none => .bad
    | none => .bad := by
  cases d with
  | exv c fs => exact absurd rfl (h c fs)
  | v t => rfl
  | ref n => rfl
  | tp ds => rfl
  | lp ds => rfl
  | lam k c => rfl
theorem pe_at {o : Expr} {a : Str} {fo : Env → M D} (ho : PE X o (rdE X.K ca W fo)) (hb : plainBase o = true) (hf : ∀ c cl, P.cl c = some cl → cl.exc = none → fget cl.props a = none → Cls X.K (ca c) ∧ NoAttr X.K (ca c) a)
    (hp : ∀ c cl q, P.cl c = some cl → cl.exc = none → fget cl.props a = some q → Cls X.K (ca c) ∧ ∃ pa ga fd ps k, PropOf X.K (ca c) a pa ga ∧ FnG X.prog X.w X.K X.mg X.base k ga fd ps (spR X.K ca (F false q) 1) ∧ Room (k + 1) X.A ∧ X.A.guards = some [] ∧ Bnd X.K fd ps 1 [] (fun us _ => us) (fun vs _ => vs)) :
    PE X (.Attribute o a pos) (rdE X.K ca W fun env => (fo env).bind fun x => getattr P F x a) := by
  refine ⟨fun pins s σ H Q I h => ?_⟩
  obtain ⟨m, st, env, r, re, p⟩ := h
  refine attr_of (base_of hb) (thn (ho.run pins s σ H _ I ⟨m, st, env, r, re, Post.bind p⟩) fun u s1 ⟨x, H1, I1, rx, m1, st1, d, r1, d1, ex, p1⟩ => ?_)
  rw [getattr_eq (fun c fs z => by subst z; cases d1)] at p1
  cases hi : asIns st1 d with
  | none => rw [hi] at p1; exact p1.elim
  | some q =>
    obtain ⟨c, fs⟩ := q
    rw [hi] at p1
    dsimp only at p1
    obtain ⟨oa, dx, gs, rfl, ha, hg⟩ := RD.insI r1 hi d1
    obtain rfl : u = Value.ref oa := rx
    cases hc : P.cl c with
    | none => rw [hc] at p1; exact p1.elim
    | some cl =>
      rw [hc] at p1
      dsimp only at p1
      cases he : cl.exc with
      | some z => rw [he] at p1; exact p1.elim
      | none =>
        rw [he] at p1
        cases hq : fget cl.props a with
        | none =>
          rw [hq] at p1
          obtain ⟨d', e', p2⟩ := optv_ok p1
          obtain ⟨v, l, rv⟩ := rdf_get hg e'
          obtain ⟨c1, c2⟩ := hf c cl hc he hq
          exact getattr_ok I1 ha c1 c2 l fun u' s2 I2 ru => ⟨v, H1, I2, ru, p2 m1 H1 v r1 rv (Ext.refl _ _)⟩
        | some q =>
          rw [hq] at p1
          dsimp only at p1
          obtain ⟨c1, pa, ga, fd, ps, k, c2, c3, c4, c5, c6⟩ := hp c cl q hc he hq
          refine g_prop I1 ha c1 c2 c3 c4 c5 c6 ⟨rfl, m1, st1, [d], r1, .cons d1 .nil, ?_⟩
          cases w : F false q [d] st1 with
          | ok d' st' => rw [show nox (F false q [d]) st1 = .ok d' st' from by unfold nox; rw [w]] at p1; exact p1
          | ex c' fs' s' => rw [show nox (F false q [d]) st1 = .bad from by unfold nox; rw [w]] at p1; exact p1.elim
          | bad => rw [show nox (F false q [d]) st1 = .bad from by unfold nox; rw [w]] at p1; exact p1.elim
end
/-! ### a cell frozen -/
def Mp.kill (m : Mp) (n : Nat) : Mp := ⟨m.l.set n none, m.h⟩
section
variable {K : PySem.W.Frag} {ca : Nat → Addr} {m : Mp} {H : Hp} {st : Sto} {n : Nat} {a : Addr}
theorem kill_at {k : Nat} {b : Addr} (h : (m.kill n).l[k]? = some (some b)) : k ≠ n ∧ m.l[k]? = some (some b) := by
  have h : (m.l.set n none)[k]? = some (some b) := h
  by_cases e : n = k
  · subst e
    by_cases hl : n < m.l.length
    · rw [List.getElem?_set_self hl] at h; cases h
    · rw [List.getElem?_eq_none (by rw [List.length_set]; omega)] at h; cases h
  · rw [List.getElem?_set_ne e] at h; exact ⟨fun z => e z.symm, h⟩
theorem Ext.kill : Ext m H (m.kill n) H := by
  refine ⟨fun k o h => ?_, fun _ _ h _ => h, fun _ _ h _ _ _ => h, fun _ _ _ h => h, fun b u h o => ⟨fun k z => o.c k (kill_at z).2, o.h⟩, fun _ _ _ h => h, rfl⟩
  show (m.l.set n none)[k]? = some o ∨ (m.l.set n none)[k]? = some none
  by_cases e : n = k
  · subst e
    exact .inr (List.getElem?_set_self (List.getElem?_eq_some_iff.mp h).1)
  · rw [List.getElem?_set_ne e]; exact .inl h
theorem RS.kill (r : RS K ca m H st) : RS K ca (m.kill n) H (st.set n none) := by
  refine ⟨by show (m.l.set n none).length = _; rw [List.length_set, List.length_set]; exact r.len, fun i j b h1 h2 => r.inj i j b (kill_at h1).2 (kill_at h2).2, fun k b h => ?_, fun k h => ?_, fun k b h => r.apart k b (kill_at h).2, r.hs⟩
  · obtain ⟨h1, h2⟩ := kill_at h
    obtain ⟨c, e, rc⟩ := r.cells k b h2
    refine ⟨c, ?_, RC.ext Ext.kill rfl rc⟩
    unfold cellAt at e ⊢
    rw [List.getElem?_set_ne (fun z => h1 z.symm)]
    exact e
  · have h : (m.l.set n none)[k]? = some none := h
    by_cases e : n = k
    · subst e
      have hl : n < m.l.length := by
        by_cases hl : n < m.l.length
        · exact hl
        · rw [List.getElem?_eq_none (by rw [List.length_set]; omega)] at h; cases h
      exact List.getElem?_set_self (by rw [← r.len]; exact hl)
    · rw [List.getElem?_set_ne e] at h ⊢
      exact r.dead k h
theorem kill_out (r : RS K ca m H st) (h : m.l[n]? = some (some a)) : Out (m.kill n) a := ⟨fun k z => (kill_at z).1 (r.inj k n a (kill_at z).2 h), r.apart n a h⟩
end
/-- frozen -/
def frzM (x : D) : M D := fun s => match x with
  | .ref n => match cellAt s n with
    | some (.lst ds) => match allD ds with
      | some ts => .ok (.v (.lst ts)) (s.set n none)
      | none => .bad
    | some (.dct tk kvs) => match allV kvs with
      | some ts => .ok (.v (.dct tk ts)) (s.set n none)
      | none => .bad
    | _ => .bad
  | x => .ok x s
section
variable {X : Cx} {ca : Nat → Addr} {W : WX}
theorem pe_fz {e : Expr} {fe : Env → M D} (he : PE X e (rdE X.K ca W fe)) : PE X e (rdE X.K ca W fun env => (fe env).bind frzM) := by
  refine he.imp fun σ H Q ⟨m, st, env, r, re, p⟩ => ⟨m, st, env, r, re, (Post.bind p).mono fun x H1 ⟨m1, st1, d, r1, d1, ex, p1⟩ => ?_⟩
  have triv : Post X.K ca W σ m1 H1 (.ok d st1) Q → Q x H1 := fun p => p m1 H1 x r1 d1 (Ext.refl _ _)
  cases d with
  | v t => exact triv p1
  | tp ds => exact triv p1
  | lp ds => exact triv p1
  | exv c fs => exact triv p1
  | lam k c => exact triv p1
  | ref n =>
    unfold frzM at p1
    dsimp only at p1
    cases hc : cellAt st1 n with
    | none => rw [hc] at p1; exact p1.elim
    | some c =>
      rw [hc] at p1
      cases d1 with
      | dead h =>
        have := r1.dead n h
        unfold cellAt at hc
        rw [this] at hc; cases hc
      | @ref _ a h =>
        obtain ⟨c', e1, rc⟩ := r1.cells n a h
        rw [hc] at e1
        cases e1
        have ek : Ext m1 H1 (m1.kill n) H1 := Ext.kill
        have rk := r1.kill (n := n)
        have ok := kill_out r1 h
        cases rc with
        | lst hH l rd =>
          dsimp only at p1
          cases q : allD _ with
          | none => rw [q] at p1; exact p1.elim
          | some ts =>
            rw [q] at p1
            exact p1 _ H1 _ rk (.v (.lst hH ok (by rw [allD_len q]; exact l) ((allD_RTs rd q).ext ek))) ek
        | dctK hH l rd =>
          dsimp only at p1
          cases q : allV _ with
          | none => rw [q] at p1; exact p1.elim
          | some ts =>
            rw [q] at p1
            obtain ⟨i1, i2⟩ := allV_rd rd q
            exact p1 _ H1 _ rk (.v (.dctK (.inl hH) ok (by rw [i2]; exact l) (i1.ext ek))) ek
        | dctT hH l rd =>
          dsimp only at p1
          cases q : allV _ with
          | none => rw [q] at p1; exact p1.elim
          | some ts =>
            rw [q] at p1
            obtain ⟨i1, i2⟩ := allV_rdT rd q
            exact p1 _ H1 _ rk (.v (.dctT (.inl hH) ok (by rw [i2]; exact l) (i1.ext ek))) ek
        | ins hH rd => exact p1.elim
end
end PV
end
section
set_option Elab.async false
set_option linter.all false
set_option maxRecDepth 100000
set_option maxHeartbeats 1000000
/-! FC2: does a core text say what the program's text says? -/
namespace PV
open PySem PySem.Spec PyProof.Rows L2
/-- what a global name stands for -/
inductive Gk where | fn (f : Nat) | cl (c : Nat)
structure Stat where
  P : Pr
  LM : Nat → Option C
  gl : List (Str × Gk)
  /-- attributes that are stored, read of instances, read of exceptions -/
  att : List Str
  rat : List Str
  xat : List Str
/-- where a text stands: its scope; of a comprehension's block the written one too -/
structure Sx where
  sc : Scope
  raw : Option Scope
def nmOk (x : Str) : Bool := !(x == ("__debug__" : Str)) && !(x == ("__classdict__" : Str)) && !decide (x = ("__name__" : Str))
def isGl (sc : Scope) (x : Str) : Bool := match sc.names.lookup x with
  | some .globalImplicit => true
  | _ => false
def isVis (sc : Scope) (x : Str) : Bool := match sc.names.lookup x with
  | some .local => true
  | some .cell => true
  | some .free => true
  | _ => false
def isLocal (sc : Scope) (x : Str) : Bool := match sc.names.lookup x with
  | some .local => true
  | _ => false
def isLoc (sc : Scope) (x : Str) : Bool := match sc.names.lookup x with
  | some .local => true
  | some .cell => true
  | _ => false
def Sx.fn (sx : Sx) (x : Str) : Bool := match sx.raw with
  | none => true
  | some s => match s.names.lookup x with
    | some .cell => true
    | _ => false
def atN (N : List Str) (i : Nat) (x : Str) : Bool := match N[i]? with
  | some y => decide (y = x)
  | none => false
def bltNames : List Str := ["len", "int", "abs", "list", "tuple", "dict", "str", "repr", "sorted", "sum", "min", "max", "isinstance", "set", "range", "enumerate", "bool", "zip", "ValueError"]
def Stat.no (Z : Stat) (sc : Scope) (x : Str) : Bool := isGl sc x && bltNames.contains x && nmOk x && (Z.gl.lookup x).isNone && (Z.P.glob x).isNone
def Stat.isFn (Z : Stat) (sc : Scope) (x : Str) (f : Nat) : Bool := isGl sc x && nmOk x && match Z.gl.lookup x with
  | some (.fn g) => decide (g = f)
  | _ => false
def Stat.isCl (Z : Stat) (sc : Scope) (x : Str) (c : Nat) : Bool := isGl sc x && nmOk x && match Z.gl.lookup x with
  | some (.cl d) => decide (d = c)
  | _ => false
def Bi.nm : Bi → Str
  | .len => "len" | .int => "int" | .abs => "abs" | .list => "list" | .tuple => "tuple" | .dict => "dict" | .str => "str" | .repr => "repr" | .sorted => "sorted" | .sum => "sum" | .min => "min" | .max => "max"
  | .dict0 => "dict" | .list0 => "list" | .dict0T => "dict"
def Bi.made : Bi → Bool
  | .list0 => false
  | .dict0 => false
  | .dict0T => false
  | _ => true
def Tm.nm : Tm → Str
  | .append => "append" | .pop => "pop" | .popi => "pop" | .extend => "extend" | .clear => "clear" | .get => "get" | .get2 => "get" | .update => "update" | .join => "join" | .split => "split"
  | .startswith => "startswith" | .index => "index" | .count => "count" | .remove => "remove" | .values => "values"
def Bop.is : Bop → Operator → Bool
  | .add, .Add => true | .sub, .Sub => true | .mul, .Mult => true | .fdiv, .FloorDiv => true | .mod, .Mod => true | .pow, .Pow => true
  | _, _ => false
def Cop.is : Cop → CmpOp → Bool
  | .eq, .Eq => true | .ne, .NotEq => true | .lt, .Lt => true | .le, .LtE => true | .gt, .Gt => true | .ge, .GtE => true | .isin, .In => true | .nin, .NotIn => true | .is_, .Is => true | .isnt, .IsNot => true
  | _, _ => false
/-- as a test it is read as any value -/
def plainT : Expr → Bool
  | .Name .. => true
  | .Call .. => true
  | .Constant .. => true
  | .Subscript .. => true
  | .Attribute .. => true
  | _ => false
/-- a class of isinstance -/
def Stat.tyE (Z : Stat) (sc : Scope) : Sum Ty Nat → Expr → Bool
  | .inl t, .Name x _ => decide (x = (t.nm : Str)) && Z.no sc x
  | .inr c, .Name x _ => Z.isCl sc x c
  | _, _ => false
def Stat.tyEs (Z : Stat) (sc : Scope) : List (Sum Ty Nat) → List Expr → Bool
  | [], [] => true
  | c :: cs, e :: es => Z.tyE sc c e && Z.tyEs sc cs es
  | _, _ => false
mutual
def chP (N : List Str) (sx : Sx) : Pt → Expr → Bool
  | .nm i, e => match e with
    | .Name x _ => atN N i x && isLoc sx.sc x && (sx.fn x || isLocal sx.sc x)
    | _ => false
  | .tp ps, e => match e with
    | .Tuple es _ _ => chPs N sx ps es && es.all notStarT
    | _ => false
def chPs (N : List Str) (sx : Sx) : List Pt → List Expr → Bool
  | [], es => match es with
    | [] => true
    | _ => false
  | p :: ps, es => match es with
    | e :: es => chP N sx p e && chPs N sx ps es
    | _ => false
end
def ownP (N : List Str) (own : List Nat) : List (Str × Nat) := own.map fun i => (N.getD i Str.empty, i)
def kindOk (N : List Str) (sc scope : Scope) (own : List Nat) (y : Str × NameKind) : Bool := (match scope.names.lookup y.1 with
    | some k => decide (k = y.2)
    | none => false) && match y.2 with
  | .free => match sc.names.lookup y.1 with
    | some .cell => true
    | some .free => true
    | _ => false
  | .local => ((ownP N own).map (·.1)).contains y.1 || !N.contains y.1
  | .cell => ((ownP N own).map (·.1)).contains y.1 || !N.contains y.1
  | _ => true
def blkB (N : List Str) (sc scope : Scope) (own : List Nat) : Bool := (match scope.kind with
    | .function => true
    | _ => false) && own.all (fun i => decide (i < N.length)) && scope.names.all (kindOk N sc scope own)
abbrev Sx.blk (sx : Sx) (scope : Scope) : Sx := ⟨relS scope sx.sc, some scope⟩
def subB (l own : List Nat) : Bool := l.all fun i => own.contains i
section
variable (Z : Stat) (N : List Str)
mutual
/-- t: as a test -/
def ch (t : Bool) (sx : Sx) : C → Expr → Bool
  | .var i, e => (!t || plainT e) && match e with
    | .Name x _ => atN N i x && isVis sx.sc x && nmOk x
    | _ => false
  | .int i, e => (!t || plainT e) && match e with
    | .Constant (.int j) _ _ => decide (i = j)
    | _ => false
  | .str x, e => (!t || plainT e) && match e with
    | .Constant (.str y) _ _ => decide (x = y) && okS x
    | _ => false
  | .bl b, e => (!t || plainT e) && match e with
    | .Constant (.bool c) _ _ => b == c
    | _ => false
  | .non, e => (!t || plainT e) && match e with
    | .Constant .none _ _ => true
    | _ => false
  | .glob x, e => (!t || plainT e) && match e with
    | .Name y _ => decide (x = y) && isGl sx.sc x && nmOk x && (Z.P.glob x).isSome
    | _ => false
  | .bin _ o a b, e => !t && match e with
    | .BinOp l op r _ => o.is op && ch false sx a l && ch false sx b r
    | _ => false
  | .neg a, e => !t && match e with
    | .UnaryOp .USub x _ => ch false sx a x
    | _ => false
  | .not a, e => match e with
    | .UnaryOp .Not x _ => ch t sx a x
    | _ => false
  | .and a b, e => match e with
    | .BoolOp .And (x :: y :: r) p => ch t sx a x && ch t sx b (match r with
      | [] => y
      | _ :: _ => .BoolOp .And (y :: r) p)
    | _ => false
  | .or a b, e => match e with
    | .BoolOp .Or (x :: y :: r) p => ch t sx a x && ch t sx b (match r with
      | [] => y
      | _ :: _ => .BoolOp .Or (y :: r) p)
    | _ => false
  | .cmp o a b, e => match e with
    | .Compare l [op] [r] _ => o.is op && !behindInMarks op r && ch false sx a l && ch false sx b r
    | _ => false
  | .chain a o b p c, e => match e with
    | .Compare l [op, op'] [r, r'] _ => o.is op && p.is op' && (match o with
      | .lt => true
      | .le => true
      | _ => false) && (match p with
      | .lt => true
      | .le => true
      | _ => false) && !lastMarks [op, op'] [r, r'] && ch false sx a l && ch false sx b r && ch false sx c r'
    | _ => false
  | .ite c a b, e => !t && match e with
    | .IfExp x y z _ => ch true sx c x && ch false sx a y && ch false sx b z
    | _ => false
  | .lst _ es, e => !t && match e with
    | .List l _ => chSt sx es l && decide (l.length ≤ 1000)
    | _ => false
  | .tup es, e => !t && match e with
    | .Tuple l _ _ => chSt sx es l && decide (l.length ≤ 1000)
    | _ => false
  | .dct _ tk kvs, e => !t && match e with
    | .Dict ks vs _ => chK sx kvs ks vs && decide (kvs.length ≤ 15) && (!tk || kvs.isEmpty)
    | _ => false
  | .ix a i, e => (!t || plainT e) && match e with
    | .Subscript x y _ => notSl y && ch false sx a x && ch false sx i y
    | _ => false
  | .sl _ a lo hi, e => (!t || plainT e) && match e with
    | .Subscript x (.Slice l h none _) _ => ch false sx a x && chO sx lo l && chO sx hi h
    | _ => false
  | .attr a f, e => (!t || plainT e) && match e with
    | .Attribute x g _ => decide (f = g) && Z.rat.contains f && plainBase x && ch false sx a x
    | _ => false
  | .call _ f es ix ks, e => (!t || plainT e) && match e with
    | .Call (.Name x _) l [] _ => ix.isEmpty && ks.isEmpty && Z.isFn sx.sc x f && l.all notStar && chL sx es l
    | _ => false
  | .make c es ix ks, e => (!t || plainT e) && match e with
    | .Call (.Name x _) l [] _ => ix.isEmpty && ks.isEmpty && !l.isEmpty && Z.isCl sx.sc x c && l.all notStar && chL sx es l && ((Z.P.cl c).bind Cl.init).isSome
    | _ => false
  | .bi _ b es, e => (!t || plainT e) && match e with
    | .Call (.Name x _) l [] _ => decide (x = b.nm) && Z.no sx.sc x && !l.isEmpty && l.all notStar && chL sx es l && b.made
    | _ => false
  | .isi a cs, e => (!t || plainT e) && match e with
    | .Call (.Name x _) [y, z] [] _ => decide (x = "isinstance") && Z.no sx.sc x && notStar y && ch false sx a y && (match z with
      | .Tuple l _ _ => Z.tyEs sx.sc cs l && decide (cs.length ≤ 1000) && l.all notStar
      | z => notStar z && match cs with
        | [c] => Z.tyE sx.sc c z
        | _ => false)
    | _ => false
  | .lenset a, e => (!t || plainT e) && match e with
    | .Call (.Name x _) [.Call (.Name y _) [z] [] _] [] _ => decide (x = "len") && Z.no sx.sc x && decide (y = "set") && Z.no sx.sc y && notStar z && ch false sx a z
    | _ => false
  | .tm _ o b es, e => (!t || plainT e) && match e with
    | .Call (.Attribute x g ap) l [] cp => decide (g = b.nm) && plainBase x && l.all notStar && decide (l.length ≤ 28) && (ap.endLine == cp.line) && ch false sx o x && chL sx es l && (match b with
      | .append => !l.isEmpty
      | .popi => !l.isEmpty
      | .extend => !l.isEmpty
      | .get => !l.isEmpty
      | .get2 => !l.isEmpty
      | .pop => l.isEmpty
      | .clear => l.isEmpty
      | _ => false)
    | _ => false
  | .comp _ el own g it cond, e => !t && match e with
    | .ListComp x [⟨tg, iter, ifs, 0⟩] scope _ => blkB N sx.sc scope own && notSet iter && subB g.slots own && chP N (sx.blk scope) g tg && chI sx tg it iter && ch false (sx.blk scope) el x && chC (sx.blk scope) cond ifs
    | _ => false
  | .frz a, e => !t && ch false sx a e
  | .meth _ _ _ _ _ _, _ => false
  | .dcomp _ _ _ _ _ _ _ _, _ => false
  | .lam _ _, _ => false
  | .calv _, _ => false
  | .rev _ _, _ => false
  | .it _, _ => false
  | .rng _, _ => false
  | .enum _, _ => false
  | .zip _ _, _ => false
  | .items _, _ => false
  | .vals _, _ => false
def chL (sx : Sx) : List C → List Expr → Bool
  | [], l => l.isEmpty
  | c :: cs, l => match l with
    | e :: es => ch false sx c e && chL sx cs es
    | [] => false
def chSt (sx : Sx) : List (Bool × C) → List Expr → Bool
  | [], l => l.isEmpty
  | (s, c) :: cs, l => match l with
    | e :: es => (match s with
      | true => match e with
        | .Starred x _ => ch false sx c x
        | _ => false
      | false => notStar e && ch false sx c e) && chSt sx cs es
    | [] => false
def chK (sx : Sx) : List (C × C) → List (Option Expr) → List Expr → Bool
  | [], ks, vs => ks.isEmpty && vs.isEmpty
  | (k, v) :: r, ks, vs => match ks, vs with
    | some x :: ks, y :: vs => ch false sx k x && ch false sx v y && chK sx r ks vs
    | _, _ => false
def chO (sx : Sx) : Option C → Option Expr → Bool
  | none, e => e.isNone
  | some c, e => match e with
    | some x => ch false sx c x
    | none => false
def chI (sx : Sx) (tg : Expr) : C → Expr → Bool
  | .rng es, e => match e with
    | .Call (.Name x _) l [] _ => decide (x = "range") && Z.no sx.sc x && !l.isEmpty && l.all notStar && chL sx es l
    | _ => false
  | .enum a, e => match e with
    | .Call (.Name x _) [y] [] _ => decide (x = "enumerate") && Z.no sx.sc x && notStar y && ch false sx a y && (match tg with
      | .Tuple _ _ _ => true
      | _ => false)
    | _ => false
  | .it a, e => ch false sx a e
  | _, _ => false
def chC (sx : Sx) : Option C → List Expr → Bool
  | none, l => l.isEmpty
  | some c, l => match l with
    | [e] => ch true sx c e
    | _ => false
end
mutual
def chG (sx : Sx) : Tg → Expr → Bool
  | .pt p, e => chP N sx p e
  | .six o i, e => match e with
    | .Subscript x y _ => notSl y && ch Z N false sx o x && ch Z N false sx i y
    | _ => false
  | .fld o f, e => match e with
    | .Attribute x g _ => decide (f = g) && Z.att.contains f && ch Z N false sx o x
    | _ => false
  | .tpl ts, e => match e with
    | .Tuple es _ _ => chGs sx ts es && es.all notStarT
    | _ => false
def chGs (sx : Sx) : List Tg → List Expr → Bool
  | [], l => l.isEmpty
  | t :: ts, l => match l with
    | e :: es => chG sx t e && chGs sx ts es
    | [] => false
end
def notName : Expr → Bool
  | .Name _ _ => false
  | _ => true
def notLst : Expr → Bool
  | .List _ _ => false
  | _ => true
/-- names stored at once from a display: on one line, unlike, no constants -/
def par2 (sx : Sx) (i j : Nat) (tg v : Expr) : Bool := match tg, v with
  | .Tuple [.Name x px, .Name y py] _ _, .Tuple [a, b] _ _ => sx.raw.isNone && atN N i x && atN N j y && decide (i ≠ j) && isLocal sx.sc x && isLocal sx.sc y && (py.line == px.line) && [a, b].all notStar && !([a, b].all (foldedForSure 8)) && !([a, b].all (constantsAlone 8))
  | _, _ => false
def par3 (sx : Sx) (i j k : Nat) (tg v : Expr) : Bool := match tg, v with
  | .Tuple [.Name x px, .Name y py, .Name z pz] _ _, .Tuple [a, b, c] _ _ => sx.raw.isNone && atN N i x && atN N j y && atN N k z && decide (i ≠ j) && decide (i ≠ k) && decide (j ≠ k) && isLocal sx.sc x && isLocal sx.sc y && isLocal sx.sc z && (py.line == px.line) && (pz.line == px.line) && [a, b, c].all notStar && !([a, b, c].all (foldedForSure 8)) && !([a, b, c].all (constantsAlone 8))
  | _, _ => false
/-- the value is stored behind its making -/
def swB (sx : Sx) (tg v : Expr) : Bool := notComp v || match tg with
  | .Name y _ => !isLocal sx.sc y
  | .Subscript _ _ _ => true
  | .Attribute _ _ _ => true
  | _ => false
/-- which way a value is stored -/
def asgC (sx : Sx) (g : Tg) (c : C) (tg v : Expr) : Bool := match c, v with
  | .comp _ _ _ _ _ _, .ListComp _ _ scope pos => match g, tg with
    | .pt (.nm i), .Name y py => sx.raw.isNone && atN N i y && isLocal sx.sc y && (py.line == pos.line) && !(scope.names.any fun p => p.1 == y && (p.2 == .local || p.2 == .cell))
    | _, _ => false
  | _, _ => false
def asgD (sx : Sx) (g : Tg) (c : C) (tg v : Expr) : Bool := swB sx tg v && notStarT tg && notLst tg && ((chG Z N sx g tg && (notTup tg || notTup v || (match tg with
      | .Tuple es _ _ => es.all notName && !es.isEmpty
      | _ => false))) || (match g, c with
        | .pt (.tp [.nm i, .nm j]), .tup _ => par2 N sx i j tg v
        | .pt (.tp [.nm i, .nm j, .nm k]), .tup _ => par3 N sx i j k tg v
        | _, _ => false))
def asgB (sx : Sx) (g : Tg) (c : C) (tg v : Expr) : Bool := asgC N sx g c tg v || asgD Z N sx g c tg v
/-- an expression of a suite behind 'as n', n at slot i -/
def itemX (n : Str) (sx : Sx) : Sum Str Str → Expr → Bool
  | .inl x, e => match e with
    | .Constant (.str y) _ _ => decide (x = y) && okS x
    | _ => false
  | .inr f, e => match e with
    | .Attribute (.Name m _) g _ => decide (m = n) && decide (f = g) && Z.xat.contains f && isVis sx.sc n && nmOk n
    | _ => false
def itemsX (n : Str) (sx : Sx) : List (Sum Str Str) → List Expr → Bool
  | [], l => l.isEmpty
  | g :: gs, l => match l with
    | e :: es => itemX Z n sx g e && itemsX n sx gs es
    | [] => false
def toXE (i : Nat) : C → Option XE0
  | .attr (.var j) f => match decide (j = i) with
    | true => some (.f f)
    | false => none
  | .lst mu es => (ofItems i es).map (.l mu)
  | _ => none
def exprX (n : Str) (sx : Sx) (i : Nat) (c : C) (e : Expr) : Bool := match toXE i c with
  | some (.f f) => itemX Z n sx (.inr f) e
  | some (.l _ gs) => decide (gs.length ≤ 1000) && match e with
    | .List es _ => itemsX Z n sx gs es
    | _ => false
  | none => false
def suiteX (n : Str) (sx : Sx) (i : Nat) (b : List S) (l : List Stmt) : Bool := match b, l with
  | [.ret c], [.Return (some e) _] => exprX Z n sx i c e
  | [.asg (.pt (.nm j)) c], [.Assign [.Name x _] e _] => decide (j ≠ i) && atN N j x && isLocal sx.sc x && notComp e && exprX Z n sx i c e
  | _, _ => false
mutual
def chS (sx : Sx) : S → Stmt → Bool
  | .asg g c, s => match s with
    | .Assign [tg] v _ => asgB Z N sx g c tg v && ch Z N false sx c v
    | _ => false
  | .ife c a b, s => match s with
    | .If x y z _ => ch Z N true sx c x && chSs sx a y && chSs sx b z
    | _ => false
  | .for_ g it body, s => match s with
    | .For tg iter l [] _ => notSet iter && chP N sx g tg && chI Z N sx tg it iter && chSs sx body l
    | _ => false
  | .while_ c body, s => match s with
    | .While x l [] _ => ch Z N true sx c x && chSs sx body l
    | _ => false
  | .ret c, s => match s with
    | .Return (some e) _ => ch Z N false sx c e
    | _ => false
  | .retn, s => match s with
    | .Return none _ => true
    | _ => false
  | .ex c, s => match s with
    | .Expr e _ => notComp e && ch Z N false sx c e
    | _ => false
  | .raise c es, s => match s with
    | .Raise (some (.Call (.Name x _) l [] _)) none _ => Z.isCl sx.sc x c && isExc Z.P c && !l.isEmpty && l.all notStar && chL Z N sx es l
    | _ => false
  | .try_ body hs, s => match s with
    | .Try l hds [] [] _ => sx.raw.isNone && chSs sx body l && chHs sx hs hds && !hds.isEmpty
    | _ => false
  | .pass, s => match s with
    | .Pass _ => true
    | .Expr (.Constant (.str _) _ _) _ => true
    | _ => false
  | .cont, s => match s with
    | .Continue _ => true
    | _ => false
  | .brk, s => match s with
    | .Break _ => true
    | _ => false
  | .aug _ _ _, _ => false
  | .augs _ _ _ _, _ => false
def chSs (sx : Sx) : List S → List Stmt → Bool
  | [], l => l.isEmpty
  | s :: r, l => match l with
    | x :: q => chS sx s x && chSs sx r q
    | [] => false
def chHs (sx : Sx) : List (Nat × Option Nat × List S) → List ExceptHandler → Bool
  | [], l => l.isEmpty
  | (c, i, b) :: r, l => match l with
    | .ExceptHandler (some (.Name x _)) n (st :: su) _ :: q => Z.isCl sx.sc x c && isExc Z.P c && (match i, n with
      | some i, some n => atN N i n && isLocal sx.sc n && suiteX Z N n sx i b (st :: su)
      | _, _ => false) && chHs sx r q
    | _ => false
end
end
end PV
end
section
set_option Elab.async false
set_option linter.all false
set_option maxRecDepth 100000
set_option maxHeartbeats 1000000
/-! FC3: what must be known of a text's place; names, operators, patterns. -/
namespace PV
open PySem PySem.Spec PyProof.Rows L2
/-- the room for a call at level n -/
abbrev lv (n : Nat) : Nat := 2 * n + 1
/-- what the written part says -/
structure BaseOk (Z : Stat) (ca fa : Nat → Addr) (fdt : Nat → FuncData) (pss : Nat → List Str) (K : PySem.W.Frag) (mg : Str → Option Value) : Prop where
  gfn : ∀ x f, Z.gl.lookup x = some (.fn f) → mg x = some (.ref (fa f)) ∧ PySem.W.keepIn K (.ref (fa f)) = true ∧ ∃ d, Z.P.fn f = some d
  gcl : ∀ x c, Z.gl.lookup x = some (.cl c) → mg x = some (.ref (ca c))
  gco : ∀ x t, Z.P.glob x = some t → ∃ u v, mg x = some u ∧ RelV v u ∧ ((∃ i, t = .int i ∧ v = .int i) ∨ ∃ z, t = .str z ∧ v = .str z ∧ okS z = true)
  gno : ∀ x, bltNames.contains x = true → Z.gl.lookup x = none → Z.P.glob x = none → mg x = none
  fbd : ∀ f d, Z.P.fn f = some d → (pss f).length = d.np ∧ ∀ us : List Value, us.length = (pss f).length → bindArgs (fdt f) ⟨us, []⟩ = pure ((pss f).zip us)
  mks : ∀ c cl i, Z.P.cl c = some cl → cl.init = some i → Mk K (ca c) (fa i) ∧ ∃ d k, Z.P.fn i = some d ∧ d.np = k + 1
  nat : ∀ c ∈ Z.P.own, ∀ f ∈ Z.att, Cls K (ca c) ∧ NoAttr K (ca c) f
  rat : ∀ f ∈ Z.rat, ∀ c cl, Z.P.cl c = some cl → cl.exc = none → (fget cl.props f = none → Cls K (ca c) ∧ NoAttr K (ca c) f) ∧ ∀ q, fget cl.props f = some q → Cls K (ca c) ∧ (∃ pa, PropOf K (ca c) f pa (fa q)) ∧ ∃ d, Z.P.fn q = some d ∧ d.np = 1
  noeq : ∀ c cl, Z.P.cl c = some cl → cl.eqm = none
  isa : IsaOk K ca Z.P.own
  exm : ExmOk Z.P ca K
  xf : ∀ f ∈ Z.xat, XfOk Z.P ca K f
/-- of the exceptions' classes -/
def ExcsOk (Z : Stat) (ca : Nat → Addr) (prog : Program) (w : World) (K : PySem.W.Frag) (mg : Str → Option Value) (base : Heap) : Prop := ∀ c, isExc Z.P c = true →
  ∃ fl fI fd ps, (Z.P.cl c).bind Cl.exc = some (some fl) ∧ OexC K (ca c) ∧ PySem.W.findIn K (.ref (ca c)) "__init__" = some (some (.ref fI)) ∧ PySem.W.typeIn K (.ref fI) = some (.type "function") ∧ FnOk prog w K mg base CX0 1 fI fd ps (spExc (ca c) fl) ∧ Binds K fd ps []
def FnsOk (Z : Stat) (ca fa : Nat → Addr) (fdt : Nat → FuncData) (pss : Nat → List Str) (n : Nat) (prog : Program) (w : World) (K : PySem.W.Frag) (mg : Str → Option Value) (base : Heap) : Prop := ∀ z f d, Z.P.fn f = some d →
  FnG prog w K mg base (lv n) (fa f) (fdt f) (pss f) (spR K ca (run Z.P Z.LM n z f) d.np)
section
variable (Z : Stat) (ca fa : Nat → Addr) (fdt : Nat → FuncData) (pss : Nat → List Str) (n : Nat) (N : List Str)
/-- what is known where a text is checked -/
structure Gd (sx : Sx) (X : Cx) (W : WX) : Prop where
  b : BaseOk Z ca fa fdt pss X.K X.mg
  e : ExcsOk Z ca X.prog X.w X.K X.mg X.base
  f : FnsOk Z ca fa fdt pss n X.prog X.w X.K X.mg X.base
  low : Low X
  hN : X.N = N
  nd : N.Nodup
  sc : X.env.scope = sx.sc
  fn : ∀ x, sx.fn x = true → X.fn x = true
  calm : X.calm = true
  room : Room (lv n + 1) X.A
  gd : X.A.guards = some []
  tk : Takes X W
  po : PassesOwn (model X.prog X.w) X.A X.env X.xe
  st : sx.raw = none → X.stack = X.env :: X.outer ∧ X.env.frame = some X.env.locals ∧ X.env.scope.kind = .function
end
section
variable {Z : Stat} {ca fa : Nat → Addr} {fdt : Nat → FuncData} {pss : Nat → List Str} {n : Nat} {N : List Str} {sx : Sx} {X : Cx} {W : WX}
theorem Gd.units (G : Gd Z ca fa fdt pss n N sx X W) : X.A.units + 64 + 8 < cLine := by have := G.room.un; omega
theorem isGl_ok {sc : Scope} {x : Str} (h : isGl sc x = true) (e : X.env.scope = sc) : Gl X x := by
  unfold isGl at h
  show X.env.scope.names.lookup x = _
  rw [e]
  split at h
  · assumption
  · cases h
theorem isVis_ok {sc : Scope} {x : Str} (h : isVis sc x = true) : Vis sc x := by
  unfold isVis at h
  unfold Vis
  split at h
  · exact .inl (by assumption)
  · exact .inr (.inl (by assumption))
  · exact .inr (.inr (by assumption))
  · cases h
theorem isLocal_ok {sc : Scope} {x : Str} (h : isLocal sc x = true) : sc.names.lookup x = some .local := by
  unfold isLocal at h
  split at h
  · assumption
  · cases h
theorem isLoc_ok {sc : Scope} {x : Str} (h : isLoc sc x = true) : L2.Loc sc x := by
  unfold isLoc at h
  unfold L2.Loc
  split at h
  · exact .inl (by assumption)
  · exact .inr (by assumption)
  · cases h
theorem atN_ok {i : Nat} {x : Str} (h : atN N i x = true) : N[i]? = some x := by
  unfold atN at h
  cases e : N[i]? with
  | none => rw [e] at h; cases h
  | some y => rw [e] at h; rw [of_decide_eq_true h]
theorem nmOk_ok {x : Str} (h : nmOk x = true) : (x == ("__debug__" : Str)) = false ∧ (x == ("__classdict__" : Str)) = false ∧ x ≠ "__name__" := by
  simp only [nmOk, Bool.and_eq_true, Bool.not_eq_true', decide_eq_false_iff_not] at h
  exact ⟨h.1.1, h.1.2, h.2⟩
theorem Gd.blt (G : Gd Z ca fa fdt pss n N sx X W) {x : Str} (h : Z.no sx.sc x = true) : Gl X x ∧ X.mg x = none ∧ (x == ("__debug__" : Str)) = false ∧ x ≠ "__name__" := by
  simp only [Stat.no, Bool.and_eq_true, Option.isNone_iff_eq_none] at h
  obtain ⟨⟨⟨⟨h1, h2⟩, h3⟩, h4⟩, h5⟩ := h
  exact ⟨isGl_ok h1 G.sc, G.b.gno x h2 h4 h5, (nmOk_ok h3).1, (nmOk_ok h3).2.2⟩
theorem Gd.isF (G : Gd Z ca fa fdt pss n N sx X W) {x : Str} {f : Nat} (h : Z.isFn sx.sc x f = true) : Gl X x ∧ (x == ("__debug__" : Str)) = false ∧ X.mg x = some (.ref (fa f)) ∧ PySem.W.keepIn X.K (.ref (fa f)) = true ∧ ∃ d, Z.P.fn f = some d := by
  simp only [Stat.isFn, Bool.and_eq_true] at h
  obtain ⟨⟨h1, h2⟩, h3⟩ := h
  split at h3
  · rename_i g e
    obtain rfl := of_decide_eq_true h3
    obtain ⟨a, b, c⟩ := G.b.gfn x _ e
    exact ⟨isGl_ok h1 G.sc, (nmOk_ok h2).1, a, b, c⟩
  · cases h3
theorem Gd.isC (G : Gd Z ca fa fdt pss n N sx X W) {x : Str} {c : Nat} (h : Z.isCl sx.sc x c = true) : Gl X x ∧ (x == ("__debug__" : Str)) = false ∧ X.mg x = some (.ref (ca c)) := by
  simp only [Stat.isCl, Bool.and_eq_true] at h
  obtain ⟨⟨h1, h2⟩, h3⟩ := h
  split at h3
  · rename_i g e
    obtain rfl := of_decide_eq_true h3
    exact ⟨isGl_ok h1 G.sc, (nmOk_ok h2).1, G.b.gcl x _ e⟩
  · cases h3
/-! ### calls wanted so many values -/
theorem run_wants {z : Bool} {f : Nat} {d : Fn} (h : Z.P.fn f = some d) : Wants (run Z.P Z.LM n z f) d.np := fun ds st hl => by
  cases n with
  | zero => rfl
  | succ k =>
    unfold run
    rw [h]
    dsimp only
    rw [decide_eq_false hl]
theorem Gd.bnd (G : Gd Z ca fa fdt pss n N sx X W) {f : Nat} {d : Fn} (h : Z.P.fn f = some d) : Bnd X.K (fdt f) (pss f) d.np [] (fun us _ => us) (fun vs _ => vs) := by
  obtain ⟨h1, h2⟩ := G.b.fbd f d h
  rw [← h1]
  exact Bnd.all (X := X) h2
/-! ### operators -/
theorem bop_op {m : Bool} {o : Bop} {op : Operator} (h : o.is op = true) : Op2 X ca W (binaryOp op) (binop m o) := by
  cases o <;> cases op <;> first | (cases h; done) | exact op_bin_add | exact op_bin_sub | exact op_bin_mul | exact op_bin_fdiv | exact op_bin_mod | exact op_bin_pow
theorem cop_op {P : Pr} {F : Bool → Nat → List D → M D} (hu : X.A.units + 64 + 8 < cLine) (ne : ∀ c cl, P.cl c = some cl → cl.eqm = none) {o : Cop} {op : CmpOp} (h : o.is op = true) : Op2 X ca W (compareOp op) (cmpop P F o) := by
  cases o <;> cases op <;> first | (cases h; done) | exact op_cmp_ne (by omega) | exact op_cmp_lt | exact op_cmp_le | exact op_cmp_gt | exact op_cmp_ge | exact op_cmp_in hu | exact op_cmp_nin hu | exact op_cmp_is | exact op_cmp_isnt | skip
  exact op_cmp_eq (by omega) fun pins s σ H x y v u Q m st a b c f fs k _ _ _ _ _ _ _ hc he _ => by rw [ne c k hc] at he; cases he
/-! ### a test -/
theorem plain_true {e : Expr} (h : plainT e = true) (env : PySem.Env) : ∀ whole, isTrue e env whole = (do let v ← whole; standAt e.pos; holding [v] (truthy v)) := fun whole => by
  cases e <;> first | (cases h; done) | rfl
def SndE (X : Cx) (ca : Nat → Addr) (W : WX) (t : Bool) (f : Env → M D) (e : Expr) : Prop := match t with
  | false => PE X e (rdE X.K ca W f)
  | true => PT X e (rdT X.K ca W fun env => (f env).bind testOf) ∧ ∀ op vs p, e = .BoolOp op vs p → PW X e (rdT X.K ca W fun env => (f env).bind testOf)
theorem snd_plain {t : Bool} {f : Env → M D} {e : Expr} (h : PE X e (rdE X.K ca W f)) (ht : (!t || plainT e) = true) : SndE X ca W t f e := by
  cases t with
  | false => exact h
  | true =>
    have ht : plainT e = true := ht
    exact ⟨pt_v h (plain_true ht _), fun op vs p z => by subst z; cases ht⟩
theorem snd_false {t : Bool} {f : Env → M D} {e : Expr} (h : PE X e (rdE X.K ca W f)) (ht : (!t) = true) : SndE X ca W t f e := by
  cases t with
  | false => exact h
  | true => cases ht
theorem snd_not {t : Bool} {f : Env → M D} {e : Expr} {p : Pos} (h : SndE X ca W t f e) : SndE X ca W t (fun env => (f env).bind fun x => (testOf x).bind fun b => .ret (.v (.bl (!b)))) (.UnaryOp .Not e p) := by
  cases t with
  | false => exact pe_no h
  | true => exact ⟨pt_no h.1, fun op vs p z => by cases z⟩
theorem snd_and {t : Bool} {f g : Env → M D} {x y : Expr} {r : List Expr} {p : Pos} (h : SndE X ca W t f x) (h2 : SndE X ca W t g (match r with
      | [] => y
      | _ :: _ => .BoolOp .And (y :: r) p)) : SndE X ca W t (fun env => andF (f env) (g env)) (.BoolOp .And (x :: y :: r) p) := by
  cases t with
  | false =>
    cases r with
    | nil => exact pe_an h (pe_one h2)
    | cons z r => exact pe_an h h2
  | true =>
    have key : PW X (.BoolOp .And (x :: y :: r) p) (rdT X.K ca W fun env => (andF (f env) (g env)).bind testOf) := by
      cases r with
      | nil => exact pw_an h.1 (pw_and1 h2.1)
      | cons z r => exact pw_an h.1 (h2.2 _ _ _ rfl)
    exact ⟨key.pt, fun op vs q z => key⟩
theorem snd_or {t : Bool} {f g : Env → M D} {x y : Expr} {r : List Expr} {p : Pos} (h : SndE X ca W t f x) (h2 : SndE X ca W t g (match r with
      | [] => y
      | _ :: _ => .BoolOp .Or (y :: r) p)) : SndE X ca W t (fun env => orF (f env) (g env)) (.BoolOp .Or (x :: y :: r) p) := by
  cases t with
  | false =>
    cases r with
    | nil => exact pe_o h (pe_one h2)
    | cons z r => exact pe_o h h2
  | true =>
    have key : PW X (.BoolOp .Or (x :: y :: r) p) (rdT X.K ca W fun env => (orF (f env) (g env)).bind testOf) := by
      cases r with
      | nil => exact pw_o h.1 (pw_or1 h2.1)
      | cons z r => exact pw_o h.1 (h2.2 _ _ _ rfl)
    exact ⟨key.pt, fun op vs q z => key⟩
theorem snd_cmp {t : Bool} {f g : Env → M D} {h : D → D → M D} {op : CmpOp} {x y : Expr} {p : Pos} (ho : Op2 X ca W (compareOp op) h) (h1 : PE X x (rdE X.K ca W f)) (h2 : PE X y (rdE X.K ca W g)) (hm : behindInMarks op y = false) :
    SndE X ca W t (fun env => (f env).bind fun x => (g env).bind fun y => h x y) (.Compare x [op] [y] p) := by
  cases t with
  | false => exact pe_cmp (pc_of ho h1 h2) hm
  | true => exact ⟨pt_c (pc_of ho h1 h2) hm, fun op vs q z => by cases z⟩
theorem snd_chain {t : Bool} {f g k : Env → M D} {h h' : D → D → M D} {op op' : CmpOp} {x y z : Expr} {p : Pos} (ho : Op2 X ca W (compareOp op) h) (ho' : Op2 X ca W (compareOp op') h') (q : Quiet h) (q' : Quiet h') (h1 : PE X x (rdE X.K ca W f)) (h2 : PE X y (rdE X.K ca W g)) (h3 : PE X z (rdE X.K ca W k)) (hm : lastMarks [op, op'] [y, z] = false) :
    SndE X ca W t (fun env => chainF (f env) (g env) (k env) h h') (.Compare x [op, op'] [y, z] p) := by
  cases t with
  | false => exact pe_ch ho ho' q q' h1 h2 h3 hm
  | true => exact ⟨pt_ch ho ho' q q' h1 h2 h3 hm, fun op vs q z => by cases z⟩
/-! ### patterns -/
mutual
theorem chP_ok (G : Gd Z ca fa fdt pss n N sx X W) : ∀ (g : Pt) (e : Expr), chP N sx g e = true → PG X e (rdP X.K ca g)
  | .nm i, e, h => by
    unfold chP at h
    split at h
    · simp only [Bool.and_eq_true, Bool.or_eq_true] at h
      obtain ⟨⟨h1, h2⟩, h3⟩ := h
      refine pg_nm (by rw [G.hN]; exact G.nd) (by rw [G.hN]; exact atN_ok h1) (by rw [G.sc]; exact isLoc_ok h2) ?_
      rcases h3 with h3 | h3
      · exact .inl (G.fn _ h3)
      · exact .inr (by rw [G.sc]; exact isLocal_ok h3)
    · cases h
  | .tp ps, e, h => by
    unfold chP at h
    split at h
    · simp only [Bool.and_eq_true] at h
      obtain ⟨a, b⟩ := chPs_ok G ps _ h.1 h.2
      exact pg_tp G.calm a h.2 b
    · cases h
theorem chPs_ok (G : Gd Z ca fa fdt pss n N sx X W) : ∀ (g : List Pt) (es : List Expr), chPs N sx g es = true → es.all notStarT = true → PGs X es (rdPs X.K ca g) ∧ es.length = g.length
  | [], es, h, _ => by
    unfold chPs at h
    split at h
    · exact ⟨pgs_n, rfl⟩
    · cases h
  | p :: ps, es, h, hs => by
    unfold chPs at h
    split at h
    · rename_i e es
      simp only [Bool.and_eq_true] at h
      simp only [List.all_cons, Bool.and_eq_true] at hs
      obtain ⟨a, b⟩ := chPs_ok G ps es h.2 hs.2
      exact ⟨pgs_c (chP_ok G p e h.1) a hs.1, by simp [b]⟩
    · cases h
end
end
end PV
end
section
set_option Elab.async false
set_option linter.all false
set_option maxRecDepth 100000
set_option maxHeartbeats 2000000
/-! FC4: what the checker accepts of expressions holds. -/
namespace PV
open PySem PySem.Spec PyProof.Rows L2
section
variable {Z : Stat} {ca fa : Nat → Addr} {fdt : Nat → FuncData} {pss : Nat → List Str} {n : Nat} {N : List Str} {sx : Sx} {X : Cx} {W : WX}
/-! ### built-ins -/
theorem bi_ok (G : Gd Z ca fa fdt pss n N sx X W) {m : Bool} {b : Bi} {x : Str} {e : Expr} {es : List Expr} {fl : Env → M (List D)} {p pos : Pos} (hx : x = b.nm) (hz : Z.no sx.sc x = true) (hb : b.made = true) (hs : (e :: es).all notStar = true) (ha : PA X (e :: es) (rdL X.K ca W fl)) : PE X (.Call (.Name x p) (e :: es) [] pos) (rdE X.K ca W fun env => (fl env).bind (builtin m b)) := by
  obtain ⟨h1, h2, h3, h4⟩ := G.blt hz
  have hu := G.units
  subst hx
  cases b with
  | len => exact pe_bi builtin_q cb_len h1 h2 rfl ha h4 h3 hs
  | int => exact pe_bt builtin_q cb_int h1 h2 rfl ha h4 h3 hs
  | abs => exact pe_bi builtin_q cb_abs h1 h2 rfl ha h4 h3 hs
  | list => exact pe_bt builtin_q (cb_list G.calm) h1 h2 rfl ha h4 h3 hs
  | tuple => exact pe_bt builtin_q cb_tuple h1 h2 rfl ha h4 h3 hs
  | dict => exact pe_bt builtin_q (cb_dict G.calm) h1 h2 rfl ha h4 h3 hs
  | str => exact pe_bt builtin_q cb_str h1 h2 rfl ha h4 h3 hs
  | repr => exact pe_bi builtin_q (cb_repr G.low G.gd (by omega)) h1 h2 rfl ha h4 h3 hs
  | sorted => exact pe_bi builtin_q cb_sorted h1 h2 rfl ha h4 h3 hs
  | sum => exact pe_bi builtin_q (cb_sum G.calm) h1 h2 rfl ha h4 h3 hs
  | min => exact pe_bi builtin_q (cb_min G.calm) h1 h2 rfl ha h4 h3 hs
  | max => exact pe_bi builtin_q (cb_max G.calm) h1 h2 rfl ha h4 h3 hs
  | dict0 => cases hb
  | list0 => cases hb
  | dict0T => cases hb
/-! ### methods -/
theorem recv_list {b : Tm} (hb : b = .append ∨ b = .pop ∨ b = .popi ∨ b = .extend ∨ b = .clear) {k : Option Kd} (h : okRecv b k = true) : k = some .list := by
  rcases hb with rfl | rfl | rfl | rfl | rfl <;> (unfold okRecv at h; split at h <;> first | rfl | (exact absurd h (by decide)) | (rename_i e; cases e; done) | skip)
theorem recv_dict {b : Tm} (hb : b = .get ∨ b = .get2) {k : Option Kd} (h : okRecv b k = true) : k = some .dict := by
  rcases hb with rfl | rfl <;> (unfold okRecv at h; split at h <;> first | rfl | (exact absurd h (by decide)) | (rename_i e; cases e; done) | skip)
theorem tm_gen {m : Bool} {b : Tm} {T id : String} {name : Str} {o e : Expr} {es : List Expr} {apos cpos : Pos} {fo : Env → M D} {f : Env → M (List D)} {g : D → List D → M D} (heq : ∀ x ds, tmeth m x b ds = g x ds) (hok : ∀ {m H st d x}, RS X.K ca m H st → RD X.K ca m H d x → okRecv b (kindOf st d) = true → TyR X H x T)
    (pa : PlainAttrs T) (slot : Slot T name id) (hty : typeOf (.builtin id) = pure (.type "method_descriptor")) (hq : QuietM g) (hm : MtR X id (rMq X.K ca g)) (ho : PE X o (rdE X.K ca W fo)) (ha : PA X (e :: es) (rdL X.K ca W f))
    (hb : plainBase o = true) (hl : (e :: es).length ≤ 28) (hs : (e :: es).all notStar = true) (hline : (apos.endLine == cpos.line) = true) : PE X (.Call (.Attribute o name apos) (e :: es) [] cpos) (rdE X.K ca W fun env => (fo env).bind fun x s => (guardM (okRecv b (kindOf s x)) s).bind fun _ => (f env).bind fun ds => tmeth m x b ds) := by
  have z := pe_tq (ok := okRecv b) hok pa slot hty hq hm ho ha hb (by simp at hl; omega) hs hline
  simpa only [heq] using z
theorem tm_gen0 {m : Bool} {b : Tm} {T id : String} {name : Str} {o : Expr} {apos cpos : Pos} {fo : Env → M D} {g : D → List D → M D} (heq : ∀ x ds, tmeth m x b ds = g x ds) (hok : ∀ {m H st d x}, RS X.K ca m H st → RD X.K ca m H d x → okRecv b (kindOf st d) = true → TyR X H x T)
    (pa : PlainAttrs T) (slot : Slot T name id) (hty : typeOf (.builtin id) = pure (.type "method_descriptor")) (hq : QuietM g) (hm : MtR X id (rMq X.K ca g)) (ho : PE X o (rdE X.K ca W fo))
    (hb : plainBase o = true) (hline : (apos.endLine == cpos.line) = true) : PE X (.Call (.Attribute o name apos) [] [] cpos) (rdE X.K ca W fun env => (fo env).bind fun x s => (guardM (okRecv b (kindOf s x)) s).bind fun _ => (M.ret []).bind fun ds => tmeth m x b ds) := by
  have z := pe_tq0 (ok := okRecv b) hok pa slot hty hq hm ho hb hline
  refine z.imp fun σ H Q h => ?_
  have e : (fun env : Env => (fo env).bind fun x s => (guardM (okRecv b (kindOf s x)) s).bind fun _ => (M.ret []).bind fun ds => tmeth m x b ds) = fun env : Env => (fo env).bind fun x s => (guardM (okRecv b (kindOf s x)) s).bind fun _ => g x [] := by
    funext env
    congr 1
    funext x s
    congr 1
    funext _
    show tmeth m x b [] = g x []
    exact heq x []
  rw [e] at h
  exact h
theorem tm_ok (G : Gd Z ca fa fdt pss n N sx X W) {m : Bool} {b : Tm} {o e : Expr} {es : List Expr} {apos cpos : Pos} {fo : Env → M D} {f : Env → M (List D)} (hb0 : (match b with
      | .append => true
      | .popi => true
      | .extend => true
      | .get => true
      | .get2 => true
      | _ => false) = true) (ho : PE X o (rdE X.K ca W fo)) (ha : PA X (e :: es) (rdL X.K ca W f))
    (hb : plainBase o = true) (hl : (e :: es).length ≤ 28) (hs : (e :: es).all notStar = true) (hline : (apos.endLine == cpos.line) = true) : PE X (.Call (.Attribute o b.nm apos) (e :: es) [] cpos) (rdE X.K ca W fun env => (fo env).bind fun x s => (guardM (okRecv b (kindOf s x)) s).bind fun _ => (f env).bind fun ds => tmeth m x b ds) := by
  have hu := G.units
  cases b with
  | append => exact tm_gen (fun _ _ => tmeth_append) (fun r d h => kd_list r d (recv_list (.inl rfl) h)) PySem.F.plainAttrs_list PySem.F.slot_list_append rfl (gOne_q tmAppend_q) mq_append ho ha hb hl hs hline
  | popi => exact tm_gen (fun _ _ => tmeth_popi) (fun r d h => kd_list r d (recv_list (.inr (.inr (.inl rfl))) h)) PySem.F.plainAttrs_list PySem.F.slot_list_pop rfl (gOne_q tmPopi_q) mq_popi ho ha hb hl hs hline
  | extend => exact tm_gen (fun _ _ => tmeth_extend) (fun r d h => kd_list r d (recv_list (.inr (.inr (.inr (.inl rfl)))) h)) PySem.F.plainAttrs_list PySem.F.slot_list_extend rfl (gOne_q tmExtend_q) mq_extend ho ha hb hl hs hline
  | get => exact tm_gen (fun _ _ => tmeth_get) (fun r d h => kd_dict r d (recv_dict (.inl rfl) h)) PySem.F.plainAttrs_dict PySem.F.slot_dict_get rfl (gOne_q fun o k => tmGet_q o k _) (mq_get (by omega)) ho ha hb hl hs hline
  | get2 => exact tm_gen (fun _ _ => tmeth_get2) (fun r d h => kd_dict r d (recv_dict (.inr rfl) h)) PySem.F.plainAttrs_dict PySem.F.slot_dict_get rfl (gTwo_q tmGet_q) (mq_get2 (by omega)) ho ha hb hl hs hline
  | pop => cases hb0
  | clear => cases hb0
  | update => cases hb0
  | join => cases hb0
  | split => cases hb0
  | startswith => cases hb0
  | index => cases hb0
  | count => cases hb0
  | remove => cases hb0
  | values => cases hb0
theorem tm_ok0 (G : Gd Z ca fa fdt pss n N sx X W) {m : Bool} {b : Tm} {o : Expr} {apos cpos : Pos} {fo : Env → M D} (hb0 : (match b with
      | .pop => true
      | .clear => true
      | _ => false) = true) (ho : PE X o (rdE X.K ca W fo))
    (hb : plainBase o = true) (hline : (apos.endLine == cpos.line) = true) : PE X (.Call (.Attribute o b.nm apos) [] [] cpos) (rdE X.K ca W fun env => (fo env).bind fun x s => (guardM (okRecv b (kindOf s x)) s).bind fun _ => (M.ret []).bind fun ds => tmeth m x b ds) := by
  cases b with
  | pop => exact tm_gen0 (fun _ _ => tmeth_pop) (fun r d h => kd_list r d (recv_list (.inr (.inl rfl)) h)) PySem.F.plainAttrs_list PySem.F.slot_list_pop rfl (gNone_q tmPop_q) mq_pop ho hb hline
  | clear => exact tm_gen0 (fun _ _ => tmeth_clear) (fun r d h => kd_list r d (recv_list (.inr (.inr (.inr (.inr rfl)))) h)) PySem.F.plainAttrs_list PySem.F.slot_list_clear rfl (gNone_q tmClear_q) mq_clear ho hb hline
  | append => cases hb0
  | popi => cases hb0
  | extend => cases hb0
  | get => cases hb0
  | get2 => cases hb0
  | update => cases hb0
  | join => cases hb0
  | split => cases hb0
  | startswith => cases hb0
  | index => cases hb0
  | count => cases hb0
  | remove => cases hb0
  | values => cases hb0
/-! ### isinstance -/
theorem boot_ty (t : Ty) : bootBuiltins (t.nm : Str) = some (.type t.nm) := by cases t <;> rfl
theorem tyE_ok (G : Gd Z ca fa fdt pss n N sx X W) {c : Sum Ty Nat} {e : Expr} (h : Z.tyE sx.sc c e = true) : PE X e (tC (clsV ca c)) := by
  unfold Stat.tyE at h
  split at h
  · rw [Bool.and_eq_true] at h
    obtain ⟨h1, h2, h3, h4⟩ := G.blt h.2
    have hx := of_decide_eq_true h.1
    subst hx
    exact pe_tyN h1 h2 (boot_ty _) h4 h3
  · obtain ⟨h1, h2, h3⟩ := G.isC h
    exact pe_ownN h1 h3 h2
  · cases h
theorem tyEs_ok (G : Gd Z ca fa fdt pss n N sx X W) : ∀ {cs : List (Sum Ty Nat)} {es : List Expr}, Z.tyEs sx.sc cs es = true → es.all notStar = true → PA X es (tCs (cs.map (clsV ca)))
  | [], [], _, _ => pa_cs0
  | [], _ :: _, h, _ => by cases h
  | _ :: _, [], h, _ => by cases h
  | c :: cs, e :: es, h, hs => by
    have h : (Z.tyE sx.sc c e && Z.tyEs sx.sc cs es) = true := h
    rw [Bool.and_eq_true] at h
    simp only [List.all_cons, Bool.and_eq_true] at hs
    exact pa_cs (tyE_ok G h.1) (tyEs_ok G h.2 hs.2) hs.1
theorem isi_ok (G : Gd Z ca fa fdt pss n N sx X W) {x : Str} {y z : Expr} {cs : List (Sum Ty Nat)} {p pos : Pos} {fa' : Env → M D} (hx : x = "isinstance") (hz : Z.no sx.sc x = true) (hy : notStar y = true) (ha : PE X y (rdE X.K ca W fa')) (hc : (match z with
      | .Tuple l _ _ => Z.tyEs sx.sc cs l && decide (cs.length ≤ 1000) && l.all notStar
      | z => notStar z && match cs with
        | [c] => Z.tyE sx.sc c z
        | _ => false) = true) : PE X (.Call (.Name x p) [y, z] [] pos) (rdE X.K ca W fun env => (fa' env).bind (isiK Z.P.own cs)) := by
  subst hx
  obtain ⟨h1, h2, h3, h4⟩ := G.blt hz
  split at hc
  · simp only [Bool.and_eq_true] at hc
    exact pe_isiN G.b.isa h1 h2 ha (tyEs_ok G hc.1.1 hc.2) hy (by have := of_decide_eq_true hc.1.2; unfold sizeLine; omega)
  · rw [Bool.and_eq_true] at hc
    obtain ⟨k1, k2⟩ := hc
    split at k2
    · exact pe_isi1 G.b.isa h1 h2 ha (tyE_ok G k2) hy k1
    · cases k2
/-! ### blocks -/
theorem ownP_snd (own : List Nat) : (ownP N own).map (·.2) = own := by
  unfold ownP
  rw [List.map_map]
  induction own with
  | nil => rfl
  | cons i r ih => rw [List.map_cons, ih]; rfl
theorem blkB_ok {sc scope : Scope} {own : List Nat} (h : blkB N sc scope own = true) : BlkOk N sc scope (ownP N own) := by
  simp only [blkB, Bool.and_eq_true, List.all_eq_true] at h
  obtain ⟨⟨h1, h2⟩, h3⟩ := h
  have hk : ∀ y ∈ scope.names, scope.names.lookup y.1 = some y.2 := fun y hy => by
    have := h3 y hy
    simp only [kindOk, Bool.and_eq_true] at this
    obtain ⟨a, _⟩ := this
    split at a
    · rename_i k e; rw [e, of_decide_eq_true a]
    · cases a
  have key : ∀ y ∈ scope.names, (y.2 = .local ∨ y.2 = .cell) → (((ownP N own).map (·.1)).contains y.1 || !N.contains y.1) = true := fun y hy hl => by
    have := h3 y hy
    simp only [kindOk, Bool.and_eq_true] at this
    obtain ⟨_, b⟩ := this
    obtain ⟨y1, y2⟩ := y
    rcases hl with rfl | rfl <;> exact b
  refine ⟨?_, hk, fun p hp => ?_, fun y hy e => ?_, fun y hy hl => ?_⟩
  · split at h1
    · assumption
    · cases h1
  · obtain ⟨i, hi, rfl⟩ := List.mem_map.mp hp
    have hl := of_decide_eq_true (h2 i hi)
    show N[i]? = some (N.getD i Str.empty)
    rw [List.getD_eq_getElem?_getD, List.getElem?_eq_getElem hl]
    rfl
  · have := h3 y hy
    simp only [kindOk, Bool.and_eq_true] at this
    obtain ⟨_, b⟩ := this
    obtain ⟨y1, y2⟩ := y
    obtain rfl : y2 = .free := e
    dsimp only at b ⊢
    split at b
    · exact .inl (by assumption)
    · exact .inr (by assumption)
    · cases b
  · have := key y hy hl
    rw [Bool.or_eq_true] at this
    rcases this with q | q
    · exact .inl (by simpa using q)
    · exact .inr (by simpa using q)
theorem Gd.blk (G : Gd Z ca fa fdt pss n N sx X W) (scope : Scope) (s : Shared) (H : Hp) (C : Addr) (cl : List (Str × Addr)) (fp : List Addr) : Gd Z ca fa fdt pss n N (sx.blk scope) (X.blk s H scope (compEnvC scope cl C X.env) fp) W0 where
  b := G.b
  e := G.e
  f := G.f
  low := G.low
  hN := G.hN
  nd := G.nd
  sc := by
    show relS scope X.env.scope = relS scope sx.sc
    rw [G.sc]
  fn := fun x h => by
    show (scope.names.lookup x == some .cell) = true
    have h : (match scope.names.lookup x with
      | some .cell => true
      | _ => false) = true := h
    split at h
    · rename_i e; rw [e]; rfl
    · cases h
  calm := G.calm
  room := G.room
  gd := G.gd
  tk := fun _ _ ⟨_, _, _, _, _, _, _, _, _, _, _, _, _, _, _, _, w⟩ => w.elim
  po := PassesOwn.never
  st := fun h => by cases h
theorem Gd.zero (G : Gd Z ca fa fdt pss n N sx X W) : Gd Z ca fa fdt pss n N sx X W0 := { G with tk := fun _ _ ⟨_, _, _, _, _, _, _, _, _, _, _, _, _, _, _, _, w⟩ => w.elim }
theorem plainIx_of {y : Expr} (h : notSl y = true) : PlainIx y := by
  intro o i
  cases y <;> first | (cases h; done) | rfl
theorem subB_ok {l own : List Nat} (h : subB l own = true) : ∀ i ∈ l, i ∈ own := fun i hi => by
  have := List.all_eq_true.mp h i hi
  simpa using this
/-! ### displays -/
theorem evst_len {P : Pr} {F : Bool → Nat → List D → M D} {FL : Nat → Env → M D} {env : Env} : ∀ {es : List (Bool × C)} {st st' : Sto} {ds : List D}, evst P F FL env es st = .ok ds st' → (es.any fun p => p.1) = false → ds.length = es.length
  | [], _, _, _, e, _ => by cases e; rfl
  | (b, c) :: r, st, st', ds, e, h => by
    simp only [List.any_cons, Bool.or_eq_false_iff] at h
    obtain ⟨rfl, h⟩ := h
    have e : ((ev P F FL env c).bind fun x s => ((evst P F FL env r) s).bind fun xs => .ret (x :: xs)) st = .ok ds st' := e
    obtain ⟨x, s1, e1, e2⟩ := bind_ok (f := ev P F FL env c) e
    obtain ⟨xs, s2, e3, e4⟩ := bind_ok (f := evst P F FL env r) (g := fun xs => .ret (x :: xs)) e2
    cases e4
    simp [evst_len e3 h]
theorem few_ok {P : Pr} {F : Bool → Nat → List D → M D} {FL : Nat → Env → M D} {es : List (Bool × C)} (h : es.length ≤ 1000) : Few (fun env => evst P F FL env es) (fewS es) := fun env st ds st' e g => by
  unfold fewS at g
  rw [Bool.or_eq_true] at g
  rcases g with g | g
  · have := evst_len e (by simpa using g)
    rw [this, sizeLine_eq]; omega
  · have := of_decide_eq_true g
    rw [sizeLine_eq]; unfold LIM at this; omega
theorem evk_F {P : Pr} {F : Bool → Nat → List D → M D} {FL : Nat → Env → M D} {env : Env} : ∀ kvs : List (C × C), evk P F FL env kvs = evkF env (kvs.map fun p => (fun en => ev P F FL en p.1, fun en => ev P F FL en p.2))
  | [] => rfl
  | (k, v) :: r => by
    rw [List.map_cons]
    unfold evk evkF
    rw [evk_F r]
    all_goals rfl
end
end PV
end
section
set_option Elab.async false
set_option linter.all false
set_option maxRecDepth 100000
set_option maxHeartbeats 4000000
/-! FC5: expressions. -/
namespace PV
open PySem PySem.Spec PyProof.Rows L2
section
variable {Z : Stat} {ca fa : Nat → Addr} {fdt : Nat → FuncData} {pss : Nat → List Str} {n : Nat} {N : List Str} {FL : Nat → Env → M D}
theorem and2 {a b : Bool} (h : (a && b) = true) : a = true ∧ b = true := by simpa using h
theorem nt {a : Bool} (h : (!a) = true) : a = false := by simpa using h
theorem emp {α : Type} {l : List α} (h : l.isEmpty = true) : l = [] := by simpa using h
theorem nemp {α : Type} {l : List α} (h : (!l.isEmpty) = true) : ∃ x r, l = x :: r := by
  cases l with
  | nil => cases h
  | cons x r => exact ⟨x, r, rfl⟩
set_option linter.unusedVariables false
mutual
theorem ch_ok : ∀ (c : C) (t : Bool) (sx : Sx) (e : Expr), ch Z N t sx c e = true → ∀ (X : Cx) (W : WX), Gd Z ca fa fdt pss n N sx X W → SndE X ca W t (fun env => ev Z.P (run Z.P Z.LM n) FL env c) e
  | .var i, t, sx, e, h, X, W, G => by
    unfold ch at h
    obtain ⟨ht, h⟩ := and2 h
    split at h
    · obtain ⟨h, h3⟩ := and2 h
      obtain ⟨h1, h2⟩ := and2 h
      obtain ⟨n1, n2, n3⟩ := nmOk_ok h3
      exact snd_plain (pe_v (by rw [G.hN]; exact atN_ok h1) (by rw [G.sc]; exact isVis_ok h2) n1 n2) ht
    · cases h
  | .int i, t, sx, e, h, X, W, G => by
    unfold ch at h
    obtain ⟨ht, h⟩ := and2 h
    split at h
    · obtain rfl := of_decide_eq_true h
      exact snd_plain pe_i ht
    · cases h
  | .str x, t, sx, e, h, X, W, G => by
    unfold ch at h
    obtain ⟨ht, h⟩ := and2 h
    split at h
    · obtain ⟨h1, h2⟩ := and2 h
      obtain rfl := of_decide_eq_true h1
      exact snd_plain (pe_s h2) ht
    · cases h
  | .bl b, t, sx, e, h, X, W, G => by
    unfold ch at h
    obtain ⟨ht, h⟩ := and2 h
    split at h
    · obtain rfl := eq_of_beq h
      exact snd_plain pe_b ht
    · cases h
  | .non, t, sx, e, h, X, W, G => by
    unfold ch at h
    obtain ⟨ht, h⟩ := and2 h
    split at h
    · exact snd_plain pe_n ht
    · cases h
  | .glob x, t, sx, e, h, X, W, G => by
    unfold ch at h
    obtain ⟨ht, h⟩ := and2 h
    split at h
    · obtain ⟨h, h4⟩ := and2 h
      obtain ⟨h, h3⟩ := and2 h
      obtain ⟨h1, h2⟩ := and2 h
      obtain rfl := of_decide_eq_true h1
      obtain ⟨u, hu⟩ := Option.isSome_iff_exists.mp h4
      refine snd_plain ?_ ht
      show PE X _ (rdE X.K ca W fun env => M.opt ((Z.P.glob _).map .v))
      rw [hu]
      exact pe_g (isGl_ok h2 G.sc) (G.b.gco _ _ hu) (nmOk_ok h3).1
    · cases h
  | .bin m o a b, t, sx, e, h, X, W, G => by
    unfold ch at h
    obtain ⟨ht, h⟩ := and2 h
    split at h
    · obtain ⟨h, h3⟩ := and2 h
      obtain ⟨h1, h2⟩ := and2 h
      exact snd_false (pe_bin (bop_op h1) (ch_ok a false sx _ h2 X W G) (ch_ok b false sx _ h3 X W G)) ht
    · cases h
  | .neg a, t, sx, e, h, X, W, G => by
    unfold ch at h
    obtain ⟨ht, h⟩ := and2 h
    split at h
    · exact snd_false (pe_neg (ch_ok a false sx _ h X W G)) ht
    · cases h
  | .not a, t, sx, e, h, X, W, G => by
    unfold ch at h
    split at h
    · exact snd_not (ch_ok a t sx _ h X W G)
    · cases h
  | .and a b, t, sx, e, h, X, W, G => by
    unfold ch at h
    split at h
    · obtain ⟨h1, h2⟩ := and2 h
      exact snd_and (ch_ok a t sx _ h1 X W G) (ch_ok b t sx _ h2 X W G)
    · cases h
  | .or a b, t, sx, e, h, X, W, G => by
    unfold ch at h
    split at h
    · obtain ⟨h1, h2⟩ := and2 h
      exact snd_or (ch_ok a t sx _ h1 X W G) (ch_ok b t sx _ h2 X W G)
    · cases h
  | .cmp o a b, t, sx, e, h, X, W, G => by
    unfold ch at h
    split at h
    · obtain ⟨h, h4⟩ := and2 h
      obtain ⟨h, h3⟩ := and2 h
      obtain ⟨h1, h2⟩ := and2 h
      exact snd_cmp (cop_op G.units G.b.noeq h1) (ch_ok a false sx _ h3 X W G) (ch_ok b false sx _ h4 X W G) (nt h2)
    · cases h
  | .chain a o b p c, t, sx, e, h, X, W, G => by
    unfold ch at h
    split at h
    · obtain ⟨h, h7⟩ := and2 h
      obtain ⟨h, h6⟩ := and2 h
      obtain ⟨h, h5⟩ := and2 h
      obtain ⟨h, h4⟩ := and2 h
      obtain ⟨h, h3⟩ := and2 h
      obtain ⟨h, h2⟩ := and2 h
      obtain ⟨h1, h0⟩ := and2 h
      have q1 : Quiet (cmpop Z.P (run Z.P Z.LM n) o) := by
        split at h2
        · exact quiet_lt
        · exact quiet_le
        · cases h2
      have q2 : Quiet (cmpop Z.P (run Z.P Z.LM n) p) := by
        split at h3
        · exact quiet_lt
        · exact quiet_le
        · cases h3
      exact snd_chain (cop_op G.units G.b.noeq h1) (cop_op G.units G.b.noeq h0) q1 q2 (ch_ok a false sx _ h5 X W G) (ch_ok b false sx _ h6 X W G) (ch_ok c false sx _ h7 X W G) (nt h4)
    · cases h
  | .ite c a b, t, sx, e, h, X, W, G => by
    unfold ch at h
    obtain ⟨ht, h⟩ := and2 h
    split at h
    · obtain ⟨h, h3⟩ := and2 h
      obtain ⟨h1, h2⟩ := and2 h
      exact snd_false (pe_if (ch_ok c true sx _ h1 X W G).1 (ch_ok a false sx _ h2 X W G) (ch_ok b false sx _ h3 X W G)) ht
    · cases h
  | .lst m es, t, sx, e, h, X, W, G => by
    unfold ch at h
    obtain ⟨ht, h⟩ := and2 h
    split at h
    · obtain ⟨h1, h2⟩ := and2 h
      obtain ⟨q1, q2⟩ := chSt_ok es sx _ h1 X W G
      exact snd_false (pe_li q1 (few_ok (by rw [q2]; exact of_decide_eq_true h2))) ht
    · cases h
  | .tup es, t, sx, e, h, X, W, G => by
    unfold ch at h
    obtain ⟨ht, h⟩ := and2 h
    split at h
    · obtain ⟨h1, h2⟩ := and2 h
      obtain ⟨q1, q2⟩ := chSt_ok es sx _ h1 X W G
      exact snd_false (pe_tu q1 (few_ok (by rw [q2]; exact of_decide_eq_true h2))) ht
    · cases h
  | .dct m tk kvs, t, sx, e, h, X, W, G => by
    unfold ch at h
    obtain ⟨ht, h⟩ := and2 h
    split at h
    · obtain ⟨h, h3⟩ := and2 h
      obtain ⟨h1, h2⟩ := and2 h
      refine snd_false ?_ ht
      show PE X _ (rdE X.K ca W fun env => (nox (evk Z.P (run Z.P Z.LM n) FL env kvs)).bind fun ps => (M.opt (kputs tk [] ps)).bind fun qs => mkK m tk qs)
      cases kvs with
      | nil =>
        unfold chK at h1
        obtain ⟨a1, a2⟩ := and2 h1
        obtain rfl := emp a1
        obtain rfl := emp a2
        exact pe_dd0
      | cons p r =>
        have tf : tk = false := by
          cases tk with
          | false => rfl
          | true => cases h3
        subst tf
        have q := chK_ok (p :: r) sx _ _ h1 X G.zero
        have hl := of_decide_eq_true h2
        simp only [evk_F]
        exact pe_dd q (by simp) (by simpa using hl)
    · cases h
  | .ix a i, t, sx, e, h, X, W, G => by
    unfold ch at h
    obtain ⟨ht, h⟩ := and2 h
    split at h
    · obtain ⟨h, h3⟩ := and2 h
      obtain ⟨h1, h2⟩ := and2 h
      exact snd_plain (pe_item G.units (ch_ok a false sx _ h2 X W G) (ch_ok i false sx _ h3 X W G) (plainIx_of h1)) ht
    · cases h
  | .sl m a lo hi, t, sx, e, h, X, W, G => by
    unfold ch at h
    obtain ⟨ht, h⟩ := and2 h
    split at h
    · obtain ⟨h, h3⟩ := and2 h
      obtain ⟨h1, h2⟩ := and2 h
      exact snd_plain (pe_sl (ch_ok a false sx _ h1 X W G) (chO_ok lo sx _ h2 X W G) (chO_ok hi sx _ h3 X W G)) ht
    · cases h
  | .attr a f, t, sx, e, h, X, W, G => by
    unfold ch at h
    obtain ⟨ht, h⟩ := and2 h
    split at h
    · obtain ⟨h, h4⟩ := and2 h
      obtain ⟨h, h3⟩ := and2 h
      obtain ⟨h1, h2⟩ := and2 h
      obtain rfl := of_decide_eq_true h1
      have hm : f ∈ Z.rat := by simpa using h2
      refine snd_plain (pe_at (ch_ok a false sx _ h4 X W G) h3 (fun c cl hc he hq => (G.b.rat f hm c cl hc he).1 hq) fun c cl q hc he hq => ?_) ht
      obtain ⟨k1, ⟨pa, k2⟩, d, k3, k4⟩ := (G.b.rat f hm c cl hc he).2 q hq
      have fq := G.f false q d k3
      have bq := G.bnd k3
      rw [k4] at fq bq
      exact ⟨k1, pa, fa q, fdt q, pss q, lv n, k2, fq, G.room, G.gd, bq⟩
    · cases h
  | .call z f es ix ks, t, sx, e, h, X, W, G => by
    unfold ch at h
    obtain ⟨ht, h⟩ := and2 h
    split at h
    · rename_i x _ l _ _
      obtain ⟨h, h5⟩ := and2 h
      obtain ⟨h, h4⟩ := and2 h
      obtain ⟨h, h3⟩ := and2 h
      obtain ⟨h1, h2⟩ := and2 h
      obtain rfl := emp h1
      obtain rfl := emp h2
      obtain ⟨g1, g2, g3, g4, d, g5⟩ := G.isF h3
      have hr : Room (lv n) X.A := G.room.mono (by omega)
      refine snd_plain ?_ ht
      cases l with
      | nil =>
        cases es with
        | nil => exact pe_ce0 (run_wants g5) (G.f z f d g5) hr G.gd g1 g3 g4 (G.bnd g5) G.tk g2
        | cons c cs => cases h5
      | cons y r =>
        exact pe_ce (run_wants g5) (G.f z f d g5) hr G.gd g1 g3 g4 (G.bnd g5) G.tk (chL_ok es sx _ h5 h4 X W G) g2 h4
    · cases h
  | .make c es ix ks, t, sx, e, h, X, W, G => by
    unfold ch at h
    obtain ⟨ht, h⟩ := and2 h
    split at h
    · rename_i x _ l _ _
      obtain ⟨h, h7⟩ := and2 h
      obtain ⟨h, h6⟩ := and2 h
      obtain ⟨h, h5⟩ := and2 h
      obtain ⟨h, h4⟩ := and2 h
      obtain ⟨h, h3⟩ := and2 h
      obtain ⟨h1, h2⟩ := and2 h
      obtain rfl := emp h1
      obtain rfl := emp h2
      obtain ⟨y, r, rfl⟩ := nemp h3
      obtain ⟨g1, g2, g3⟩ := G.isC h4
      obtain ⟨i, hi⟩ := Option.isSome_iff_exists.mp h7
      obtain ⟨cl, hc, hi⟩ := Option.bind_eq_some_iff.mp hi
      obtain ⟨mk, d, k, hd, hk⟩ := G.b.mks c cl i hc hi
      have w1 := run_wants (Z := Z) (n := n) (z := false) hd
      have fi := G.f false i d hd
      have bi := G.bnd hd
      rw [hk] at w1 fi bi
      exact snd_plain (pe_mk hc hi w1 mk fi G.room G.gd g1 g3 bi G.tk (chL_ok es sx _ h6 h5 X W G) g2 h5) ht
    · cases h
  | .bi m b es, t, sx, e, h, X, W, G => by
    unfold ch at h
    obtain ⟨ht, h⟩ := and2 h
    split at h
    · rename_i x _ l _ _
      obtain ⟨h, h6⟩ := and2 h
      obtain ⟨h, h5⟩ := and2 h
      obtain ⟨h, h4⟩ := and2 h
      obtain ⟨h, h3⟩ := and2 h
      obtain ⟨h1, h2⟩ := and2 h
      obtain ⟨y, r, rfl⟩ := nemp h3
      exact snd_plain (bi_ok G (of_decide_eq_true h1) h2 h6 h4 (chL_ok es sx _ h5 h4 X W G)) ht
    · cases h
  | .isi a cs, t, sx, e, h, X, W, G => by
    unfold ch at h
    obtain ⟨ht, h⟩ := and2 h
    split at h
    · obtain ⟨h, h5⟩ := and2 h
      obtain ⟨h, h4⟩ := and2 h
      obtain ⟨h, h3⟩ := and2 h
      obtain ⟨h1, h2⟩ := and2 h
      exact snd_plain (isi_ok G (of_decide_eq_true h1) h2 h3 (ch_ok a false sx _ h4 X W G) h5) ht
    · cases h
  | .lenset a, t, sx, e, h, X, W, G => by
    unfold ch at h
    obtain ⟨ht, h⟩ := and2 h
    split at h
    · obtain ⟨h, h6⟩ := and2 h
      obtain ⟨h, h5⟩ := and2 h
      obtain ⟨h, h4⟩ := and2 h
      obtain ⟨h, h3⟩ := and2 h
      obtain ⟨h1, h2⟩ := and2 h
      obtain rfl := of_decide_eq_true h1
      obtain rfl := of_decide_eq_true h3
      obtain ⟨a1, a2, a3, a4⟩ := G.blt h2
      obtain ⟨b1, b2, b3, b4⟩ := G.blt h4
      exact snd_plain (pe_ls G.calm a1 a2 b1 b2 (ch_ok a false sx _ h6 X W G) h5) ht
    · cases h
  | .tm m o b es, t, sx, e, h, X, W, G => by
    unfold ch at h
    obtain ⟨ht, h⟩ := and2 h
    split at h
    · rename_i x g ap l cp _
      obtain ⟨h, h8⟩ := and2 h
      obtain ⟨h, h7⟩ := and2 h
      obtain ⟨h, h6⟩ := and2 h
      obtain ⟨h, h5⟩ := and2 h
      obtain ⟨h, h4⟩ := and2 h
      obtain ⟨h, h3⟩ := and2 h
      obtain ⟨h1, h2⟩ := and2 h
      obtain rfl := of_decide_eq_true h1
      refine snd_plain ?_ ht
      have ho := ch_ok o false sx _ h6 X W G
      cases l with
      | nil =>
        cases es with
        | nil => exact tm_ok0 G (by cases b <;> first | rfl | cases h8) ho h2 h5
        | cons c cs => cases h7
      | cons y r => exact tm_ok G (by cases b <;> first | rfl | cases h8) ho (chL_ok es sx _ h7 h3 X W G) h2 (of_decide_eq_true h4) h3 h5
    · cases h
  | .comp m el own g it cond, t, sx, e, h, X, W, G => by
    unfold ch at h
    obtain ⟨ht, h⟩ := and2 h
    split at h
    · rename_i x tg iter ifs scope pos _
      obtain ⟨h, h7⟩ := and2 h
      obtain ⟨h, h6⟩ := and2 h
      obtain ⟨h, h5⟩ := and2 h
      obtain ⟨h, h4⟩ := and2 h
      obtain ⟨h, h3⟩ := and2 h
      obtain ⟨h1, h2⟩ := and2 h
      refine snd_false ?_ ht
      have z := pe_cp (mu := m) (pos := pos) G.calm (by rw [G.hN]; exact G.nd) (chI_ok it sx tg _ h5 X W G) (by rw [G.hN, G.sc]; exact blkB_ok h1)
        (fun s H C cl fp => chP_ok (G.blk scope s H C cl fp) g tg h4) (fun s H C cl fp => chC_ok cond (sx.blk scope) ifs h7 _ _ (G.blk scope s H C cl fp))
        (fun s H C cl fp => ch_ok el false (sx.blk scope) x h6 _ _ (G.blk scope s H C cl fp)) h2 (by rw [ownP_snd]; exact subB_ok h3)
      rw [ownP_snd] at z
      exact z
    · cases h
  | .frz a, t, sx, e, h, X, W, G => by
    unfold ch at h
    obtain ⟨ht, h⟩ := and2 h
    refine snd_false ?_ ht
    exact pe_fz (ch_ok a false sx e h X W G)
  | .meth _ _ _ _ _ _, t, sx, e, h, X, W, G => by cases h
  | .dcomp _ _ _ _ _ _ _ _, t, sx, e, h, X, W, G => by cases h
  | .lam _ _, t, sx, e, h, X, W, G => by cases h
  | .calv _, t, sx, e, h, X, W, G => by cases h
  | .rev _ _, t, sx, e, h, X, W, G => by cases h
  | .it _, t, sx, e, h, X, W, G => by cases h
  | .rng _, t, sx, e, h, X, W, G => by cases h
  | .enum _, t, sx, e, h, X, W, G => by cases h
  | .zip _ _, t, sx, e, h, X, W, G => by cases h
  | .items _, t, sx, e, h, X, W, G => by cases h
  | .vals _, t, sx, e, h, X, W, G => by cases h
theorem chL_ok : ∀ (cs : List C) (sx : Sx) (l : List Expr), chL Z N sx cs l = true → l.all notStar = true → ∀ (X : Cx) (W : WX), Gd Z ca fa fdt pss n N sx X W → PA X l (rdL X.K ca W fun env => evs Z.P (run Z.P Z.LM n) FL env cs)
  | [], sx, l, h, hs, X, W, G => by
    unfold chL at h
    obtain rfl := emp h
    exact pa_n
  | c :: cs, sx, l, h, hs, X, W, G => by
    unfold chL at h
    split at h
    · obtain ⟨h1, h2⟩ := and2 h
      simp only [List.all_cons] at hs
      obtain ⟨s1, s2⟩ := and2 hs
      exact pa_c (ch_ok c false sx _ h1 X W G) (chL_ok cs sx _ h2 s2 X W G) s1
    · cases h
theorem chSt_ok : ∀ (cs : List (Bool × C)) (sx : Sx) (l : List Expr), chSt Z N sx cs l = true → ∀ (X : Cx) (W : WX), Gd Z ca fa fdt pss n N sx X W → PA X l (rdL X.K ca W fun env => evst Z.P (run Z.P Z.LM n) FL env cs) ∧ cs.length = l.length
  | [], sx, l, h, X, W, G => by
    unfold chSt at h
    obtain rfl := emp h
    exact ⟨pa_n, rfl⟩
  | (s, c) :: cs, sx, l, h, X, W, G => by
    unfold chSt at h
    split at h
    · obtain ⟨h1, h2⟩ := and2 h
      obtain ⟨q1, q2⟩ := chSt_ok cs sx _ h2 X W G
      refine ⟨?_, by simp [q2]⟩
      cases s with
      | true =>
        dsimp only at h1
        split at h1
        · exact pa_st (ch_ok c false sx _ h1 X W G) q1
        · cases h1
      | false =>
        dsimp only at h1
        obtain ⟨k1, k2⟩ := and2 h1
        exact pa_c (ch_ok c false sx _ k2 X W G) q1 k1
    · cases h
theorem chK_ok : ∀ (cs : List (C × C)) (sx : Sx) (ks : List (Option Expr)) (vs : List Expr), chK Z N sx cs ks vs = true → ∀ (X : Cx), Gd Z ca fa fdt pss n N sx X W0 → DDs X ca ks vs (cs.map fun p => (fun en => ev Z.P (run Z.P Z.LM n) FL en p.1, fun en => ev Z.P (run Z.P Z.LM n) FL en p.2))
  | [], sx, ks, vs, h, X, G => by
    unfold chK at h
    obtain ⟨a1, a2⟩ := and2 h
    obtain rfl := emp a1
    obtain rfl := emp a2
    exact .nil
  | (k, v) :: r, sx, ks, vs, h, X, G => by
    unfold chK at h
    split at h
    · obtain ⟨h, h3⟩ := and2 h
      obtain ⟨h1, h2⟩ := and2 h
      exact .cons (ch_ok k false sx _ h1 X W0 G) (ch_ok v false sx _ h2 X W0 G) (chK_ok r sx _ _ h3 X G)
    · cases h
theorem chO_ok : ∀ (c : Option C) (sx : Sx) (e : Option Expr), chO Z N sx c e = true → ∀ (X : Cx) (W : WX), Gd Z ca fa fdt pss n N sx X W → PO X e (rdO X.K ca W fun env => evo Z.P (run Z.P Z.LM n) FL env c)
  | none, sx, e, h, X, W, G => by
    unfold chO at h
    cases e with
    | none => exact po_n
    | some e => cases h
  | some c, sx, e, h, X, W, G => by
    unfold chO at h
    cases e with
    | none => cases h
    | some e => exact po_s (ch_ok c false sx _ h X W G)
theorem chI_ok : ∀ (c : C) (sx : Sx) (tg e : Expr), chI Z N sx tg c e = true → ∀ (X : Cx) (W : WX), Gd Z ca fa fdt pss n N sx X W → PI X tg e (rdI X.K ca W fun env => evi Z.P (run Z.P Z.LM n) FL env c)
  | .rng es, sx, tg, e, h, X, W, G => by
    unfold chI at h
    split at h
    · obtain ⟨h, h5⟩ := and2 h
      obtain ⟨h, h4⟩ := and2 h
      obtain ⟨h, h3⟩ := and2 h
      obtain ⟨h1, h2⟩ := and2 h
      obtain rfl := of_decide_eq_true h1
      obtain ⟨y, r, rfl⟩ := nemp h3
      obtain ⟨a1, a2, a3, a4⟩ := G.blt h2
      exact pi_rn a1 a2 (chL_ok es sx _ h5 h4 X W G) h4
    · cases h
  | .enum a, sx, tg, e, h, X, W, G => by
    unfold chI at h
    split at h
    · obtain ⟨h, h5⟩ := and2 h
      obtain ⟨h, h4⟩ := and2 h
      obtain ⟨h, h3⟩ := and2 h
      obtain ⟨h1, h2⟩ := and2 h
      obtain rfl := of_decide_eq_true h1
      obtain ⟨a1, a2, a3, a4⟩ := G.blt h2
      split at h5
      · exact pi_en a1 a2 (ch_ok a false sx _ h4 X W G) h3
      · cases h5
    · cases h
  | .it a, sx, tg, e, h, X, W, G => pi_it (ch_ok a false sx e h X W G)
  | .var _, _, _, _, h, _, _, _ => by cases h
  | .int _, _, _, _, h, _, _, _ => by cases h
  | .str _, _, _, _, h, _, _, _ => by cases h
  | .bl _, _, _, _, h, _, _, _ => by cases h
  | .non, _, _, _, h, _, _, _ => by cases h
  | .glob _, _, _, _, h, _, _, _ => by cases h
  | .bin _ _ _ _, _, _, _, h, _, _, _ => by cases h
  | .neg _, _, _, _, h, _, _, _ => by cases h
  | .not _, _, _, _, h, _, _, _ => by cases h
  | .and _ _, _, _, _, h, _, _, _ => by cases h
  | .or _ _, _, _, _, h, _, _, _ => by cases h
  | .cmp _ _ _, _, _, _, h, _, _, _ => by cases h
  | .chain _ _ _ _ _, _, _, _, h, _, _, _ => by cases h
  | .ite _ _ _, _, _, _, h, _, _, _ => by cases h
  | .lst _ _, _, _, _, h, _, _, _ => by cases h
  | .tup _, _, _, _, h, _, _, _ => by cases h
  | .dct _ _ _, _, _, _, h, _, _, _ => by cases h
  | .ix _ _, _, _, _, h, _, _, _ => by cases h
  | .sl _ _ _ _, _, _, _, h, _, _, _ => by cases h
  | .attr _ _, _, _, _, h, _, _, _ => by cases h
  | .call _ _ _ _ _, _, _, _, h, _, _, _ => by cases h
  | .make _ _ _ _, _, _, _, h, _, _, _ => by cases h
  | .bi _ _ _, _, _, _, h, _, _, _ => by cases h
  | .isi _ _, _, _, _, h, _, _, _ => by cases h
  | .lenset _, _, _, _, h, _, _, _ => by cases h
  | .tm _ _ _ _, _, _, _, h, _, _, _ => by cases h
  | .comp _ _ _ _ _ _, _, _, _, h, _, _, _ => by cases h
  | .frz _, _, _, _, h, _, _, _ => by cases h
  | .meth _ _ _ _ _ _, _, _, _, h, _, _, _ => by cases h
  | .dcomp _ _ _ _ _ _ _ _, _, _, _, h, _, _, _ => by cases h
  | .lam _ _, _, _, _, h, _, _, _ => by cases h
  | .calv _, _, _, _, h, _, _, _ => by cases h
  | .rev _ _, _, _, _, h, _, _, _ => by cases h
  | .zip _ _, _, _, _, h, _, _, _ => by cases h
  | .items _, _, _, _, h, _, _, _ => by cases h
  | .vals _, _, _, _, h, _, _, _ => by cases h
theorem chC_ok : ∀ (c : Option C) (sx : Sx) (l : List Expr), chC Z N sx c l = true → ∀ (X : Cx) (W : WX), Gd Z ca fa fdt pss n N sx X W → PTs X l (rdT X.K ca W fun env => evc Z.P (run Z.P Z.LM n) FL env c)
  | none, sx, l, h, X, W, G => by
    unfold chC at h
    obtain rfl := emp h
    exact ⟨fun pins s σ H Q I q => pts_nil.run pins s σ H Q I (rdT.b q)⟩
  | some c, sx, l, h, X, W, G => by
    unfold chC at h
    split at h
    · exact pts_one (ch_ok c true sx _ h X W G).1
    · cases h
end
end
end PV
end
section
set_option Elab.async false
set_option linter.all false
set_option maxRecDepth 100000
set_option maxHeartbeats 4000000
/-! FC6: targets, suites behind 'as', statements. -/
namespace PV
open PySem PySem.Spec PyProof.Rows L2
section
variable {Z : Stat} {ca fa : Nat → Addr} {fdt : Nat → FuncData} {pss : Nat → List Str} {n : Nat} {N : List Str} {FL : Nat → Env → M D} {sx : Sx} {X : Cx} {W : WX}
theorem stores_len {P : Pr} {F : Bool → Nat → List D → M D} : ∀ {ts : List Tg} {ds : List D} {env env' : Env} {st st' : Sto}, stores P F FL env ts ds st = .ok env' st' → ds.length = ts.length
  | [], [], _, _, _, _, _ => rfl
  | [], _ :: _, _, _, _, _, e => by cases e
  | _ :: _, [], _, _, _, _, e => by cases e
  | t :: ts, d :: ds, env, env', st, st', e => by
    have e : ((store P F FL env t d).bind fun e => stores P F FL e ts ds) st = .ok env' st' := e
    obtain ⟨x, s1, e1, e2⟩ := bind_ok (f := store P F FL env t d) e
    simp [stores_len e2]
mutual
theorem chG_ok : ∀ (g : Tg) (sx : Sx) (e : Expr), chG Z N sx g e = true → ∀ (X : Cx) (W : WX), Gd Z ca fa fdt pss n N sx X W → PG X e (rdG X.K ca W fun env d => store Z.P (run Z.P Z.LM n) FL env g d)
  | .pt p, sx, e, h, X, W, G => pg_pt (chP_ok G p e h)
  | .six o i, sx, e, h, X, W, G => by
    unfold chG at h
    split at h
    · obtain ⟨h, h3⟩ := and2 h
      obtain ⟨h1, h2⟩ := and2 h
      exact pg_six (by have := G.units; omega) (ch_ok o false sx _ h2 X W G) (ch_ok i false sx _ h3 X W G) h1
    · cases h
  | .fld o f, sx, e, h, X, W, G => by
    unfold chG at h
    split at h
    · obtain ⟨h, h3⟩ := and2 h
      obtain ⟨h1, h2⟩ := and2 h
      obtain rfl := of_decide_eq_true h1
      exact pg_fd (ch_ok o false sx _ h3 X W G) fun c hc => G.b.nat c hc _ (by simpa using h2)
    · cases h
  | .tpl ts, sx, e, h, X, W, G => by
    unfold chG at h
    split at h
    · obtain ⟨h1, h2⟩ := and2 h
      obtain ⟨q1, q2⟩ := chGs_ok ts sx _ h1 h2 X W G
      exact pg_tpl G.calm q1 h2 fun env ds st env' st' e => by rw [← q2]; exact stores_len e
    · cases h
theorem chGs_ok : ∀ (ts : List Tg) (sx : Sx) (l : List Expr), chGs Z N sx ts l = true → l.all notStarT = true → ∀ (X : Cx) (W : WX), Gd Z ca fa fdt pss n N sx X W → PGs X l (rdGs X.K ca fun env ds => stores Z.P (run Z.P Z.LM n) FL env ts ds) ∧ ts.length = l.length
  | [], sx, l, h, hs, X, W, G => by
    unfold chGs at h
    obtain rfl := emp h
    refine ⟨?_, rfl⟩
    have e : (fun env ds => stores Z.P (run Z.P Z.LM n) FL env [] ds) = fun env ds => match ds with
      | [] => .ret env
      | _ => M.bad := by
      funext env ds
      cases ds <;> rfl
    rw [e]
    exact pgs_rn
  | t :: ts, sx, l, h, hs, X, W, G => by
    unfold chGs at h
    split at h
    · rename_i e es
      obtain ⟨h1, h2⟩ := and2 h
      simp only [List.all_cons] at hs
      obtain ⟨s1, s2⟩ := and2 hs
      obtain ⟨q1, q2⟩ := chGs_ok ts sx _ h2 s2 X W G
      refine ⟨?_, by simp [q2]⟩
      have z := pgs_rc (chG_ok t sx _ h1 X W0 G.zero) q1 s1
      have e : (fun env ds => stores Z.P (run Z.P Z.LM n) FL env (t :: ts) ds) = fun env ds => match ds with
        | d :: ds => (store Z.P (run Z.P Z.LM n) FL env t d).bind fun en => stores Z.P (run Z.P Z.LM n) FL en ts ds
        | [] => M.bad := by
        funext env ds
        cases ds <;> rfl
      rw [e]
      exact z
    · cases h
end
/-! ### suites behind 'as' -/
theorem toXE_ok {i : Nat} {c : C} {E : XE0} (h : toXE i c = some E) : c = E.core i := by
  unfold toXE at h
  split at h
  · rename_i j f
    cases q : decide (j = i) with
    | false => rw [q] at h; cases h
    | true =>
      rw [q] at h
      cases h
      rw [of_decide_eq_true q]
      rfl
  · rename_i mu es
    cases q : ofItems i es with
    | none => rw [q] at h; cases h
    | some gs =>
      rw [q] at h
      cases h
      rw [ofItems_ok q]
      rfl
  · cases h
section
variable {i : Nat} {z : Addr} {ob : Obj} {cl : Value} {dd : Option Addr} {q : List (Addr × Obj)} {nm : Str}
theorem xf_ok (G : Gd Z ca fa fdt pss n N sx X W) (hi : atN N i nm = true) (hz : Zc cl dd ob) (hd : ∃ vs, ob.data = .fields vs) {f : Str} {e : Expr} (h : itemX Z nm sx (.inr f) e = true) : PE (X.suite z ((z, ob) :: q)) e (rX1 Z.P X.K ca i z cl dd f) ∧ notStar e = true := by
  unfold itemX at h
  split at h
  · rename_i hh; cases hh
  · rename_i g e f' hh
    cases hh
    split at h
    · obtain ⟨h, h5⟩ := and2 h
      obtain ⟨h, h4⟩ := and2 h
      obtain ⟨h, h3⟩ := and2 h
      obtain ⟨h1, h2⟩ := and2 h
      obtain rfl := of_decide_eq_true h1
      obtain rfl := of_decide_eq_true h2
      obtain ⟨n1, n2, n3⟩ := nmOk_ok h5
      exact ⟨pe_x1 (G.b.xf _ (by simpa using h3)) hz hd (by rw [G.hN]; exact atN_ok hi) (by rw [G.sc]; exact isVis_ok h4) n1 n2 (base_of rfl), rfl⟩
    · cases h
theorem items_ok (G : Gd Z ca fa fdt pss n N sx X W) (hi : atN N i nm = true) (hz : Zc cl dd ob) (hd : ∃ vs, ob.data = .fields vs) : ∀ {gs : List (Sum Str Str)} {es : List Expr}, itemsX Z nm sx gs es = true → PA (X.suite z ((z, ob) :: q)) es (rXL Z.P X.K ca i z cl dd gs)
  | [], es, h => by
    unfold itemsX at h
    obtain rfl := emp h
    exact pa_xn
  | g :: gs, es, h => by
    unfold itemsX at h
    split at h
    · obtain ⟨h1, h2⟩ := and2 h
      have ih := items_ok G hi hz hd h2
      cases g with
      | inl x =>
        unfold itemX at h1
        dsimp only at h1
        split at h1
        · obtain ⟨k1, k2⟩ := and2 h1
          obtain rfl := of_decide_eq_true k1
          exact pa_xs k2 ih
        · cases h1
      | inr f =>
        obtain ⟨k1, k2⟩ := xf_ok G hi hz hd (q := q) (z := z) h1
        exact pa_xf k1 ih k2
    · cases h
theorem exprX_ok (G : Gd Z ca fa fdt pss n N sx X W) (hi : atN N i nm = true) (hz : Zc cl dd ob) (hd : ∃ vs, ob.data = .fields vs) {c : C} {e : Expr} (h : exprX Z nm sx i c e = true) : ∃ E : XE0, c = E.core i ∧ PE (X.suite z ((z, ob) :: q)) e (rXE Z.P X.K ca i z cl dd E.sem) := by
  unfold exprX at h
  cases w : toXE i c with
  | none => rw [w] at h; cases h
  | some E =>
    rw [w] at h
    refine ⟨E, toXE_ok w, ?_⟩
    cases E with
    | f f => exact pe_xv (xf_ok G hi hz hd h).1
    | l mu gs =>
      dsimp only at h
      obtain ⟨h1, h2⟩ := and2 h
      split at h2
      · exact pe_xl (items_ok G hi hz hd h2) (of_decide_eq_true h1)
      · cases h2
theorem suiteX_ok (G : Gd Z ca fa fdt pss n N sx X W) (hi : atN N i nm = true) (hz : Zc cl dd ob) (hd : ∃ vs, ob.data = .fields vs) {b : List S} {l : List Stmt} (h : suiteX Z N nm sx i b l = true) :
    PSs (X.suite z ((z, ob) :: q)) l (rdX X.K ca Z.P i (fun c fs env s => offS i (exSs Z.P (run Z.P Z.LM n) FL (env.set i (some (.exv c fs))) b s)) z cl dd) := by
  unfold suiteX at h
  split at h
  · obtain ⟨E, rfl, he⟩ := exprX_ok G hi hz hd (q := q) (z := z) h
    exact (px_rt he).imp fun D σ H w => rdX.to (fun c fs env st e0 => ret_x E e0) D σ H w
  · obtain ⟨h, h5⟩ := and2 h
    obtain ⟨h, h4⟩ := and2 h
    obtain ⟨h, h3⟩ := and2 h
    obtain ⟨h1, h2⟩ := and2 h
    obtain ⟨E, rfl, he⟩ := exprX_ok G hi hz hd (q := q) (z := z) h5
    refine (px_as (by rw [G.hN]; exact G.nd) (by rw [G.hN]; exact atN_ok h2) (by rw [G.sc]; exact isLocal_ok h3) he h4 (ss_no (.inl rfl) fun es p z => by cases z)).imp fun D σ H w => rdX.to (fun c fs env st e0 => asg_x E (of_decide_eq_true h1) e0) D σ H w
  · cases h
end
theorem ss_attr {ts vs : List Expr} {k k2 : Nat} {p p2 : Pos} {env : PySem.Env} (h : ts.all notName = true) (h0 : ts.isEmpty = false) : swappedStores [.Tuple ts k p] (.Tuple vs k2 p2) env = pure none := by
  have hf : ∀ (g : Str → Pos → Option Str), (ts.filterMap fun e => match e with
      | .Name id pos => g id pos
      | _ => none) = [] := fun g => by
    rw [List.filterMap_eq_nil_iff]
    intro e he
    have := List.all_eq_true.mp h e he
    cases e <;> first | rfl | cases this
  have h1 : ts.length ≠ 0 := by
    cases ts with
    | nil => cases h0
    | cons a b => simp
  unfold swappedStores
  dsimp only
  split
  · rfl
  · split
    · rfl
    · have e := hf fun id pos => if env.kindOf id == some .local && pos.line == (ts.head?.map (·.pos.line)).getD 0 then some id else none
      exact if_pos ((Bool.or_eq_true _ _).mpr (.inl (bne_iff_ne.mpr fun z => h1 (z.symm.trans (congrArg List.length e)))))
/-! ### stored -/
theorem Gd.tr (G : Gd Z ca fa fdt pss n N sx X W) {W' : WX} {q : List (Addr × Obj)} {xe : Value → Shared → Prop} (t : Takes (X.tr q xe) W') (p : PassesOwn (model X.prog X.w) X.A X.env xe) : Gd Z ca fa fdt pss n N sx (X.tr q xe) W' where
  b := G.b
  e := G.e
  f := G.f
  low := G.low
  hN := G.hN
  nd := G.nd
  sc := G.sc
  fn := G.fn
  calm := G.calm
  room := G.room
  gd := G.gd
  tk := t
  po := p
  st := G.st
end
end PV
end
section
set_option Elab.async false
set_option linter.all false
set_option maxRecDepth 100000
set_option maxHeartbeats 4000000
/-! FC7: statements. -/
namespace PV
open PySem PySem.Spec PyProof.Rows L2
section
variable {Z : Stat} {ca fa : Nat → Addr} {fdt : Nat → FuncData} {pss : Nat → List Str} {n : Nat} {N : List Str} {FL : Nat → Env → M D}
theorem sw_ok {sc : Scope} {tg v : Expr} {l : Nat} {env : PySem.Env} {sx : Sx} (e : env.scope = sx.sc) (h : swB sx tg v = true) : swapsWith v (some tg) l env = pure false := by
  unfold swB at h
  rw [Bool.or_eq_true] at h
  rcases h with h | h
  · exact sw_no h
  · split at h
    · rename_i y py
      have hk : (env.kindOf y == some NameKind.local) = false := by
        have h := nt h
        unfold isLocal at h
        show (env.scope.names.lookup y == some NameKind.local) = false
        rw [e]
        split at h
        · cases h
        · rename_i z
          cases q : sx.sc.names.lookup y with
          | none => rfl
          | some k => cases k <;> first | rfl | (exact absurd q (by simpa using z))
      cases v <;> first | rfl | (unfold swapsWith; simp only [pure_bind]; rw [hk]; simp)
    · cases v <;> rfl
    · cases v <;> rfl
    · cases h
section
variable {X : Cx} {ca : Nat → Addr} {W : WX}
theorem ps_asW {tg e : Expr} {pos : Pos} {fe : Env → M D} {g : Env → D → M Env} (he : PE X e (rdE X.K ca W fe)) (hg : PG X tg (rdG X.K ca W g)) (hs : swapsWith e (some tg) pos.line X.env = pure false) (hw : swappedStores [tg] e X.env = pure none) (hn : notStarT tg = true) :
    PS X (.Assign [tg] e pos) (rdS X.K ca W fun env s => withE env (fe env s) fun d s => withE env (g env d s) fun en s => .ok .nx en s) := by
  refine (ps_asg he hg hs hw (by rw [each_no hn]; rfl)).imp fun D σ H ⟨m, st, env, r, re, p⟩ => ?_
  refine ⟨m, st, env, r, re, (PostS.withE re p).mono fun v H1 ⟨m1, st1, d, r1, d1, e1, p1⟩ => ?_⟩
  refine ⟨m1, st1, env, d, r1, re.ext e1, d1, (PostS.withN (re.ext e1) p1).mono fun σ2 H2 ⟨m2, st2, en, r2, re2, e2, p2⟩ => ?_⟩
  exact p2 m2 H2 σ2 r2 re2 (Ext.refl _ _)
end
theorem asg_ok {sx : Sx} {X : Cx} {W : WX} {g : Tg} {c : C} {tg v : Expr} {pos : Pos} (G : Gd Z ca fa fdt pss n N sx X W) (h : asgB Z N sx g c tg v = true) (h2 : ch Z N false sx c v = true) :
    PS X (.Assign [tg] v pos) (rdS X.K ca W fun env s => exS Z.P (run Z.P Z.LM n) FL env (.asg g c) s) := by
  unfold asgB at h
  rw [Bool.or_eq_true] at h
  rcases h with h | h
  · unfold asgC at h
    split at h
    case h_2 => cases h
    rename_i m el own gp it cond elt gens scope lp
    split at h
    · rename_i i y py
      obtain ⟨h, h5⟩ := and2 h
      obtain ⟨h, h4⟩ := and2 h
      obtain ⟨h, h3⟩ := and2 h
      obtain ⟨h0, h1⟩ := and2 h
      unfold ch at h2
      obtain ⟨_, h2⟩ := and2 h2
      split at h2
      · rename_i x tg iter ifs sc p heq
        cases heq
        obtain ⟨h2, k7⟩ := and2 h2
        obtain ⟨h2, k6⟩ := and2 h2
        obtain ⟨h2, k5⟩ := and2 h2
        obtain ⟨h2, k4⟩ := and2 h2
        obtain ⟨h2, k3⟩ := and2 h2
        obtain ⟨k1, k2⟩ := and2 h2
        obtain ⟨s1, s2, s3⟩ := G.st (by simpa using h0)
        have z := ps_cp (mu := m) (pos := lp) (spos := pos) G.calm (by rw [G.hN]; exact G.nd) (by rw [G.hN]; exact atN_ok h1) (by rw [G.sc]; exact isLocal_ok h3) s3 h4 (by simpa using h5) (chI_ok (FL := FL) it sx tg _ k5 X W G) (by rw [G.hN, G.sc]; exact blkB_ok k1)
          (fun s H C cl fp => chP_ok (G.blk scope s H C cl fp) gp tg k4) (fun s H C cl fp => chC_ok (FL := FL) cond (sx.blk scope) ifs k7 _ _ (G.blk scope s H C cl fp))
          (fun s H C cl fp => ch_ok (FL := FL) el false (sx.blk scope) elt k6 _ _ (G.blk scope s H C cl fp)) k2 (by rw [ownP_snd]; exact subB_ok k3)
        rw [ownP_snd] at z
        exact z
      · cases h2
    · cases h
  · unfold asgD at h
    obtain ⟨h, h6⟩ := and2 h
    obtain ⟨h, h5⟩ := and2 h
    obtain ⟨h3, h4⟩ := and2 h
    have nl : ∀ es p, tg ≠ .List es p := fun es p z => by subst z; cases h5
    rw [Bool.or_eq_true] at h6
    rcases h6 with h6 | h6
    · obtain ⟨k1, k2⟩ := and2 h6
      have hg := chG_ok (FL := FL) g sx tg k1 X W G
      have he := ch_ok (FL := FL) c false sx v h2 X W G
      rw [Bool.or_eq_true, Bool.or_eq_true] at k2
      refine ps_asW he hg (sw_ok (sc := sx.sc) G.sc h3) ?_ h4
      rcases k2 with (k2 | k2) | k2
      · exact ss_no (.inl k2) nl
      · exact ss_no (.inr k2) nl
      · split at k2
        · obtain ⟨a1, a2⟩ := and2 k2
          by_cases hv : notTup v = true
          · exact ss_no (.inr hv) nl
          · cases v <;> first | (exact absurd rfl hv) | exact ss_attr a1 (nt a2)
        · cases k2
    · split at h6
      · rename_i i j es
        unfold par2 at h6
        split at h6
        · rename_i x px y py kt pt a b k2 p2
          obtain ⟨h6, b0⟩ := and2 h6
          obtain ⟨h6, b1⟩ := and2 h6
          obtain ⟨h6, b2⟩ := and2 h6
          obtain ⟨h6, b3⟩ := and2 h6
          obtain ⟨h6, b4⟩ := and2 h6
          obtain ⟨h6, b5⟩ := and2 h6
          obtain ⟨h6, b6⟩ := and2 h6
          obtain ⟨h6, b7⟩ := and2 h6
          obtain ⟨b9, b8⟩ := and2 h6
          obtain ⟨s1, s2, s3⟩ := G.st (by simpa using b9)
          unfold ch at h2
          obtain ⟨_, h2⟩ := and2 h2
          obtain ⟨h2, _⟩ := and2 h2
          have bk : X.env.blockKind = .function := by
            unfold Env.blockKind
            rw [s3]; rfl
          exact ps_p2 G.calm (by rw [G.hN]; exact G.nd) (by rw [G.hN]; exact atN_ok b8) (by rw [G.hN]; exact atN_ok b7) (of_decide_eq_true b6) bk (by rw [G.sc]; exact isLocal_ok b5) (by rw [G.sc]; exact isLocal_ok b4) (chSt_ok (FL := FL) es sx _ h2 X W G).1 b3 b2 (nt b1) (nt b0)
        · cases h6
      · rename_i i j k es
        unfold par3 at h6
        split at h6
        · rename_i x px y py z pz kt pt a b c k2 p2
          obtain ⟨h6, b0⟩ := and2 h6
          obtain ⟨h6, b1⟩ := and2 h6
          obtain ⟨h6, b2⟩ := and2 h6
          obtain ⟨h6, b3⟩ := and2 h6
          obtain ⟨h6, b4⟩ := and2 h6
          obtain ⟨h6, b5⟩ := and2 h6
          obtain ⟨h6, b6⟩ := and2 h6
          obtain ⟨h6, b7⟩ := and2 h6
          obtain ⟨h6, b8⟩ := and2 h6
          obtain ⟨h6, b9⟩ := and2 h6
          obtain ⟨h6, b10⟩ := and2 h6
          obtain ⟨h6, b11⟩ := and2 h6
          obtain ⟨h6, b12⟩ := and2 h6
          obtain ⟨b14, b13⟩ := and2 h6
          obtain ⟨s1, s2, s3⟩ := G.st (by simpa using b14)
          unfold ch at h2
          obtain ⟨_, h2⟩ := and2 h2
          obtain ⟨h2, _⟩ := and2 h2
          have bk : X.env.blockKind = .function := by
            unfold Env.blockKind
            rw [s3]; rfl
          exact ps_p3 G.calm (by rw [G.hN]; exact G.nd) (by rw [G.hN]; exact atN_ok b13) (by rw [G.hN]; exact atN_ok b12) (by rw [G.hN]; exact atN_ok b11) (of_decide_eq_true b10) (of_decide_eq_true b9) (of_decide_eq_true b8) bk (by rw [G.sc]; exact isLocal_ok b7) (by rw [G.sc]; exact isLocal_ok b6) (by rw [G.sc]; exact isLocal_ok b5) (chSt_ok (FL := FL) es sx _ h2 X W G).1 b4 b3 b2 (nt b1) (nt b0)
        · cases h6
      · cases h6
theorem raise_ok {sx : Sx} {X : Cx} {W : WX} {c : Nat} {es : List C} {x : Str} {l : List Expr} {p pos pos' : Pos} (G : Gd Z ca fa fdt pss n N sx X W) (h1 : Z.isCl sx.sc x c = true) (h2 : isExc Z.P c = true) (h3 : (!l.isEmpty) = true) (h4 : l.all notStar = true) (h5 : chL Z N sx es l = true) :
    PS X (.Raise (some (.Call (.Name x p) l [] pos)) none pos') (rdS X.K ca W fun env s => exS Z.P (run Z.P Z.LM n) FL env (.raise c es) s) := by
  obtain ⟨y, r, rfl⟩ := nemp h3
  obtain ⟨g1, g2, g3⟩ := G.isC h1
  obtain ⟨fl, fI, fd, ps, e1, e2, e3, e4, e5, e6⟩ := G.e c h2
  exact ps_rs e1 G.calm G.tk e2 e3 e4 e5 (G.room.mono (show 1 + 1 ≤ lv n + 1 by unfold lv; omega)) e6 g1 g3 (chL_ok (FL := FL) es sx _ h5 h4 X W G) g2 h4
mutual
theorem chS_ok : ∀ (b : S) (sx : Sx) (s : Stmt), chS Z N sx b s = true → ∀ (X : Cx) (W : WX), Gd Z ca fa fdt pss n N sx X W → PS X s (rdS X.K ca W fun env st => exS Z.P (run Z.P Z.LM n) FL env b st)
  | .asg g c, sx, s, h, X, W, G => by
    unfold chS at h
    split at h
    · obtain ⟨h1, h2⟩ := and2 h
      exact asg_ok G h1 h2
    · cases h
  | .ife c a b, sx, s, h, X, W, G => by
    unfold chS at h
    split at h
    · obtain ⟨h, h3⟩ := and2 h
      obtain ⟨h1, h2⟩ := and2 h
      exact ps_fi (ch_ok (FL := FL) c true sx _ h1 X W G).1 (chSs_ok a sx _ h2 X W G) (chSs_ok b sx _ h3 X W G)
    · cases h
  | .for_ g it body, sx, s, h, X, W, G => by
    unfold chS at h
    split at h
    · obtain ⟨h, h4⟩ := and2 h
      obtain ⟨h, h3⟩ := and2 h
      obtain ⟨h1, h2⟩ := and2 h
      exact ps_fr G.po G.calm (chI_ok (FL := FL) it sx _ _ h3 X W G) (chP_ok G g _ h2) (chSs_ok body sx _ h4 X W G) (fold_no h1)
    · cases h
  | .while_ c body, sx, s, h, X, W, G => by
    unfold chS at h
    split at h
    · obtain ⟨h1, h2⟩ := and2 h
      exact ps_wh G.po (ch_ok (FL := FL) c true sx _ h1 X W G).1 (chSs_ok body sx _ h2 X W G)
    · cases h
  | .ret c, sx, s, h, X, W, G => by
    unfold chS at h
    split at h
    · exact ps_rt (ch_ok (FL := FL) c false sx _ h X W G)
    · cases h
  | .retn, sx, s, h, X, W, G => by
    unfold chS at h
    split at h
    · exact ps_rtn
    · cases h
  | .ex c, sx, s, h, X, W, G => by
    unfold chS at h
    split at h
    · obtain ⟨h1, h2⟩ := and2 h
      exact ps_ex (ch_ok (FL := FL) c false sx _ h2 X W G) h1
    · cases h
  | .raise c es, sx, s, h, X, W, G => by
    unfold chS at h
    split at h
    · obtain ⟨h, h5⟩ := and2 h
      obtain ⟨h, h4⟩ := and2 h
      obtain ⟨h, h3⟩ := and2 h
      obtain ⟨h1, h2⟩ := and2 h
      exact raise_ok G h1 h2 h3 h4 h5
    · cases h
  | .try_ body hs, sx, s, h, X, W, G => by
    unfold chS at h
    split at h
    · obtain ⟨h, h4⟩ := and2 h
      obtain ⟨h, h3⟩ := and2 h
      obtain ⟨h1, h2⟩ := and2 h
      obtain ⟨h₀, hds, rfl⟩ := nemp h4
      obtain ⟨s1, s2, s3⟩ := G.st (by simpa using h1)
      exact ps_ty s1 s2 (by rw [G.hN]; exact G.nd) G.tk G.b.exm (fun W' q xe t p => chSs_ok body sx _ h2 (X.tr q xe) W' (G.tr t p)) (chHs_ok hs sx _ h3 X W G)
    · cases h
  | .pass, sx, s, h, X, W, G => by
    unfold chS at h
    split at h
    · exact ps_ps
    · exact ps_dc
    · cases h
  | .cont, sx, s, h, X, W, G => by
    unfold chS at h
    split at h
    · exact ps_co
    · cases h
  | .brk, sx, s, h, X, W, G => by
    unfold chS at h
    split at h
    · exact ps_br
    · cases h
  | .aug _ _ _, sx, s, h, X, W, G => by cases h
  | .augs _ _ _ _, sx, s, h, X, W, G => by cases h
theorem chSs_ok : ∀ (b : List S) (sx : Sx) (l : List Stmt), chSs Z N sx b l = true → ∀ (X : Cx) (W : WX), Gd Z ca fa fdt pss n N sx X W → PSs X l (rdS X.K ca W fun env st => exSs Z.P (run Z.P Z.LM n) FL env b st)
  | [], sx, l, h, X, W, G => by
    unfold chSs at h
    obtain rfl := emp h
    exact pss_n
  | s :: r, sx, l, h, X, W, G => by
    unfold chSs at h
    split at h
    · obtain ⟨h1, h2⟩ := and2 h
      exact pss_c (chS_ok s sx _ h1 X W G) (chSs_ok r sx _ h2 X W G)
    · cases h
theorem chHs_ok : ∀ (hs : List (Nat × Option Nat × List S)) (sx : Sx) (l : List ExceptHandler), chHs Z N sx hs l = true → ∀ (X : Cx) (W : WX), Gd Z ca fa fdt pss n N sx X W → ClsOf X l (hs.map (toCl Z.P (run Z.P Z.LM n) FL X ca))
  | [], sx, l, h, X, W, G => by
    unfold chHs at h
    obtain rfl := emp h
    exact .nil
  | (c, i, b) :: r, sx, l, h, X, W, G => by
    unfold chHs at h
    split at h
    · obtain ⟨h, h4⟩ := and2 h
      obtain ⟨h, h3⟩ := and2 h
      obtain ⟨h1, h2⟩ := and2 h
      obtain ⟨g1, g2, g3⟩ := G.isC h1
      split at h3
      · obtain ⟨h3, k3⟩ := and2 h3
        obtain ⟨k1, k2⟩ := and2 h3
        exact .named (by rw [G.hN]; exact atN_ok k1) (show X.env.scope.names.lookup _ = _ by rw [G.sc]; exact isLocal_ok k2) ⟨g1, g2, .inl g3⟩ (fun z ob cl dd q hz hd => suiteX_ok (FL := FL) G k1 hz hd k3) (chHs_ok r sx _ h4 X W G)
      · cases h3
    · cases h
end
end
end PV
end
section
set_option Elab.async false
set_option linter.all false
set_option maxRecDepth 100000
set_option maxHeartbeats 4000000
/-! FC8: the defs, level by level. -/
namespace PV
open PySem PySem.Spec PyProof.Rows L2
/-- a def's text says what its core text says -/
def FnFact (Z : Stat) (K : PySem.W.Frag) (d : Fn) (fa : Addr) (fd : FuncData) (ps : List Str) : Prop :=
  ∃ (N : List Str) (name qual : Str) (params : Arguments) (body : List Stmt) (scope : Scope) (dV kV doc pm cdv ct oc : Value) (an od : Option Addr) (osl : Array (Option Value)), fd = PySem.W.fnOf name qual params body scope dV kV doc pm an cdv ct ∧
    K.lookup fa = some ⟨oc, od, .func (PySem.W.fnOf name qual params body scope dV kV doc pm an cdv ct), osl⟩ ∧ PySem.W.codeIn K cdv qual = true ∧ FnScope N ps scope ∧ N.length = d.ns ∧ ps.length = d.np ∧ d.np ≤ d.ns ∧ chSs Z N ⟨scope, none⟩ d.body body = true
section
variable {Z : Stat} {ca fa : Nat → Addr} {fdt : Nat → FuncData} {pss : Nat → List Str} {prog : Program} {w : World} {K : PySem.W.Frag} {mg : Str → Option Value} {base : Heap}
theorem RDs.atV {m : Mp} {H : Hp} {ds : List D} {vs : List V} (h : RDs K ca m H ds vs) {i : Nat} {d : D} (e : ds[i]? = some d) : ∃ v, vs[i]? = some v ∧ RD K ca m H d v := by
  induction i generalizing ds vs with
  | zero => cases h with
    | nil => cases e
    | cons a b => cases e; exact ⟨_, rfl, a⟩
  | succ i ih => cases h with
    | nil => cases e
    | cons a b => exact ih b (by simpa using e)
theorem re_start {m : Mp} {H : Hp} {ds : List D} {vs : List V} {N : List Str} {k : Nat} (h : RDs K ca m H ds vs) (hk : k = N.length - vs.length) : RE K ca m H (ds.map some ++ List.replicate k none) (L2.start N vs) := by
  subst hk
  refine ⟨by unfold L2.start; simp [h.len], fun i d e => ?_⟩
  have hi : i < ds.length := by
    by_cases q : i < ds.length
    · exact q
    · rw [List.getElem?_append_right (by simpa using q)] at e
      rw [List.getElem?_replicate] at e
      split at e <;> cases e
  rw [List.getElem?_append_left (by simpa using hi), List.getElem?_map] at e
  cases q : ds[i]? with
  | none => rw [q] at e; cases e
  | some d' =>
    rw [q] at e
    cases e
    obtain ⟨v, h1, h2⟩ := h.atV q
    refine ⟨v, ?_, h2⟩
    unfold L2.start
    rw [List.getElem?_append_left (by rw [List.length_map, ← h.len]; exact hi), List.getElem?_map, h1]
    rfl
/-- a run's end -/
theorem run_post {n : Nat} {z : Bool} {f : Nat} {d : Fn} (hf : Z.P.fn f = some d) {W : WX} (hW : ∀ c dd σ σ' H, W c dd σ H → W c dd σ' H) {m : Mp} {H : Hp} {st : Sto} {ds : List D} {Q : VK} (r : RS K ca m H st) (p : Post K ca W [] m H (run Z.P Z.LM (n + 1) z f ds st) Q) :
    ds.length = d.np ∧ PostS K ca W m H (exSs Z.P (run Z.P Z.LM n) (fun k e => match Z.LM k with
      | some c => ev Z.P (run Z.P Z.LM n) (fun _ _ => M.bad) e c
      | none => M.bad) (ds.map some ++ List.replicate (d.ns - d.np) none) d.body st) { nx := fun _ H' => Q .non H', rt := Q } := by
  have hl := (run_wants (Z := Z) (n := n + 1) (z := z) hf).len p
  refine ⟨hl, ?_⟩
  unfold run at p
  rw [hf] at p
  dsimp only at p
  rw [decide_eq_true hl] at p
  dsimp only at p
  generalize exSs Z.P (run Z.P Z.LM n) (fun k e => match Z.LM k with
      | some c => ev Z.P (run Z.P Z.LM n) (fun _ _ => M.bad) e c
      | none => M.bad) (ds.map some ++ List.replicate (d.ns - d.np) none) d.body st = R at p ⊢
  cases R with
  | bad => exact p.elim
  | ex c fs e s' => exact fun m' H' σ' dd a b x ex => hW _ _ _ _ _ (trimX_ok r p m' H' dd a x ex)
  | ok fl e s' =>
    cases fl with
    | nx => exact fun m' H' σ' a b ex => trim_ok r p m' H' .non a (.v .non) ex
    | br => exact p.elim
    | co => exact p.elim
    | rt dr =>
      dsimp only at p
      cases q : (d.z || z) with
      | true => rw [q] at p; exact fun m' H' v a b ex => trimZ_ok r p m' H' v a b ex
      | false => rw [q] at p; exact fun m' H' v a b ex => trim_ok r p m' H' v a b ex
theorem fns_ok (hb : BaseOk Z ca fa fdt pss K mg) (he : ExcsOk Z ca prog w K mg base) (hl : ∃ o, base.get? sysModules = some o) (hf : ∀ f d, Z.P.fn f = some d → FnFact Z K d (fa f) (fdt f) (pss f)) : ∀ n, FnsOk Z ca fa fdt pss n prog w K mg base := by
  intro n
  induction n with
  | zero =>
    intro z f d h
    obtain ⟨N, name, qual, params, body, scope, dV, kV, doc, pm, cdv, ct, oc, an, od, osl, e1, e2, e3, S, e4, e5, e6, e7⟩ := hf f d h
    refine ⟨fun vs H Q E q => q.1.trans e5.symm, fun A outer s H args us vs Q E _ _ _ _ _ q => ?_⟩
    obtain ⟨_, m, st, ds, _, _, p⟩ := q
    exact p.elim
  | succ n ih =>
    intro z f d h
    obtain ⟨N, name, qual, params, body, scope, dV, kV, doc, pm, cdv, ct, oc, an, od, osl, e1, e2, e3, S, e4, e5, e6, e7⟩ := hf f d h
    rw [e1]
    refine g_of (k := lv n + 1) e2 e3 S (fun vs H Q E q => q.1.trans e5.symm) fun A outer s H vs Q E hr hg q => ?_
    obtain ⟨lvs, m, st, ds, r, rd, p⟩ := q
    obtain ⟨l1, p1⟩ := run_post h (W := fun c dd _ H' => E c dd H') (fun _ _ _ _ _ h => h) r p
    have G : Gd Z ca fa fdt pss n N ⟨scope, none⟩ (cxOf (L2.CX prog w) prog w K mg base N qual scope (fa f) cdv A outer s H E) (fun c dd _ H' => E c dd H') := {
      b := hb
      e := he
      f := ih
      low := hl
      hN := rfl
      nd := S.nd
      sc := rfl
      fn := fun _ _ => rfl
      calm := rfl
      room := hr
      gd := hg
      tk := takes_of rfl rfl rfl rfl
      po := passes_of rfl
      st := fun _ => ⟨rfl, rfl, S.kind⟩ }
    refine ⟨_, chSs_ok (FL := fun k e => match Z.LM k with
      | some c => ev Z.P (run Z.P Z.LM n) (fun _ _ => M.bad) e c
      | none => M.bad) d.body ⟨scope, none⟩ body e7 _ _ G, m, st, _, r, re_start rd ?_, p1⟩
    rw [e4, lvs]
end
end PV
end
section
set_option Elab.async false
set_option linter.all false
set_option maxRecDepth 100000
set_option maxHeartbeats 1000000
/-! FD1: what the head leaves, as facts of the written part. -/
namespace PV
open PySem PySem.Spec PyProof.Rows L2
/-- a law's classes (an exception's field; none: an own class), where its defs stand, their parameters -/
structure Dt where
  Z : Stat
  clL : List Cl
  fnL : List Fn
  co : List (Str × T)
  cn : List Str
  fat : List (Str × Option Str)
  ps : List (List Str)
def Dt.ca (D : Dt) (K : PySem.W.Frag) (c : Nat) : Addr := He.ga K (D.cn.getD c Str.empty)
def Dt.fa (D : Dt) (K : PySem.W.Frag) (f : Nat) : Addr := He.fAd K (D.fat.getD f (Str.empty, none))
def Dt.fd (D : Dt) (K : PySem.W.Frag) (f : Nat) : FuncData := match K.lookup (D.fa K f) with
  | some ⟨_, _, .func fd, _⟩ => fd
  | _ => default
def Dt.pss (D : Dt) (f : Nat) : List Str := D.ps.getD f []
structure Dt.Ok (D : Dt) : Prop where
  fn : D.Z.P.fn = fun f => D.fnL[f]?
  cl : D.Z.P.cl = fun c => D.clL[c]?
  co : D.Z.P.glob = fun x => D.co.lookup x
  eqm : ∀ k ∈ D.clL, k.eqm = none
  props : ∀ k ∈ D.clL, k.props = []
  ini : ∀ (i : Nat) (k : Cl), D.clL[i]? = some k → ∀ f : Nat, k.init = some f → ∃ (d : Fn) (n : Nat), D.fnL[f]? = some d ∧ d.np = n + 1
  gf : ∀ (x : Str) (f : Nat), D.Z.gl.lookup x = some (.fn f) → ∃ d : Fn, D.fnL[f]? = some d
  rat : D.Z.rat = []
section
variable (D : Dt) (K : PySem.W.Frag)
def eqV (a b : Option (Option Value)) : Bool := decide (a = b)
def eqB (a : Option Bool) (b : Bool) : Bool := decide (a = some b)
def glB : Bool := D.Z.gl.all fun p => eqV (PySem.W.nsIn K mainGlobals p.1) (some (some (.ref (match p.2 with
  | .fn f => D.fa K f
  | .cl c => D.ca K c)))) && (match p.2 with
  | .fn f => PySem.W.keepIn K (.ref (D.fa K f))
  | .cl _ => true)
def coB : Bool := D.co.all fun p => match p.2, PySem.W.nsIn K mainGlobals p.1 with
  | .int i, some (some (.int j _)) => decide (i = j)
  | .str x, some (some (.str y _)) => decide (x = y) && okS x
  | _, _ => false
def noB : Bool := bltNames.all fun x => (D.Z.gl.lookup x).isSome || (D.co.lookup x).isSome || eqV (PySem.W.nsIn K mainGlobals x) (some none)
def clsB (C : Addr) : Bool := PySem.W.plainGet K C Str.empty && PySem.W.hasDictIn K C && PySem.W.plainOver K C && eqV (PySem.W.findIn K (.ref C) "__setattr__") (some (some (.builtin "object.__setattr__")))
def tyAll : List Ty := [.bool, .int, .str, .tuple, .list, .dict]
def kdAll : List Kd := [.non, .bool, .int, .str, .tuple, .list, .dict]
def clsOkB (C : Addr) : Bool := clsB K C && eqV (PySem.W.findIn K (.ref C) "__class__") (some (some (.builtin "object.__class__"))) && eqV (PySem.W.specialIn K (.builtin "object.__class__") "__get__") (some (some (.builtin "getset_descriptor.__get__"))) &&
  eqB (PySem.W.takesIn K (.builtin "object.__class__")) true && eqB (PySem.W.mroIn K C (.type "object")) true
def ownB : Bool := D.Z.P.own.all fun c => clsOkB K (D.ca K c) && (tyAll.all fun t => eqB (PySem.W.kitOne K (.ref (D.ca K c)) (clsVal (D.ca K) (.inl t))) false) && (kdAll.all fun k => eqB (PySem.W.kitOne K (k.val (D.ca K)) (.ref (D.ca K c))) false) &&
  (D.Z.P.own.all fun k => eqB (PySem.W.kitOne K (.ref (D.ca K k)) (.ref (D.ca K c))) (decide (k = c))) && D.Z.att.all fun f => eqV (PySem.W.findIn K (.ref (D.ca K c)) f) (some none)
def mkB : Bool := (List.range D.clL.length).all fun c => match (D.clL[c]?).bind Cl.init with
  | some i => PySem.W.makesIn K (D.ca K c) && eqV (PySem.W.findIn K (.ref (D.ca K c)) "__init__") (some (some (.ref (D.fa K i)))) && PySem.W.isFn K (.ref (D.fa K i)) && PySem.W.keepIn K (.ref (D.ca K c))
  | none => true
def isX (c : Nat) : Bool := ((D.clL[c]?).bind Cl.exc).isSome
def exmB : Bool := (List.range D.clL.length).all fun c => !isX D c || (List.range D.clL.length).all fun k => !isX D k || eqB (PySem.W.exmOne K (.ref (D.ca K c)) (.ref (D.ca K k))) (decide (k = c))
def xatB : Bool := (List.range D.clL.length).all fun c => !isX D c || (xfB K (D.ca K c) && D.Z.xat.all fun f => eqV (PySem.W.findIn K (.ref (D.ca K c)) f) (some none))
def oexB (C : Addr) : Bool := match K.lookup C with
  | some ⟨.type t, _, .cls cd, sl⟩ => match cd.mro, sl.toList with
    | .ref C' :: bm, [_, _, _, _, some (.builtin n), _] => decide (t = "type") && decide (C' = C) && decide (n = "ValueError.__new__") && cd.hasDict && !cd.hasDel && PySem.HandSPX.refsVE bm
    | _, _ => false
  | _ => false
/-- an exception's class, its field fl -/
def supB (file : Str) (C : Addr) (fl : Str) : Bool := oexB K C && eqV (PySem.W.findIn K (.ref C) "__setattr__") (some (some (.builtin "object.__setattr__"))) && eqB (PySem.W.subIn K (.ref C) (.type "BaseException")) true && decide (PySem.W.typeIn K (.ref C) = some (.type "type")) && PySem.W.keepIn K (.ref C) &&
  (PySem.W.clsIn K C).isSome && eqB (PySem.W.mroIn K C (.ref C)) true && decide (PySem.W.ks_superIn K C C "__init__" = some (some (.builtin "ValueError.__init__"))) && eqB (PySem.W.subIn K (.ref C) (.type "ValueError")) true && eqV (PySem.W.findIn K (.ref C) fl) (some none) &&
  eqV (PySem.W.findIn K (.ref C) "__init__") (some (some (.ref (He.ma K C "__init__")))) && decide (PySem.W.typeIn K (.ref (He.ma K C "__init__")) = some (.type "function")) &&
  match K.lookup (He.ma K C "__init__") with
  | some ⟨_, _, .func fd, _⟩ => (match fd.code, fd.closure with
    | .ref cda, [(nm, cc)] => decide (fd.defaults = Value.none) && decide (nm = ("__class__" : Str)) && PySem.W.codeIn K (.ref cda) fd.qualname && (match K.lookup cda with
      | some ⟨_, _, .fields vs, _⟩ => (match (vs[2]? : Option Value) with
        | some (.str f _) => file == f
        | _ => false)
      | _ => false) && (match K.lookup cc with
      | some ⟨_, _, .cell (some (.ref C')), _⟩ => decide (C' = C)
      | _ => false)
    | _, _ => false)
  | _ => false
def excB (file : Str) : Bool := eqV (PySem.W.nsIn K cStatics "thirdparty.any") (some none) && eqV (PySem.W.nsIn K mainGlobals "super") (some none) && (List.range D.clL.length).all fun c => match (D.clL[c]?).bind Cl.exc with
  | some (some fl) => supB K file (D.ca K c) fl
  | some none => false
  | none => true
def allB (file : Str) : Bool := glB D K && coB D K && noB D K && ownB D K && mkB D K && exmB D K && xatB D K && excB D K file && (K.lookup sysModules).isSome
end
theorem eqV_ok {a b : Option (Option Value)} (h : eqV a b = true) : a = b := of_decide_eq_true h
theorem eqB_ok {a : Option Bool} {b : Bool} (h : eqB a b = true) : a = some b := of_decide_eq_true h
theorem all_mem {α : Type} {l : List α} {p : α → Bool} (h : l.all p = true) {x : α} (hx : x ∈ l) : p x = true := List.all_eq_true.mp h x hx
theorem all_range {n : Nat} {p : Nat → Bool} (h : (List.range n).all p = true) {i : Nat} (hi : i < n) : p i = true := all_mem h (List.mem_range.mpr hi)
theorem get_lt {α : Type} {l : List α} {i : Nat} {x : α} (h : l[i]? = some x) : i < l.length := (List.getElem?_eq_some_iff.mp h).1
/-! ### the defs -/
structure Pack (Z : Stat) (d : Fn) (dd : He.DefD) (N ps : List Str) : Prop where
  S : FnScope N ps dd.scope
  n : N.length = d.ns
  p : ps.length = d.np
  le : d.np ≤ d.ns
  c : chSs Z N ⟨dd.scope, none⟩ d.body dd.body = true
  b : ∀ (kV doc pm : Value) (an : Option Addr) (cdv ct : Value) (us : List Value), us.length = ps.length → bindArgs (PySem.W.fnOf dd.name dd.qual dd.params dd.body dd.scope .none kV doc pm an cdv ct) ⟨us, []⟩ = pure (ps.zip us)
  z : dd.dfl = []
theorem Pack.fact {Z : Stat} {K : PySem.W.Frag} {d : Fn} {dd : He.DefD} {N ps : List Str} (h : Pack Z d dd N ps) {fd : FuncData} (F : FunD K dd.name dd.qual dd.params dd.body dd.scope (dd.dvs K) (dd.kws K) (He.fAd K dd.at_) fd) :
    FnFact Z K d (He.fAd K dd.at_) fd ps ∧ (∀ us : List Value, us.length = ps.length → bindArgs fd ⟨us, []⟩ = pure (ps.zip us)) ∧ ∃ oc od osl, K.lookup (He.fAd K dd.at_) = some ⟨oc, od, .func fd, osl⟩ := by
  obtain ⟨oc, od, dV, kV, doc, pm, an, cdv, ct, osl, rfl, lk, hcd, hD, hK⟩ := F.ex
  have hd : dd.dvs K = [] := by
    unfold He.DefD.dvs
    rw [h.z]; rfl
  rw [hd] at hD
  rcases hD with ⟨_, rfl⟩ | ⟨e, _⟩
  · exact ⟨⟨N, _, _, _, _, _, _, _, _, _, _, _, _, _, _, _, rfl, lk, hcd, h.S, h.n, h.p, h.le, h.c⟩, h.b kV doc pm an cdv ct, _, _, _, lk⟩
  · exact absurd rfl e
/-- an exception's __init__ -/
structure XD where
  cls : Str
  fl : Str
  sf : Str
  fx : Str
  name : Str
  qual : Str
  params : Arguments
  body : List Stmt
  scope : Scope
abbrev FnX0 : Type := Option (Str × Str × Arguments × FuncBody × Scope × Addr × Addr)
def fnX0 (K : PySem.W.Frag) (c : Str) : FnX0 := match K.lookup (He.ma K (He.ga K c) "__init__") with
  | some ⟨_, _, .func fd, _⟩ => some (fd.name, fd.qualname, fd.params, fd.body, fd.scope, fd.globals, fd.builtins)
  | _ => none
def XD.val (d : XD) : FnX0 := some (d.name, d.qual, d.params, .stmts d.body, d.scope, mainGlobals, builtinsNs)
structure XPack (d : XD) : Prop where
  body : ∃ (p0 p1 p2 p3 p4 p5 q0 q1 q2 q3 : Pos) (txt : Str) (j : Nat), d.body = [.Expr (supE p0 p1 p2 p3 p4 txt j) p5, .Assign [.Attribute (.Name d.sf q0) d.fl q1] (.Name d.fx q2) q3] ∧ SupRun p0 p1 p2 p3 p4 txt j
  S : SupScope [d.sf, d.fx] d.scope
  par : ∃ ar, (d.params.posonlyargs ++ d.params.args).head? = some ar ∧ ar.arg = d.sf
  n1 : (d.sf == ("__debug__" : Str)) = false
  n2 : (d.sf == ("__classdict__" : Str)) = false
  n3 : (d.fx == ("__debug__" : Str)) = false
  n4 : (d.fx == ("__classdict__" : Str)) = false
  b : ∀ (kV doc pm : Value) (an : Option Addr) (cdv ct : Value) (cc : Addr) (us : List Value), us.length = 2 → bindArgs (PySem.W.ksFn d.name d.qual d.params d.body d.scope .none kV doc pm an cdv ct cc) ⟨us, []⟩ = pure (([d.sf, d.fx] : List Str).zip us)
theorem oexB_ok {K : PySem.W.Frag} {C : Addr} (h : oexB K C = true) : ∃ nm q N bs bm sn sub ab col dd k0 k1 k2 k3 k5, K.lookup C = some (excClassObj nm q C N bs bm true sn sub ab col dd k0 k1 k2 k3 k5 "ValueError.__new__") ∧ PySem.HandSPX.refsVE bm = true := by
  unfold oexB at h
  split at h
  · rename_i t dd cd sl ho
    split at h
    · rename_i C' bm k0 k1 k2 k3 n k5 hm hs
      obtain ⟨h, h6⟩ := and2 h
      obtain ⟨h, h5⟩ := and2 h
      obtain ⟨h, h4⟩ := and2 h
      obtain ⟨h, h3⟩ := and2 h
      obtain ⟨h1, h2⟩ := and2 h
      obtain rfl := of_decide_eq_true h1
      obtain rfl := of_decide_eq_true h2
      obtain rfl := of_decide_eq_true h3
      obtain ⟨nm, bs, mro, ns, qn, hd, sn, sub, ab, col, del⟩ := cd
      have e1 : mro = .ref C' :: bm := hm
      have e2 : hd = true := h4
      have e3 : del = false := nt h5
      subst e1 e2 e3
      have hsl : sl = #[k0, k1, k2, k3, some (.builtin "ValueError.__new__"), k5] := by
        obtain ⟨l⟩ := sl
        have hs : l = _ := hs
        rw [hs]
      subst hsl
      exact ⟨nm, qn, ns, bs, bm, sn, sub, ab, col, dd, k0, k1, k2, k3, k5, ho, h6⟩
    · cases h
  · cases h
theorem supB_ok {K : PySem.W.Frag} {d : XD} {prog : Program} {w : World} {mg : Str → Option Value} {base : Heap} (hp : XPack d) (he : fnX0 K d.cls = d.val) (h : supB K prog.main.file (He.ga K d.cls) d.fl = true) (top : (prog.main.scope.names.lookup ("super" : Str)).isSome = false)
    (opq : PySem.W.nsIn K cStatics "thirdparty.any" = some none) (ns : mg "super" = none) :
    ∃ fI fd ps, OexC K (He.ga K d.cls) ∧ PySem.W.findIn K (.ref (He.ga K d.cls)) "__init__" = some (some (.ref fI)) ∧ PySem.W.typeIn K (.ref fI) = some (.type "function") ∧ FnOk prog w K mg base CX0 1 fI fd ps (spExc (He.ga K d.cls) d.fl) ∧ Binds K fd ps [] := by
  unfold supB at h
  obtain ⟨h, h13⟩ := and2 h
  obtain ⟨h, h12⟩ := and2 h
  obtain ⟨h, h11⟩ := and2 h
  obtain ⟨h, h10⟩ := and2 h
  obtain ⟨h, h9⟩ := and2 h
  obtain ⟨h, h8⟩ := and2 h
  obtain ⟨h, h7⟩ := and2 h
  obtain ⟨h, h6⟩ := and2 h
  obtain ⟨h, h5⟩ := and2 h
  obtain ⟨h, h4⟩ := and2 h
  obtain ⟨h, h3⟩ := and2 h
  obtain ⟨h1, h2⟩ := and2 h
  have ox : OexC K (He.ga K d.cls) := ⟨oexB_ok h1, eqV_ok h2, eqB_ok h3, of_decide_eq_true h4, h5⟩
  obtain ⟨cd, hcd⟩ := Option.isSome_iff_exists.mp h6
  unfold fnX0 at he
  split at h13
  · rename_i oc od fd osl lk
    rw [lk] at he
    obtain ⟨n1, n2, n3, n4, n5, n6, n7, n8, n9, n10, n11, n12, n13, n14, n15⟩ := fd
    have e2 : (some (n1, n2, n3, n4, n5, n6, n15) : FnX0) = some (d.name, d.qual, d.params, .stmts d.body, d.scope, mainGlobals, builtinsNs) := he
    simp only [Option.some.injEq, Prod.mk.injEq] at e2
    obtain ⟨g1, g2, g3, g4, g5, g6, g7⟩ := e2
    subst g1 g2 g3 g4 g5 g6 g7
    split at h13
    · rename_i cda nm cc hcode hclo
      have e3 : n13 = .ref cda := hcode
      have e4 : n7 = [(nm, cc)] := hclo
      subst e3 e4
      obtain ⟨k, k4⟩ := and2 h13
      obtain ⟨k, k3⟩ := and2 k
      obtain ⟨k, k2⟩ := and2 k
      obtain ⟨k0, k1⟩ := and2 k
      have k1 := of_decide_eq_true k1
      subst k1
      have k0 : n8 = Value.none := of_decide_eq_true k0
      subst k0
      obtain ⟨p0, p1, p2, p3, p4, p5, q0, q1, q2, q3, txt, j, hb, hr⟩ := hp.body
      have hfile : ∃ ccl cdd vs ccs file tf, K.lookup cda = some ⟨ccl, cdd, .fields vs, ccs⟩ ∧ vs[2]? = some (.str file tf) ∧ ((prog.main.file : Str) == file) = true := by
        split at k3
        · rename_i ccl cdd vs ccs e
          split at k3
          · rename_i f tf e2
            exact ⟨ccl, cdd, vs, ccs, f, tf, e, e2, k3⟩
          · cases k3
        · cases k3
      have hcell : ∃ cl cld csl, K.lookup cc = some ⟨cl, cld, .cell (some (.ref (He.ga K d.cls))), csl⟩ := by
        split at k4
        · rename_i a b C' c e
          rw [of_decide_eq_true k4] at e
          exact ⟨_, _, _, e⟩
        · cases k4
      have T : SupC prog K mg (He.ga K d.cls) (He.ma K (He.ga K d.cls) "__init__") cc cda (PySem.W.ksFn d.name d.qual d.params d.body d.scope .none n9 n10 n11 n12 (.ref cda) n14 cc) d.qual d.scope [d.sf, d.fx] d.sf d.fl :=
        ⟨⟨_, _, _, lk⟩, k2, hfile, top, hcell, ⟨cd, hcd⟩, eqB_ok h7, of_decide_eq_true h8, opq, eqB_ok h9, ns, hp.par, rfl, ox, eqV_ok h10⟩
      have B := hp.b n9 n10 n11 n12 (.ref cda) n14 cc
      rw [hb] at T B
      exact ⟨_, _, _, ox, eqV_ok h11, of_decide_eq_true h12, sup_of T hp.S hr hp.n1 hp.n2 hp.n3 hp.n4, Binds.all B⟩
    · cases h13
  · cases h13
end PV
end
section
set_option Elab.async false
set_option linter.all false
set_option maxRecDepth 100000
set_option maxHeartbeats 1000000
/-! FD2: the written part from the facts; the law's call. -/
namespace PV
open PySem PySem.Spec PyProof.Rows L2
abbrev AlQ : Type := Bool × List He.FnW × List FnX0
section
variable (D : Dt) (file : Str) (fnl : List He.DefD) (xl : List XD)
def obsQ (K : PySem.W.Frag) : AlQ := (allB D K file && fnl.all (fun d => d.ok K), fnl.map (fun d => He.fnW K d.at_), xl.map fun d => fnX0 K d.cls)
def valQ : AlQ := (true, fnl.map He.DefD.val, xl.map XD.val)
def asQ (g : Addr → Option Obj) (n : Nat) : List Addr := sysModules :: cStatics :: He.asD g n
def obsGQ (n : Nat) (g : Addr → Option Obj) : AlQ := obsQ D file fnl xl (He.frG g (asQ g n))
def SaysQ (K : PySem.W.Frag) : Prop := obsQ D file fnl xl K = valQ fnl xl
def hookQ (n : Nat) : PySem.W.Hook where
  α := AlQ
  obs := fun s => obsGQ D file fnl xl n s.heap.get?
  val := fun _ => valQ fnl xl
  says := fun _ h => ∃ K : PySem.W.Frag, K.In h ∧ SaysQ D file fnl xl K
  of := fun _ _ e => ⟨_, He.frG_in, e⟩
  keeps := fun _ _ _ ⟨K, a, c⟩ k => ⟨K, PySem.W.Frag.In.keeps a k, c⟩
end
theorem obsGQ_eq {D : Dt} {file : Str} {fnl : List He.DefD} {xl : List XD} {n : Nat} {g : Addr → Option Obj} {s : Shared} (h : ∀ a, g a = s.heap.get? a) : obsGQ D file fnl xl n g = (hookQ D file fnl xl n).obs s := by
  have e : g = s.heap.get? := funext h
  rw [e]; rfl
section
variable {D : Dt} {file : Str} {fnl : List He.DefD} {xl : List XD} {K : PySem.W.Frag}
theorem SaysQ.all (c : SaysQ D file fnl xl K) : allB D K file = true := (and2 (show (allB D K file && fnl.all (fun d => d.ok K)) = true from congrArg (fun z : AlQ => z.1) c)).1
theorem SaysQ.fun_ (c : SaysQ D file fnl xl K) {i : Nat} {d : He.DefD} (h : fnl[i]? = some d) : ∃ fd, FunD K d.name d.qual d.params d.body d.scope (d.dvs K) (d.kws K) (He.fAd K d.at_) fd := by
  have c2 := (and2 (show (allB D K file && fnl.all (fun d => d.ok K)) = true from congrArg (fun z : AlQ => z.1) c)).2
  have e : fnl.map (fun d => He.fnW K d.at_) = fnl.map He.DefD.val := congrArg (fun z : AlQ => z.2.1) c
  have e2 := congrArg (fun l : List He.FnW => l[i]?) e
  simp only [List.getElem?_map, h, Option.map_some] at e2
  exact He.DefD.funD (Option.some.inj e2) (all_mem c2 (List.mem_of_getElem? h))
theorem SaysQ.exc (c : SaysQ D file fnl xl K) {d : XD} (h : d ∈ xl) : fnX0 K d.cls = d.val := by
  have e : xl.map (fun d => fnX0 K d.cls) = xl.map XD.val := congrArg (fun z : AlQ => z.2.2) c
  obtain ⟨i, hi⟩ := List.getElem?_of_mem h
  have e2 := congrArg (fun l : List FnX0 => l[i]?) e
  simp only [List.getElem?_map, hi, Option.map_some] at e2
  exact Option.some.inj e2
/-- each def's text is checked -/
def Packs (D : Dt) (fnl : List He.DefD) : Prop := ∀ (f : Nat) (d : Fn), D.fnL[f]? = some d → ∃ (dd : He.DefD) (N : List Str), fnl[f]? = some dd ∧ dd.at_ = D.fat.getD f (Str.empty, none) ∧ Pack D.Z d dd N (D.pss f)
def XPacks (D : Dt) (xl : List XD) : Prop := ∀ (c : Nat) (fl : Str), (D.clL[c]?).bind Cl.exc = some (some fl) → ∃ xd ∈ xl, xd.cls = D.cn.getD c Str.empty ∧ xd.fl = fl ∧ XPack xd
theorem kd_all {k : Kd} (h : ∀ c, k ≠ .own c) : k ∈ kdAll := by
  cases k <;> first | (exact absurd rfl (h _)) | simp [kdAll]
theorem ty_all (t : Ty) : t ∈ tyAll := by cases t <;> simp [tyAll]
variable {h : Heap} {mg : Str → Option Value}
theorem facts_ok (O : D.Ok) (c : SaysQ D file fnl xl K) (hp : Packs D fnl) (X : K.In h) (G : h.Ns mainGlobals mg) : BaseOk D.Z (D.ca K) (D.fa K) (D.fd K) D.pss K mg ∧ ∀ f d, D.Z.P.fn f = some d → FnFact D.Z K d (D.fa K f) (D.fd K f) (D.pss f) := by
  have A := c.all
  unfold allB at A
  obtain ⟨A, a9⟩ := and2 A
  obtain ⟨A, a8⟩ := and2 A
  obtain ⟨A, a7⟩ := and2 A
  obtain ⟨A, a6⟩ := and2 A
  obtain ⟨A, a5⟩ := and2 A
  obtain ⟨A, a4⟩ := and2 A
  obtain ⟨A, a3⟩ := and2 A
  obtain ⟨a1, a2⟩ := and2 A
  have ff : ∀ f d, D.Z.P.fn f = some d → FnFact D.Z K d (D.fa K f) (D.fd K f) (D.pss f) ∧ ∀ us : List Value, us.length = (D.pss f).length → bindArgs (D.fd K f) ⟨us, []⟩ = pure ((D.pss f).zip us) := fun f d e => by
    rw [O.fn] at e
    obtain ⟨dd, N, e1, e2, pk⟩ := hp f d e
    obtain ⟨fd, F⟩ := c.fun_ e1
    obtain ⟨q1, q2, oc, od, osl, lk⟩ := pk.fact F
    rw [e2] at q1 lk
    have e3 : D.fd K f = fd := by
      unfold Dt.fd
      rw [show K.lookup (D.fa K f) = some ⟨oc, od, .func fd, osl⟩ from lk]
    rw [e3]
    exact ⟨q1, q2⟩
  refine ⟨⟨fun x f e => ?_, fun x k e => ?_, fun x t e => ?_, fun x hx e1 e2 => ?_, fun f d e => ?_, fun k cl i e1 e2 => ?_, fun k hk f hf => ?_, fun f hf k cl e1 e2 => ?_, fun k cl e => ?_, ?_, fun k j hk hj => ?_, fun f hf k hk => ?_⟩, fun f d e => (ff f d e).1⟩
  · obtain ⟨z1, z2⟩ := and2 (all_mem a1 (PySem.mem_of_lookup e))
    obtain ⟨d, hd⟩ := O.gf x f e
    exact ⟨PySem.W.mg_of X G (eqV_ok z1), z2, d, by rw [O.fn]; exact hd⟩
  · obtain ⟨z1, z2⟩ := and2 (all_mem a1 (PySem.mem_of_lookup e))
    exact PySem.W.mg_of X G (eqV_ok z1)
  · rw [O.co] at e
    have z := all_mem a2 (PySem.mem_of_lookup e)
    dsimp only at z
    split at z
    · rename_i i j tk e2
      rw [← of_decide_eq_true z] at e2
      exact ⟨_, .int i, PySem.W.mg_of X G e2, ⟨_, rfl⟩, .inl ⟨i, rfl, rfl⟩⟩
    · rename_i y y' tk e2
      obtain ⟨z1, z2⟩ := and2 z
      rw [← of_decide_eq_true z1] at e2
      exact ⟨_, .str y, PySem.W.mg_of X G e2, ⟨_, rfl⟩, .inr ⟨y, rfl, rfl, z2⟩⟩
    · cases z
  · have z := all_mem a3 (show x ∈ bltNames by simpa using hx)
    rw [O.co] at e2
    have e2 : D.co.lookup x = none := e2
    rw [e1, e2] at z
    exact PySem.W.mg_none_of X G (eqV_ok z)
  · obtain ⟨N, _, _, _, _, _, _, _, _, _, _, _, _, _, _, _, _, _, _, _, _, e5, _⟩ := (ff f d e).1
    exact ⟨e5, (ff f d e).2⟩
  · rw [O.cl] at e1
    have z := all_range a5 (get_lt e1)
    have e1 : D.clL[k]? = some cl := e1
    rw [e1] at z
    simp only [Option.bind_some, e2] at z
    obtain ⟨z, z4⟩ := and2 z
    obtain ⟨z, z3⟩ := and2 z
    obtain ⟨z1, z2⟩ := and2 z
    obtain ⟨d, n, hd, hn⟩ := O.ini k cl e1 i e2
    exact ⟨⟨z1, eqV_ok z2, z3, z4⟩, d, n, by rw [O.fn]; exact hd, hn⟩
  · have z := all_mem a4 hk
    obtain ⟨z, z5⟩ := and2 z
    obtain ⟨z, z4⟩ := and2 z
    obtain ⟨z, z3⟩ := and2 z
    obtain ⟨z1, z2⟩ := and2 z
    obtain ⟨z1, w5⟩ := and2 z1
    obtain ⟨z1, w4⟩ := and2 z1
    obtain ⟨z1, w3⟩ := and2 z1
    obtain ⟨z1, w2⟩ := and2 z1
    obtain ⟨z1, y4⟩ := and2 z1
    obtain ⟨z1, y3⟩ := and2 z1
    obtain ⟨y1, y2⟩ := and2 z1
    exact ⟨⟨y1, y2, y3, eqV_ok y4⟩, eqV_ok (all_mem z5 hf)⟩
  · rw [O.rat] at hf
    cases hf
  · rw [O.cl] at e
    exact O.eqm cl (List.mem_of_getElem? e)
  · have one : ∀ k ∈ D.Z.P.own, ClsOk K (D.ca K k) ∧ (∀ t, PySem.W.kitOne K (.ref (D.ca K k)) (clsVal (D.ca K) (.inl t)) = some false) ∧ (∀ q : Kd, (∀ c, q ≠ .own c) → PySem.W.kitOne K (q.val (D.ca K)) (.ref (D.ca K k)) = some false) ∧ ∀ j ∈ D.Z.P.own, PySem.W.kitOne K (.ref (D.ca K j)) (.ref (D.ca K k)) = some (decide (j = k)) := fun k hk => by
      have z := all_mem a4 hk
      obtain ⟨z, z5⟩ := and2 z
      obtain ⟨z, z4⟩ := and2 z
      obtain ⟨z, z3⟩ := and2 z
      obtain ⟨z1, z2⟩ := and2 z
      obtain ⟨z1, w5⟩ := and2 z1
      obtain ⟨z1, w4⟩ := and2 z1
      obtain ⟨z1, w3⟩ := and2 z1
      obtain ⟨z1, w2⟩ := and2 z1
      obtain ⟨z1, y4⟩ := and2 z1
      obtain ⟨z1, y3⟩ := and2 z1
      obtain ⟨y1, y2⟩ := and2 z1
      exact ⟨⟨⟨y1, y2, y3, eqV_ok y4⟩, eqV_ok w2, eqV_ok w3, eqB_ok w4, eqB_ok w5⟩, fun t => eqB_ok (all_mem z2 (ty_all t)), fun q hq => eqB_ok (all_mem z3 (kd_all hq)), fun j hj => eqB_ok (all_mem z4 hj)⟩
    exact ⟨fun k hk => (one k hk).1, fun k hk => (one k hk).2.1, fun k hk => (one k hk).2.2.1, fun k hk j hj => (one k hk).2.2.2 j hj⟩
  · unfold isExc at hk hj
    rw [O.cl] at hk hj
    have hk' : isX D k = true := hk
    have hj' : isX D j = true := hj
    obtain ⟨ck, ek⟩ := Option.isSome_iff_exists.mp hk
    obtain ⟨cj, ej⟩ := Option.isSome_iff_exists.mp hj
    obtain ⟨lk, ek, _⟩ := Option.bind_eq_some_iff.mp ek
    obtain ⟨lj, ej, _⟩ := Option.bind_eq_some_iff.mp ej
    have z := all_range a6 (get_lt ek)
    rw [hk'] at z
    have z := all_range (show ((List.range D.clL.length).all fun q => !isX D q || eqB (PySem.W.exmOne K (.ref (D.ca K k)) (.ref (D.ca K q))) (decide (q = k))) = true from z) (get_lt ej)
    rw [hj'] at z
    exact eqB_ok z
  · unfold isExc at hk
    rw [O.cl] at hk
    have hk' : isX D k = true := hk
    obtain ⟨ck, ek⟩ := Option.isSome_iff_exists.mp hk
    obtain ⟨lk, ek, _⟩ := Option.bind_eq_some_iff.mp ek
    have z := all_range a7 (get_lt ek)
    rw [hk'] at z
    obtain ⟨z1, z2⟩ := and2 (show (xfB K (D.ca K k) && D.Z.xat.all fun f => eqV (PySem.W.findIn K (.ref (D.ca K k)) f) (some none)) = true from z)
    exact ⟨xfB_ok z1, eqV_ok (all_mem z2 hf)⟩
theorem excs_ok (O : D.Ok) {prog : Program} {w : World} {base : Heap} (c : SaysQ D prog.main.file fnl xl K) (hx : XPacks D xl) (X : K.In h) (G : h.Ns mainGlobals mg) (top : (prog.main.scope.names.lookup ("super" : Str)).isSome = false) : ExcsOk D.Z (D.ca K) prog w K mg base := fun k hk => by
  have A := c.all
  unfold allB at A
  obtain ⟨A, a9⟩ := and2 A
  obtain ⟨A, a8⟩ := and2 A
  unfold excB at a8
  obtain ⟨a8, b3⟩ := and2 a8
  obtain ⟨b1, b2⟩ := and2 a8
  unfold isExc at hk
  rw [O.cl] at hk
  obtain ⟨o, ho⟩ := Option.isSome_iff_exists.mp hk
  have ho : (D.clL[k]?).bind Cl.exc = some o := ho
  obtain ⟨lk, ek, _⟩ := Option.bind_eq_some_iff.mp ho
  have z := all_range b3 (get_lt ek)
  rw [ho] at z
  cases o with
  | none => cases z
  | some fl =>
    obtain ⟨xd, m1, m2, m3, m4⟩ := hx k fl ho
    have e := c.exc m1
    have z : supB K prog.main.file (D.ca K k) fl = true := z
    have ec : D.ca K k = He.ga K xd.cls := by unfold Dt.ca; rw [m2]
    rw [ec, ← m3] at z
    obtain ⟨fI, fd, ps, q1, q2, q3, q4, q5⟩ := supB_ok (prog := prog) (w := w) (base := base) m4 e z top (eqV_ok b1) (PySem.W.mg_none_of X G (eqV_ok b2))
    refine ⟨fl, fI, fd, ps, by rw [O.cl]; exact ho, ?_⟩
    rw [ec, ← m3]
    exact ⟨q1, q2, q3, q4, q5⟩
end
end PV
end
section
set_option Elab.async false
set_option linter.all false
set_option maxRecDepth 100000
set_option maxHeartbeats 1000000
/-! FD3: the law called at a script. -/
namespace PV
open PySem PySem.Spec PyProof.Rows L2
/-- where the script lies -/
def ScrAt (K : PySem.W.Frag) (H : Hp) (a : Addr) (ns : List Int) : Prop := (∃ o, H a = some (.frz o (.lst (ns.map V.int)))) ∨ ∀ H', SqL K H' a (ns.map V.int)
section
variable {prog : Program} {w : World} {K : PySem.W.Frag} {mg mb : Str → Option Value} {k : Nat} {fL sA : Addr} {fd : FuncData} {ps : List Str} {sp : Sp} {u : Shared} {vs : List Value} {ns : List Int}
abbrev lstO (vs : List Value) : Obj := { cls := .type "list", data := .seq vs.toArray }
abbrev Good (u : Shared) (r : Result) (t : Shared) : Prop := r = .ok (.ret (.bool true)) ∧ OldK u.heap t.heap ∧ t.os = u.os ∧ AllBare t.gens
/-- over a heap that holds the script at most -/
theorem call_at (KX : K.In u.heap) (gl : u.heap.Ns mainGlobals mg) (bl : u.heap.Ns builtinsNs mb) (bb : ∀ x : Str, x ≠ "__name__" → mb x = bootBuiltins x) (nl : u.heap.NoLimit) (ge : u.gens = #[]) (at_ : u.heap.get? sA = some (lstO vs)) (hr : Room k callerA)
    (F : ∀ base : Heap, K.In base → base.Ns mainGlobals mg → FnG prog w K mg base k fL fd ps sp) (hb : ∀ us : List Value, us.length = ps.length → bindArgs fd ⟨us, []⟩ = pure (ps.zip us)) (one : ps.length = 1)
    (G : Hp) (gO : ∀ b, G b = none ∨ b = sA ∧ ∃ o xs, G b = some (.frz o (.lst xs))) (gK : G sA ≠ none → K.lookup sA = none) (gH : HOk prog w G u.heap) (gs : ScrAt K G sA ns)
    (hsp : ∀ H : Hp, ScrAt K H sA ns → sp [.ref sA] H (fun v _ => v = .bl true) fun _ _ _ => False) : codeAny (model prog w) callerA (.call (.ref fL) ⟨[.ref sA], []⟩) (Good u) u := by
  have none_of : ∀ {b : Addr} {o : Obj}, u.heap.get? b = some o → o ≠ lstO vs → G b = none := fun {b o} e ne => by
    rcases gO b with z | ⟨rfl, _⟩
    · exact z
    · rw [at_] at e
      exact absurd (Option.some.inj e).symm ne
  have keepB : ∀ {b : Addr} {o : Obj}, u.heap.get? b = some o → G b = none → (hidT u.heap G).get? b = some o := fun e z => hidT_get e z
  have nsB : ∀ {b : Addr} {m : Str → Option Value}, u.heap.Ns b m → (hidT u.heap G).Ns b m := fun {b m} ⟨o, es, ep, e, d, r⟩ => ⟨o, es, ep, keepB e (none_of e fun z => by subst z; cases d), d, r⟩
  have kB : K.In (hidT u.heap G) := fun b o e => by
    refine keepB (KX b o e) ?_
    rcases gO b with z | ⟨rfl, o', xs, z⟩
    · exact z
    · rw [gK (by rw [z]; simp)] at e
      cases e
  obtain ⟨mc, l1, l2⟩ := nl
  have mB : Mod K mg (hidT u.heap G) := ⟨kB, nsB gl, ⟨mb, nsB bl, bb⟩, ⟨mc, nsB l1, l2⟩⟩
  have e0 : Env0 prog w K mg (hidT u.heap G) callerA [] u G :=
    ⟨rfl, mB, fun b o e => of_hidT e, Nat.le_of_eq (hidT_size _ _), trivial, fun b hm => (nomatch (show b ∈ ([] : List Addr) from hm)), gH, .of_eq ge⟩
  have bt : BindsTo u fd ⟨[.ref sA], []⟩ (ps.zip [.ref sA]) := .of_eq (hb [.ref sA] (by rw [one]; rfl))
  refine codeAny_mono ((F _ kB (nsB gl)).run callerA [] u G ⟨[.ref sA], []⟩ [.ref sA] [.ref sA] _ _ hr rfl e0 bt (.cons rfl .nil) (hsp G gs)) fun r t q => ?_
  rcases r with er | fl
  · obtain ⟨_, _, _, _, _, _, _, _, _, _, _, _, z⟩ := q
    exact z.elim
  · cases fl with
    | next => exact q.elim
    | brk => exact q.elim
    | cont => exact q.elim
    | ret x =>
      obtain ⟨v, G', q1, q2, q3, q4, q5, q6⟩ := q
      have q6 : v = .bl true := q6
      subst q6
      obtain rfl : x = Value.bool true := q5
      refine ⟨rfl, OldK.of_keep fun b o e => ?_, q1, q2⟩
      rcases gO b with z | ⟨rfl, o', xs, z⟩
      · exact q3.keep b o e z (fun hm => (nomatch (show b ∈ ([] : List Addr) from hm))) (by simp)
      · obtain ⟨y1, _⟩ := gH b _ z
        obtain ⟨y2, _⟩ := q4 b _ (q3.frzs b o' _ z)
        rw [e] at y1
        cases y1
        exact y2
theorem call_q (KX : K.In u.heap) (gl : u.heap.Ns mainGlobals mg) (bl : u.heap.Ns builtinsNs mb) (bb : ∀ x : Str, x ≠ "__name__" → mb x = bootBuiltins x) (nl : u.heap.NoLimit) (ge : u.gens = #[]) (at_ : u.heap.get? sA = some (lstO vs)) (iv : IntsAre vs ns) (few : ns.length ≤ sizeLine) (hr : Room k callerA)
    (F : ∀ base : Heap, K.In base → base.Ns mainGlobals mg → FnG prog w K mg base k fL fd ps sp) (hb : ∀ us : List Value, us.length = ps.length → bindArgs fd ⟨us, []⟩ = pure (ps.zip us)) (one : ps.length = 1)
    (hsp : ∀ H : Hp, ScrAt K H sA ns → sp [.ref sA] H (fun v _ => v = .bl true) fun _ _ _ => False) : codeAny (model prog w) callerA (.call (.ref fL) ⟨[.ref sA], []⟩) (Good u) u := by
  have rv := vals_ints iv
  have hlen := iv.length
  cases hk : K.lookup sA with
  | some o =>
    have e := KX sA o hk
    rw [at_] at e
    cases e
    refine call_at KX gl bl bb nl ge at_ hr F hb one (fun _ => none) (fun _ => .inl rfl) (fun z => absurd rfl z) (fun b x z => nomatch (show (none : Option HO) = some x from z)) (.inr fun H' => .inr ⟨_, vs.toArray, _, hk, rfl, rfl, rfl, ?_, by simpa using rv⟩) hsp
    rw [List.size_toArray, hlen]; exact few
  | none =>
    have g0 : (fun b => if b = sA then some (HO.frz (lstO vs) (.lst (ns.map V.int))) else none : Hp) sA = some (HO.frz (lstO vs) (.lst (ns.map V.int))) := if_pos rfl
    refine call_at KX gl bl bb nl ge at_ hr F hb one (fun b => if b = sA then some (.frz (lstO vs) (.lst (ns.map V.int))) else none) (fun b => ?_) (fun _ => hk) (fun b x z => ?_) (.inl ⟨_, g0⟩) hsp
    · by_cases hm : b = sA
      · exact .inr ⟨hm, _, _, if_pos hm⟩
      · exact .inl (if_neg hm)
    · by_cases hm : b = sA
      · subst hm
        obtain rfl := Option.some.inj (g0.symm.trans z)
        exact ⟨at_, by rw [List.length_map]; exact few, vs, _, rv, at_⟩
      · have z' := (if_neg hm).symm.trans z
        cases z'
end
section
variable {D : Dt} {fnl : List He.DefD} {xl : List XD}
/-- the law's own promise, from what its run computes -/
theorem sp_of {K : PySem.W.Frag} {n f : Nat} {ns : List Int} {sA : Addr} (hp : ∃ st', run D.Z.P D.Z.LM n false f [.v (.scr ns)] [] = .ok (.v (.bl true)) st') (H : Hp) (hs : ScrAt K H sA ns) :
    spR K (D.ca K) (run D.Z.P D.Z.LM n false f) 1 [.ref sA] H (fun v _ => v = .bl true) fun _ _ _ => False := by
  obtain ⟨st', e⟩ := hp
  refine ⟨rfl, ⟨[], []⟩, [], [.v (.scr ns)], ⟨rfl, fun i j a h => by simp at h, fun i a h => by simp at h, fun i h => by simp at h, fun i a h => by simp at h, fun a h => (nomatch h)⟩, .cons (.v (.scr hs)) .nil, ?_⟩
  rw [e]
  intro m' H' v _ r _
  cases r; rename_i r
  cases r; rfl
theorem walk_D {l : PySem.W.OpenLaw} {m lev fL nh : Nat} {q : Program} {loose : List Str} {XP : (Str → Option Value) → Heap → Prop} {d : DefRec} {dL : Fn} (O : D.Ok) (hp : Packs D fnl) (hx : XPacks D xl) (top : (l.prog.main.scope.names.lookup ("super" : Str)).isSome = false)
    (hn : l.most = some m) (hn2 : m ≤ sizeLine) (hdf : d.params.defaults = []) (hr : Room (lv lev) callerA) (hf : D.Z.gl.lookup d.name = some (.fn fL)) (hd : D.fnL[fL]? = some dL) (h1 : dL.np = 1)
    (pure_ : ∀ ns : List Int, ns.length ≤ m → (∀ z ∈ ns, Builtin.Int.intBits z ≤ 1048576) → ∃ st', run D.Z.P D.Z.LM lev false fL [.v (.scr ns)] [] = .ok (.v (.bl true)) st') :
    PySem.W.WalkO q loose XP (hookQ D l.prog.main.file fnl xl nh).says l.row.toRowW d [] (fun f vs => PySem.call f vs) := by
  refine Att.attach_callB hn hdf fun w s₀ u mg mb fa o pm cd doc a vs ns G Y ho hdd hcd hmg hobj hints hlen hbits hg => ?_
  obtain ⟨K, KX, c⟩ := Y
  obtain ⟨B, ff⟩ := facts_ok O c hp KX G.T.g
  have hfn : D.Z.P.fn fL = some dL := by rw [O.fn]; exact hd
  obtain ⟨g1, _⟩ := B.gfn _ _ hf
  rw [hmg] at g1
  obtain rfl : fa = D.fa K fL := by
    have := Option.some.inj g1
    cases this; rfl
  obtain ⟨b1, b2⟩ := B.fbd fL dL hfn
  refine call_q KX G.T.g G.T.b G.T.builtins G.T.nolimit hg hobj hints (Nat.le_trans hlen hn2) hr (fun base kb gb => fns_ok B (excs_ok O c hx kb gb top) ?_ ff lev false fL dL hfn) b2 (b1.trans h1) fun H hs => ?_
  · have A := c.all
    unfold allB at A
    obtain ⟨_, a9⟩ := and2 A
    obtain ⟨o, ho⟩ := Option.isSome_iff_exists.mp a9
    exact ⟨o, kb _ o ho⟩
  · rw [h1]
    exact sp_of (pure_ ns hlen hbits) H hs
end
end PV
end
section
set_option Elab.async false
set_option linter.all false
set_option maxRecDepth 100000
set_option maxHeartbeats 1000000
/-! E1: reckoning with the evaluator. -/
namespace PV
open PySem
/-- a call's end -/
def finR (dz z : Bool) (L : Nat) : SRes → Res D
  | .ok (.rt r) _ s' => match dz || z with
    | true => trimZ L r s'
    | false => trim L r s'
  | .ok .nx _ s' => trim L (.v .non) s'
  | .ex c fs _ s' => trimX L c fs s'
  | _ => .bad
def flOf (P : Pr) (LM : Nat → Option C) (n : Nat) : Nat → Env → M D := fun k e => match LM k with
  | some c => ev P (run P LM n) (fun _ _ => M.bad) e c
  | none => M.bad
theorem run_eq {P : Pr} {LM : Nat → Option C} {n : Nat} {z : Bool} {f : Nat} {ds : List D} {s : Sto} {d : Fn} (h : P.fn f = some d) (hl : ds.length = d.np) :
    run P LM (n + 1) z f ds s = finR d.z z s.length (exSs P (run P LM n) (flOf P LM n) (ds.map some ++ List.replicate (d.ns - d.np) none) d.body s) := by
  unfold run
  rw [h]
  dsimp only
  rw [decide_eq_true hl]
  rfl
theorem trim_v {s : Sto} {t : T} : trim s.length (.v t) s = .ok (.v t) s := by
  unfold trim
  have e : s.take s.length = s := List.take_length
  rw [e]
  cases h : ((D.v t).closed s.length && Sto.closed s.length s) <;> rfl
@[simp] theorem bind_ok_ {α β : Type} (a : α) (s : Sto) (f : α → M β) : Res.bind (.ok a s) f = f a s := rfl
@[simp] theorem mbind_ap {α β : Type} (m : M α) (f : α → M β) (s : Sto) : (M.bind m f) s = (m s).bind f := rfl
@[simp] theorem mret_ap {α : Type} (a : α) (s : Sto) : (M.ret a) s = .ok a s := rfl
@[simp] theorem mopt_some {α : Type} (a : α) (s : Sto) : (M.opt (some a)) s = .ok a s := rfl
@[simp] theorem guard_t (s : Sto) : guardM true s = .ok () s := rfl
@[simp] theorem withE_ok {α : Type} (env : Env) (a : α) (s : Sto) (f : α → Sto → SRes) : withE env (.ok a s) f = f a s := rfl
@[simp] theorem sbind_nx (e : Env) (s : Sto) (f : Env → Sto → SRes) : SRes.bind (.ok .nx e s) f = f e s := rfl
@[simp] theorem sbind_rt (d : D) (e : Env) (s : Sto) (f : Env → Sto → SRes) : SRes.bind (.ok (.rt d) e s) f = .ok (.rt d) e s := rfl
@[simp] theorem testOf_bl (b : Bool) (s : Sto) : testOf (.v (.bl b)) s = .ok b s := rfl
end PV
end
section
set_option Elab.async false
set_option linter.all false
set_option maxRecDepth 100000
set_option maxHeartbeats 1000000
/-! E2: operators on known values; loops. -/
namespace PV
open PySem
theorem bi_int (i : Int) (s : Sto) (b : Bool) : builtin b .int [.v (.int i)] s = .ok (.v (.int i)) s := rfl
theorem bi_intb (i : Bool) (s : Sto) (b : Bool) : builtin b .int [.v (.bl i)] s = .ok (.v (.int (if i then 1 else 0))) s := rfl
theorem b_add (m : Bool) (i j : Int) (s : Sto) : binop m .add (.v (.int i)) (.v (.int j)) s = .ok (.v (.int (i + j))) s := rfl
theorem b_sub (m : Bool) (i j : Int) (s : Sto) : binop m .sub (.v (.int i)) (.v (.int j)) s = .ok (.v (.int (i - j))) s := rfl
theorem b_mul (m : Bool) (i j : Int) (s : Sto) (h : okMul i j = true) : binop m .mul (.v (.int i)) (.v (.int j)) s = .ok (.v (.int (i * j))) s := by
  unfold binop; dsimp only; rw [h]; rfl
theorem b_mod (m : Bool) (i j : Int) (s : Sto) (h : 0 < j) : binop m .mod (.v (.int i)) (.v (.int j)) s = .ok (.v (.int (i % j))) s := by
  unfold binop; dsimp only; rw [decide_eq_true h]; rfl
theorem b_fdiv (m : Bool) (i j : Int) (s : Sto) (h : 0 < j) (h2 : j < 1073741824) : binop m .fdiv (.v (.int i)) (.v (.int j)) s = .ok (.v (.int (i / j))) s := by
  unfold binop; dsimp only; rw [decide_eq_true h, decide_eq_true h2]; rfl
theorem b_pow (m : Bool) (i j : Int) (s : Sto) (h : okPow i j = true) : binop m .pow (.v (.int i)) (.v (.int j)) s = .ok (.v (.int (i ^ j.toNat))) s := by
  unfold binop; dsimp only; rw [h]; rfl
section
variable {P : Pr} {F : Bool → Nat → List D → M D}
theorem c_ge (i j : Int) (s : Sto) : cmpop P F .ge (.v (.int i)) (.v (.int j)) s = .ok (.v (.bl (decide (j ≤ i)))) s := rfl
theorem c_gt (i j : Int) (s : Sto) : cmpop P F .gt (.v (.int i)) (.v (.int j)) s = .ok (.v (.bl (decide (j < i)))) s := rfl
theorem c_lt (i j : Int) (s : Sto) : cmpop P F .lt (.v (.int i)) (.v (.int j)) s = .ok (.v (.bl (decide (i < j)))) s := rfl
theorem c_le (i j : Int) (s : Sto) : cmpop P F .le (.v (.int i)) (.v (.int j)) s = .ok (.v (.bl (decide (i ≤ j)))) s := rfl
theorem c_eqi (i j : Int) (s : Sto) : cmpop P F .eq (.v (.int i)) (.v (.int j)) s = .ok (.v (.bl (decide (i = j)))) s := rfl
theorem c_nei (i j : Int) (s : Sto) : cmpop P F .ne (.v (.int i)) (.v (.int j)) s = .ok (.v (.bl (!decide (i = j)))) s := rfl
/-- two values of data are compared -/
theorem c_eq {a b : T} (s : Sto) (h : a.flat = true) (h2 : b.flat = true) : cmpop P F .eq (.v a) (.v b) s = .ok (.v (.bl (T.eqv a b))) s := by
  have e : asIns s (.v a) = none := by cases a <;> first | rfl | (cases h)
  unfold cmpop
  dsimp only
  rw [e]
  show (eqD (.v a) (.v b) s).bind _ = _
  unfold eqD
  show (match some a, some b with | some a, some b => (guardM (a.flat && b.flat) s).bind fun _ => M.ret (T.eqv a b) | _, _ => .bad).bind _ = _
  dsimp only
  rw [h, h2]; rfl
theorem c_ne {a b : T} (s : Sto) (h : a.flat = true) (h2 : b.flat = true) : cmpop P F .ne (.v a) (.v b) s = .ok (.v (.bl (!T.eqv a b))) s := by
  unfold cmpop
  dsimp only
  show (eqD (.v a) (.v b) s).bind _ = _
  unfold eqD
  show (match some a, some b with | some a, some b => (guardM (a.flat && b.flat) s).bind fun _ => M.ret (T.eqv a b) | _, _ => .bad).bind _ = _
  dsimp only
  rw [h, h2]; rfl
theorem rd_v (s : Sto) (k : Nat) (t : T) : rd s k (.v t) = some t := by cases k <;> rfl
theorem mapM_rd (s : Sto) (k : Nat) : ∀ ts : List T, (ts.map D.v).mapM (rd s k) = some ts
  | [] => rfl
  | t :: r => by rw [List.map_cons, List.mapM_cons, rd_v, mapM_rd s k r]; rfl
theorem inD_seq {a : T} {ts : List T} {q : D} (s : Sto) (hq : q = .v (.lst ts) ∨ q = .v (.tup ts)) (h : a.flat = true) (h2 : ts.all T.flat = true) : inD (.v a) q s = .ok (anyEq a ts) s := by
  have e0 : asDct s q = none := by rcases hq with rfl | rfl <;> rfl
  have e1 : asSeq s q = some (ts.map .v) := by rcases hq with rfl | rfl <;> rfl
  have ne : ∀ x, q ≠ .v (.str x) := fun x z => by rcases hq with rfl | rfl <;> cases z
  have key : inD (.v a) q s = match rd s DEEP (.v a), (asSeq s q).bind fun ds => ds.mapM (rd s DEEP) with
      | some a, some bs => (guardM (a.flat && bs.all T.flat) s).bind fun _ => .ret (anyEq a bs)
      | _, _ => .bad := by
    rcases hq with rfl | rfl <;> (unfold inD; cases a <;> rfl)
  rw [key, e1]
  show (match rd s DEEP (.v a), (ts.map D.v).mapM (rd s DEEP) with
      | some a, some bs => (guardM (a.flat && bs.all T.flat) s).bind fun _ => M.ret (anyEq a bs)
      | _, _ => .bad) = _
  rw [rd_v, mapM_rd]
  dsimp only
  rw [h, h2]; rfl
theorem c_in {a : T} {ts : List T} {q : D} (s : Sto) (hq : q = .v (.lst ts) ∨ q = .v (.tup ts)) (h : a.flat = true) (h2 : ts.all T.flat = true) : cmpop P F .isin (.v a) q s = .ok (.v (.bl (anyEq a ts))) s := by
  unfold cmpop
  dsimp only
  rw [inD_seq s hq h h2]; rfl
theorem c_nin {a : T} {ts : List T} {q : D} (s : Sto) (hq : q = .v (.lst ts) ∨ q = .v (.tup ts)) (h : a.flat = true) (h2 : ts.all T.flat = true) : cmpop P F .nin (.v a) q s = .ok (.v (.bl (!anyEq a ts))) s := by
  unfold cmpop
  dsimp only
  rw [inD_seq s hq h h2]; rfl
end
/-- powers of what is small -/
theorem okPow_small {i : Int} {k : Nat} (h : i.natAbs.log2 < 2300000) (hk : k ≤ 3) : okPow i (k : Int) = true := by
  unfold okPow
  rw [Bool.and_eq_true]
  refine ⟨decide_eq_true (by omega), decide_eq_true ?_⟩
  rw [Int.toNat_natCast]
  calc (i.natAbs.log2 + 1) * k ≤ 2300000 * 3 := Nat.mul_le_mul (by omega) hk
    _ < 60000000 := by decide
theorem log2_lt {i : Int} {k : Nat} (h0 : 0 ≤ i) (h : i < 2 ^ k) (hk : 0 < k) : i.natAbs.log2 < k := by
  by_cases e : i.natAbs = 0
  · rw [e]; simpa using hk
  · refine (Nat.log2_lt e).mpr ?_
    have h2 : ((i.natAbs : Nat) : Int) < ((2 ^ k : Nat) : Int) := by rw [Int.natAbs_of_nonneg h0]; exact_mod_cast h
    exact_mod_cast h2
theorem okMul_r {i j : Int} (h : -18446744073709551616 < j) (h2 : j < 18446744073709551616) : okMul i j = true := by
  unfold okMul
  rw [decide_eq_true h, decide_eq_true h2]; simp
/-! ### loops -/
theorem turns_pure {g : Pt} {env : Env} {cond : Env → M Bool} {elt : Env → M D} {s : Sto} (p : D → Bool) (f : D → D) : ∀ (xs acc : List D), (∀ x ∈ xs, ∃ e, bindP s g x env = some e ∧ cond e s = .ok (p x) s ∧ (p x = true → elt e s = .ok (f x) s)) → turns g env cond elt xs acc s = .ok (acc ++ (xs.filter p).map f) s
  | [], acc, _ => by simp [turns]
  | x :: r, acc, h => by
    obtain ⟨e, h1, h2, h3⟩ := h x (List.mem_cons_self ..)
    unfold turns
    rw [h1]
    dsimp only
    rw [h2]
    show (match p x with
      | true => (elt e).bind fun y => turns g env cond elt r (acc ++ [y])
      | false => turns g env cond elt r acc) s = _
    cases q : p x with
    | true =>
      show ((elt e s).bind fun y => turns g env cond elt r (acc ++ [y])) = _
      rw [h3 q]
      show turns g env cond elt r (acc ++ [f x]) s = _
      rw [turns_pure p f r _ fun y hy => h y (List.mem_cons_of_mem _ hy), List.filter_cons_of_pos q]
      simp
    | false =>
      dsimp only
      rw [turns_pure p f r _ fun y hy => h y (List.mem_cons_of_mem _ hy), List.filter_cons_of_neg (by simp [q])]
/-- .. each item has what is wanted, there are no more than values -/
theorem turns_all {g : Pt} {env : Env} {cond : Env → M Bool} {elt : Env → M D} (I : Sto → Prop) (Y : D → Prop) : ∀ (xs acc : List D) (s : Sto), I s → (∀ x ∈ xs, ∀ s, I s → ∃ e b s1, bindP s g x env = some e ∧ cond e s = .ok b s1 ∧ I s1 ∧ (b = true → ∃ y s2, elt e s1 = .ok y s2 ∧ I s2 ∧ Y y)) → ∃ ys s', turns g env cond elt xs acc s = .ok (acc ++ ys) s' ∧ I s' ∧ (∀ y ∈ ys, Y y) ∧ ys.length ≤ xs.length := by
  intro xs
  induction xs with
  | nil => exact fun acc s i _ => ⟨[], s, by simp [turns], i, fun _ h => (nomatch h), Nat.le_refl _⟩
  | cons x r ih =>
    intro acc s i h
    obtain ⟨e, b, s1, h1, h2, h3, h4⟩ := h x (List.mem_cons_self ..) s i
    have hr : ∀ y ∈ r, ∀ s, I s → ∃ e b s1, bindP s g y env = some e ∧ cond e s = .ok b s1 ∧ I s1 ∧ (b = true → ∃ y s2, elt e s1 = .ok y s2 ∧ I s2 ∧ Y y) := fun y hy => h y (List.mem_cons_of_mem _ hy)
    unfold turns
    rw [h1]
    dsimp only
    rw [h2]
    cases b with
    | true =>
      obtain ⟨y, s2, h5, h6, h7⟩ := h4 rfl
      obtain ⟨ys, s', q1, q2, q3, q4⟩ := ih (acc ++ [y]) s2 h6 hr
      refine ⟨y :: ys, s', ?_, q2, fun z hz => ?_, by simp; omega⟩
      · show ((elt e s1).bind fun y => turns g env cond elt r (acc ++ [y])) = _
        rw [h5]
        show turns g env cond elt r (acc ++ [y]) s2 = _
        rw [q1]; simp
      · rcases List.mem_cons.mp hz with rfl | hz
        · exact h7
        · exact q3 z hz
    | false =>
      obtain ⟨ys, s', q1, q2, q3, q4⟩ := ih acc s1 h3 hr
      exact ⟨ys, s', q1, q2, q3, by simp; omega⟩
inductive All2 {α β : Type} (Y : α → β → Prop) : List α → List β → Prop
  | nil : All2 Y [] []
  | cons {x : α} {y : β} {xs : List α} {ys : List β} : Y x y → All2 Y xs ys → All2 Y (x :: xs) (y :: ys)
theorem All2.len {α β : Type} {Y : α → β → Prop} {xs : List α} {ys : List β} (h : All2 Y xs ys) : xs.length = ys.length := by
  induction h with
  | nil => rfl
  | cons _ _ ih => simp [ih]
theorem All2.mem {α β : Type} {Y : α → β → Prop} {xs : List α} {ys : List β} (h : All2 Y xs ys) : ∀ y ∈ ys, ∃ x ∈ xs, Y x y := by
  induction h with
  | nil => exact fun y h => (nomatch h)
  | cons a _ ih =>
    intro y hy
    rcases List.mem_cons.mp hy with rfl | hy
    · exact ⟨_, List.mem_cons_self .., a⟩
    · obtain ⟨x, h1, h2⟩ := ih y hy
      exact ⟨x, List.mem_cons_of_mem _ h1, h2⟩
/-- .. each value has its item -/
theorem turns_each {g : Pt} {env : Env} {cond : Env → M Bool} {elt : Env → M D} (I : Sto → Prop) (Y : D → D → Prop) : ∀ (xs acc : List D) (s : Sto), I s → (∀ x ∈ xs, ∀ s, I s → ∃ e s1, bindP s g x env = some e ∧ cond e s = .ok true s1 ∧ ∃ y s2, elt e s1 = .ok y s2 ∧ I s2 ∧ Y x y) →
    ∃ ys s', turns g env cond elt xs acc s = .ok (acc ++ ys) s' ∧ I s' ∧ All2 Y xs ys := by
  intro xs
  induction xs with
  | nil => exact fun acc s i _ => ⟨[], s, by simp [turns], i, .nil⟩
  | cons x r ih =>
    intro acc s i h
    obtain ⟨e, s1, h1, h2, y, s2, h5, h6, h7⟩ := h x (List.mem_cons_self ..) s i
    obtain ⟨ys, s', q1, q2, q3⟩ := ih (acc ++ [y]) s2 h6 fun y hy => h y (List.mem_cons_of_mem _ hy)
    refine ⟨y :: ys, s', ?_, q2, .cons h7 q3⟩
    unfold turns
    rw [h1]
    dsimp only
    rw [h2]
    show ((elt e s1).bind fun y => turns g env cond elt r (acc ++ [y])) = _
    rw [h5]
    show turns g env cond elt r (acc ++ [y]) s2 = _
    rw [q1]; simp
theorem forL_inv {g : Pt} {body : Env → Sto → SRes} (I : List D → Env → Sto → Prop) (hs : ∀ x r env s, I (x :: r) env s → ∃ e, bindP s g x env = some e ∧ ∃ e' s', body e s = .ok .nx e' s' ∧ I r e' s') : ∀ (xs : List D) (env : Env) (s : Sto), I xs env s → ∃ env' s', forL g body xs env s = .ok .nx env' s' ∧ I [] env' s'
  | [], env, s, i => ⟨env, s, rfl, i⟩
  | x :: r, env, s, i => by
    obtain ⟨e, h1, e', s', h2, h3⟩ := hs x r env s i
    obtain ⟨en, s2, q1, q2⟩ := forL_inv I hs r e' s' h3
    refine ⟨en, s2, ?_, q2⟩
    unfold forL
    rw [h1]
    dsimp only
    rw [h2]
    exact q1
section
variable {P : Pr} {F : Bool → Nat → List D → M D} {FL : Nat → Env → M D} {env e' : Env} {x : S} {r : List S} {s s' : Sto} {d : D}
theorem seq_nx (h : exS P F FL env x s = .ok .nx e' s') : exSs P F FL env (x :: r) s = exSs P F FL e' r s' := by
  show (exS P F FL env x s).bind _ = _
  rw [h]; rfl
theorem seq_rt (h : exS P F FL env x s = .ok (.rt d) e' s') : exSs P F FL env (x :: r) s = .ok (.rt d) e' s' := by
  show (exS P F FL env x s).bind _ = _
  rw [h]; rfl
theorem seq_ex {c : Nat} {fs : List (Str × D)} (h : exS P F FL env x s = .ex c fs e' s') : exSs P F FL env (x :: r) s = .ex c fs e' s' := by
  show (exS P F FL env x s).bind _ = _
  rw [h]; rfl
theorem seq_br (h : exS P F FL env x s = .ok .br e' s') : exSs P F FL env (x :: r) s = .ok .br e' s' := by
  show (exS P F FL env x s).bind _ = _
  rw [h]; rfl
end
theorem allD_map : ∀ ts : List T, allD (ts.map .v) = some ts
  | [] => rfl
  | t :: r => by
    show (allD (r.map .v)).map (fun ts => t :: ts) = _
    rw [allD_map r]; rfl
theorem mkL_f (ts : List T) (s : Sto) : mkL false (ts.map .v) s = .ok (.v (.lst ts)) s := by
  unfold mkL; dsimp only; rw [allD_map]
theorem mkL_t (ds : List D) (s : Sto) : mkL true ds s = .ok (.ref s.length) (s ++ [some (.lst ds)]) := rfl
theorem mkT_v (ts : List T) : mkT (ts.map .v) = .v (.tup ts) := by
  unfold mkT; rw [allD_map]
theorem nox_ok {α : Type} {m : M α} {s s' : Sto} {x : α} (h : m s = .ok x s') : nox m s = .ok x s' := by
  unfold nox; rw [h]
section
variable {P : Pr} {F : Bool → Nat → List D → M D} {FL : Nat → Env → M D} {env : Env} {own : List Nat} {i : Nat} {it e : C} {cond : Option C} {ts : List T} {s s0 : Sto} {m : Bool}
theorem bind_nm {t : D} (h : i < env.length) : bindP s (.nm i) t env = some (env.set i (some t)) := by
  unfold bindP; rw [decide_eq_true h]
/-- a comprehension that changes nothing -/
theorem comp_pure (p : T → Bool) (f : T → T) (hit : evi P F FL env it s0 = .ok (ts.map .v) s) (hi : i < env.length) (hc : ∀ t ∈ ts, evc P F FL ((wipeE env own).set i (some (.v t))) cond s = .ok (p t) s)
    (he : ∀ t ∈ ts, p t = true → ev P F FL ((wipeE env own).set i (some (.v t))) e s = .ok (.v (f t)) s) : ev P F FL env (.comp m e own (.nm i) it cond) s0 = mkL m (((ts.filter p).map f).map .v) s := by
  show ((evi P F FL env it s0).bind fun xs => (nox (turns (.nm i) (wipeE env own) (fun en => evc P F FL en cond) (fun en => ev P F FL en e) xs [])).bind fun ys => mkL m ys) = _
  rw [hit]
  have hl : ∀ own : List Nat, (wipeE env own).length = env.length := fun own => by
    induction own with
    | nil => rfl
    | cons v r ih => unfold wipeE; rw [List.length_set]; exact ih
  have z := turns_pure (g := .nm i) (env := wipeE env own) (cond := fun en => evc P F FL en cond) (elt := fun en => ev P F FL en e) (s := s) (fun d => match d with | .v t => p t | _ => false) (fun d => match d with | .v t => .v (f t) | d => d) (ts.map .v) [] (fun x hx => by
    obtain ⟨t, ht, rfl⟩ := List.mem_map.mp hx
    exact ⟨_, bind_nm (by rw [hl]; exact hi), hc t ht, he t ht⟩)
  show ((nox (turns (.nm i) (wipeE env own) (fun en => evc P F FL en cond) (fun en => ev P F FL en e) (ts.map .v) []) s).bind fun ys => mkL m ys) = _
  rw [nox_ok z]
  show mkL m _ s = _
  congr 1
  rw [List.nil_append, List.filter_map, List.map_map, List.map_map]
  rfl
/-- one with a state -/
theorem comp_state (I : Sto → Prop) (Y : T → Prop) (hit : evi P F FL env it s0 = .ok (ts.map .v) s) (h0 : I s) (hi : i < env.length) (h : ∀ t ∈ ts, ∀ s, I s → ∃ b s1, evc P F FL ((wipeE env own).set i (some (.v t))) cond s = .ok b s1 ∧ I s1 ∧
    (b = true → ∃ y s2, ev P F FL ((wipeE env own).set i (some (.v t))) e s1 = .ok (.v y) s2 ∧ I s2 ∧ Y y)) :
    ∃ (ys : List T) (s' : Sto), ev P F FL env (.comp m e own (.nm i) it cond) s0 = mkL m (ys.map .v) s' ∧ I s' ∧ (∀ y ∈ ys, Y y) ∧ ys.length ≤ ts.length := by
  have hl : ∀ own : List Nat, (wipeE env own).length = env.length := fun own => by
    induction own with
    | nil => rfl
    | cons v r ih => unfold wipeE; rw [List.length_set]; exact ih
  obtain ⟨ys, s', q1, q2, q3, q4⟩ := turns_all (g := .nm i) (env := wipeE env own) (cond := fun en => evc P F FL en cond) (elt := fun en => ev P F FL en e) I (fun d => ∃ y, d = .v y ∧ Y y) (ts.map .v) [] s h0 (fun x hx s hs => by
    obtain ⟨t, ht, rfl⟩ := List.mem_map.mp hx
    obtain ⟨b, s1, k1, k2, k3⟩ := h t ht s hs
    refine ⟨_, b, s1, bind_nm (by rw [hl]; exact hi), k1, k2, fun hb => ?_⟩
    obtain ⟨y, s2, k4, k5, k6⟩ := k3 hb
    exact ⟨_, s2, k4, k5, y, rfl, k6⟩)
  have hv : ∃ us : List T, ys = us.map .v ∧ ∀ u ∈ us, Y u := by
    clear q1 q4
    induction ys with
    | nil => exact ⟨[], rfl, fun _ h => (nomatch h)⟩
    | cons y r ih =>
      obtain ⟨us, rfl, hu⟩ := ih fun z hz => q3 z (List.mem_cons_of_mem _ hz)
      obtain ⟨u, rfl, hy⟩ := q3 y (List.mem_cons_self ..)
      exact ⟨u :: us, rfl, fun z hz => by
        rcases List.mem_cons.mp hz with rfl | hz
        · exact hy
        · exact hu z hz⟩
  obtain ⟨us, rfl, hu⟩ := hv
  refine ⟨us, s', ?_, q2, hu, by simpa using q4⟩
  show ((evi P F FL env it s0).bind fun xs => (nox (turns (.nm i) (wipeE env own) (fun en => evc P F FL en cond) (fun en => ev P F FL en e) xs [])).bind fun ys => mkL m ys) = _
  rw [hit]
  show ((nox (turns (.nm i) (wipeE env own) (fun en => evc P F FL en cond) (fun en => ev P F FL en e) (ts.map .v) []) s).bind fun ys => mkL m ys) = _
  rw [nox_ok q1]
  rfl
end
theorem inD_ref {a : T} {ts : List T} {i : Nat} {s : Sto} (hc : cellAt s i = some (.lst (ts.map .v))) (h : a.flat = true) (h2 : ts.all T.flat = true) : inD (.v a) (.ref i) s = .ok (anyEq a ts) s := by
  have e0 : asDct s (.ref i) = none := by unfold asDct; dsimp only; rw [hc]
  have e1 : asSeq s (.ref i) = some (ts.map .v) := by
    show asList s (.ref i) = _
    unfold asList; dsimp only; rw [hc]
  have key : inD (.v a) (.ref i) s = match rd s DEEP (.v a), (asSeq s (.ref i)).bind fun ds => ds.mapM (rd s DEEP) with
      | some a, some bs => (guardM (a.flat && bs.all T.flat) s).bind fun _ => .ret (anyEq a bs)
      | _, _ => .bad := by
    unfold inD
    rw [e0]
    cases a <;> rfl
  rw [key, e1]
  show (match rd s DEEP (.v a), (ts.map D.v).mapM (rd s DEEP) with
      | some a, some bs => (guardM (a.flat && bs.all T.flat) s).bind fun _ => M.ret (anyEq a bs)
      | _, _ => .bad) = _
  rw [rd_v, mapM_rd]
  dsimp only
  rw [h, h2]; rfl
theorem c_in_ref {P : Pr} {F : Bool → Nat → List D → M D} {a : T} {ts : List T} {i : Nat} {s : Sto} (hc : cellAt s i = some (.lst (ts.map .v))) (h : a.flat = true) (h2 : ts.all T.flat = true) : cmpop P F .isin (.v a) (.ref i) s = .ok (.v (.bl (anyEq a ts))) s := by
  unfold cmpop
  dsimp only
  rw [inD_ref hc h h2]; rfl
theorem c_nin_ref {P : Pr} {F : Bool → Nat → List D → M D} {a : T} {ts : List T} {i : Nat} {s : Sto} (hc : cellAt s i = some (.lst (ts.map .v))) (h : a.flat = true) (h2 : ts.all T.flat = true) : cmpop P F .nin (.v a) (.ref i) s = .ok (.v (.bl (!anyEq a ts))) s := by
  unfold cmpop
  dsimp only
  rw [inD_ref hc h h2]; rfl
theorem item_t {ts : List T} {i : Nat} {t : T} {s : Sto} (h : ts[i]? = some t) : item (.v (.tup ts)) (.v (.int i)) s = .ok (.v t) s := by
  have hl := (List.getElem?_eq_some_iff.mp h).1
  show M.opt ((place (ts.map D.v).length (i : Int)).bind fun j => (ts.map D.v)[j]?) s = _
  unfold place
  rw [List.length_map, if_pos (by omega), if_pos (by omega)]
  show M.opt ((ts.map D.v)[((i : Nat) : Int).toNat]?) s = _
  rw [Int.toNat_natCast, List.getElem?_map, h]; rfl
theorem item_ls {ts : List T} {i : Nat} {t : T} {s : Sto} (h : ts[i]? = some t) : item (.v (.lst ts)) (.v (.int i)) s = .ok (.v t) s := by
  have hl := (List.getElem?_eq_some_iff.mp h).1
  show M.opt ((place (ts.map D.v).length (i : Int)).bind fun j => (ts.map D.v)[j]?) s = _
  unfold place
  rw [List.length_map, if_pos (by omega), if_pos (by omega)]
  show M.opt ((ts.map D.v)[((i : Nat) : Int).toNat]?) s = _
  rw [Int.toNat_natCast, List.getElem?_map, h]; rfl
section
variable {P : Pr} {F : Bool → Nat → List D → M D} {FL : Nat → Env → M D} {env : Env} {a b c : C} {s s1 s2 s3 : Sto} {x y z : D} {k : Bool}
theorem ev_cmp {o : Cop} (h : ev P F FL env a s = .ok x s1) (h2 : ev P F FL env b s1 = .ok y s2) : ev P F FL env (.cmp o a b) s = cmpop P F o x y s2 := by
  show ((ev P F FL env a s).bind fun x => (ev P F FL env b).bind fun y => cmpop P F o x y) = _
  rw [h]
  show ((ev P F FL env b s1).bind fun y => cmpop P F o x y) = _
  rw [h2]; rfl
theorem ev_bin {m : Bool} {o : Bop} (h : ev P F FL env a s = .ok x s1) (h2 : ev P F FL env b s1 = .ok y s2) : ev P F FL env (.bin m o a b) s = binop m o x y s2 := by
  show ((ev P F FL env a s).bind fun x => (ev P F FL env b).bind fun y => binop m o x y) = _
  rw [h]
  show ((ev P F FL env b s1).bind fun y => binop m o x y) = _
  rw [h2]; rfl
theorem ev_ix (h : ev P F FL env a s = .ok x s1) (h2 : ev P F FL env b s1 = .ok y s2) : ev P F FL env (.ix a b) s = item x y s2 := by
  show ((ev P F FL env a s).bind fun x => (ev P F FL env b).bind fun y => item x y) = _
  rw [h]
  show ((ev P F FL env b s1).bind fun y => item x y) = _
  rw [h2]; rfl
theorem ev_not (h : ev P F FL env a s = .ok (.v (.bl k)) s1) : ev P F FL env (.not a) s = .ok (.v (.bl (!k))) s1 := by
  show ((ev P F FL env a s).bind fun x => (testOf x).bind fun b => .ret (D.v (T.bl (!b)))) = _
  rw [h]; rfl
theorem ev_and_t (h : ev P F FL env a s = .ok (.v (.bl true)) s1) : ev P F FL env (.and a b) s = ev P F FL env b s1 := by
  show ((ev P F FL env a s).bind _) = _
  rw [h]; rfl
theorem ev_and_f (h : ev P F FL env a s = .ok (.v (.bl false)) s1) : ev P F FL env (.and a b) s = .ok (.v (.bl false)) s1 := by
  show ((ev P F FL env a s).bind _) = _
  rw [h]; rfl
theorem ev_or_t (h : ev P F FL env a s = .ok (.v (.bl true)) s1) : ev P F FL env (.or a b) s = .ok (.v (.bl true)) s1 := by
  show ((ev P F FL env a s).bind _) = _
  rw [h]; rfl
theorem ev_or_f (h : ev P F FL env a s = .ok (.v (.bl false)) s1) : ev P F FL env (.or a b) s = ev P F FL env b s1 := by
  show ((ev P F FL env a s).bind _) = _
  rw [h]; rfl
/-- both told -/
theorem ev_and {j : Bool} (h : ev P F FL env a s = .ok (.v (.bl k)) s) (h2 : k = true → ev P F FL env b s = .ok (.v (.bl j)) s) : ev P F FL env (.and a b) s = .ok (.v (.bl (k && j))) s := by
  cases k with
  | true => rw [ev_and_t h, h2 rfl]; rfl
  | false => rw [ev_and_f h]; rfl
theorem ev_or {j : Bool} (h : ev P F FL env a s = .ok (.v (.bl k)) s) (h2 : k = false → ev P F FL env b s = .ok (.v (.bl j)) s) : ev P F FL env (.or a b) s = .ok (.v (.bl (k || j))) s := by
  cases k with
  | true => rw [ev_or_t h]; rfl
  | false => rw [ev_or_f h, h2 rfl]; rfl
theorem tst (h : ev P F FL env a s = .ok (.v (.bl k)) s1) : ((ev P F FL env a).bind testOf) s = .ok k s1 := by
  show ((ev P F FL env a s).bind testOf) = _
  rw [h]; rfl
theorem ev_bi1 {m : Bool} {bb : Bi} (h : ev P F FL env a s = .ok x s1) : ev P F FL env (.bi m bb [a]) s = builtin m bb [x] s1 := by
  show (((ev P F FL env a s).bind fun x => (M.ret []).bind fun xs => .ret (x :: xs)).bind fun ds => builtin m bb ds) = _
  rw [h]; rfl
theorem ev_call1 {zz : Bool} {f : Nat} (h : ev P F FL env a s = .ok x s1) : ev P F FL env (.call zz f [a] [] []) s = F zz f [x] s1 := by
  show (((ev P F FL env a s).bind fun x => (M.ret []).bind fun xs => .ret (x :: xs)).bind fun ds => (M.ret []).bind fun kd => F zz f (placed (npOf P f) ds [] kd)) = _
  rw [h]; rfl
theorem ev_call2 {zz : Bool} {f : Nat} (h : ev P F FL env a s = .ok x s1) (h2 : ev P F FL env b s1 = .ok y s2) : ev P F FL env (.call zz f [a, b] [] []) s = F zz f [x, y] s2 := by
  show (((ev P F FL env a s).bind fun x => ((ev P F FL env b).bind fun x => (M.ret []).bind fun xs => .ret (x :: xs)).bind fun xs => .ret (x :: xs)).bind fun ds => (M.ret []).bind fun kd => F zz f (placed (npOf P f) ds [] kd)) = _
  rw [h]
  show ((((ev P F FL env b s1).bind fun x => (M.ret []).bind fun xs => .ret (x :: xs)).bind fun xs => .ret (x :: xs)).bind fun ds => (M.ret []).bind fun kd => F zz f (placed (npOf P f) ds [] kd)) = _
  rw [h2]; rfl
theorem ev_call3 {zz : Bool} {f : Nat} (h : ev P F FL env a s = .ok x s1) (h2 : ev P F FL env b s1 = .ok y s2) (h3 : ev P F FL env c s2 = .ok z s3) : ev P F FL env (.call zz f [a, b, c] [] []) s = F zz f [x, y, z] s3 := by
  show (((ev P F FL env a s).bind fun x => ((ev P F FL env b).bind fun x => ((ev P F FL env c).bind fun x => (M.ret []).bind fun xs => .ret (x :: xs)).bind fun xs => .ret (x :: xs)).bind fun xs => .ret (x :: xs)).bind fun ds => (M.ret []).bind fun kd => F zz f (placed (npOf P f) ds [] kd)) = _
  rw [h]
  show ((((ev P F FL env b s1).bind fun x => ((ev P F FL env c).bind fun x => (M.ret []).bind fun xs => .ret (x :: xs)).bind fun xs => .ret (x :: xs)).bind fun xs => .ret (x :: xs)).bind fun ds => (M.ret []).bind fun kd => F zz f (placed (npOf P f) ds [] kd)) = _
  rw [h2]
  show (((((ev P F FL env c s2).bind fun x => (M.ret []).bind fun xs => .ret (x :: xs)).bind fun xs => .ret (y :: xs)).bind fun xs => .ret (x :: xs)).bind fun ds => (M.ret []).bind fun kd => F zz f (placed (npOf P f) ds [] kd)) = _
  rw [h3]; rfl
theorem ex_ret {r : List S} (h : ev P F FL env a s = .ok x s1) : exSs P F FL env (.ret a :: r) s = .ok (.rt x) env s1 := by
  refine seq_rt (show withE env (ev P F FL env a s) _ = _ from ?_)
  rw [h]; rfl
theorem ex_asg {r : List S} {i : Nat} (h : ev P F FL env a s = .ok x s1) (hi : i < env.length) : exSs P F FL env (.asg (.pt (.nm i)) a :: r) s = exSs P F FL (env.set i (some x)) r s1 := by
  refine seq_nx (show withE env (ev P F FL env a s) _ = _ from ?_)
  rw [h]
  show withE env (M.opt (bindP s1 (.nm i) x env) s1) _ = _
  rw [bind_nm hi]; rfl
theorem ex_if_t {r p q : List S} (h : ev P F FL env a s = .ok (.v (.bl true)) s1) : exSs P F FL env (.ife a p q :: r) s = (exSs P F FL env p s1).bind fun e s => exSs P F FL e r s := by
  show (withE env (((ev P F FL env a).bind testOf) s) _).bind _ = _
  rw [tst h]; rfl
theorem ex_if_f {r p q : List S} (h : ev P F FL env a s = .ok (.v (.bl false)) s1) : exSs P F FL env (.ife a p q :: r) s = (exSs P F FL env q s1).bind fun e s => exSs P F FL e r s := by
  show (withE env (((ev P F FL env a).bind testOf) s) _).bind _ = _
  rw [tst h]; rfl
theorem ex_for {r p : List S} {g : Pt} {it : C} {ds : List D} {env' : Env} (h : evi P F FL env it s = .ok ds s1) (h2 : forL g (fun e s => exSs P F FL e p s) ds env s1 = .ok .nx env' s2) : exSs P F FL env (.for_ g it p :: r) s = exSs P F FL env' r s2 := by
  refine seq_nx (show withE env (evi P F FL env it s) _ = _ from ?_)
  rw [h]; exact h2
theorem ex_ex {r : List S} (h : ev P F FL env a s = .ok x s1) : exSs P F FL env (.ex a :: r) s = exSs P F FL env r s1 := by
  refine seq_nx (show withE env (ev P F FL env a s) _ = _ from ?_)
  rw [h]; rfl
end
end PV
end
section
set_option linter.all false
set_option maxRecDepth 1000000
set_option maxHeartbeats 4000000
namespace K03
open PySem PV
def n_is_integer : List Str := ["value"]
def p_is_integer : List Str := ["value"]
def b_is_integer : List S := [.ret (.and (.isi (.var 0) [.inl .int]) (.not (.isi (.var 0) [.inl .bool])))]
def f_is_integer : Fn := ⟨1, 1, false, b_is_integer⟩
def n_is_name : List Str := ["value", "letter"]
def p_is_name : List Str := ["value"]
def b_is_name : List S := [.ife (.or (.not (.isi (.var 0) [.inl .str])) (.not (.chain (.int 1) .le (.bi false .len [(.var 0)]) .le (.glob "LONGEST")))) [.ret (.bl false)] [], .ret (.cmp .eq (.comp false (.var 1) [1] (.nm 1) (.it (.var 0)) (some (.cmp .nin (.var 1) (.glob "LETTERS")))) (.lst false []))]
def f_is_name : Fn := ⟨1, 2, false, b_is_name⟩
def n_are_unlike : List Str := ["value", "known", "name"]
def p_are_unlike : List Str := ["value", "known"]
def b_are_unlike : List S := [.ife (.or (.not (.isi (.var 0) [.inl .list, .inl .tuple])) (.cmp .isin (.bl false) (.comp false (.call false 1 [(.var 2)] [] []) [2] (.nm 2) (.it (.var 0)) none))) [.ret (.bl false)] [], .ret (.and (.cmp .eq (.lenset (.var 0)) (.bi false .len [(.var 0)])) (.or (.cmp .is_ (.var 1) .non) (.cmp .eq (.comp false (.var 2) [2] (.nm 2) (.it (.var 0)) (some (.cmp .nin (.var 2) (.var 1)))) (.lst false []))))]
def f_are_unlike : Fn := ⟨2, 3, false, b_are_unlike⟩
def n_is_rule : List Str := ["kinds", "value", "kind"]
def p_is_rule : List Str := ["kinds", "value"]
def b_is_rule : List S := [.ife (.or (.not (.isi (.var 1) [.inl .tuple])) (.or (.cmp .ne (.bi false .len [(.var 1)]) (.int 4)) (.or (.not (.call false 1 [(.ix (.var 1) (.int 0))] [] [])) (.not (.isi (.ix (.var 1) (.int 2)) [.inl .tuple]))))) [.ret (.bl false)] [], .ife (.cmp .isin (.bl false) (.comp false (.and (.isi (.var 2) [.inl .str]) (.cmp .isin (.var 2) (.var 0))) [2] (.nm 2) (.it (.tup [(false, (.ix (.var 1) (.int 1))), (true, (.ix (.var 1) (.int 2)))])) none)) [.ret (.bl false)] [], .ret (.call false 0 [(.ix (.var 1) (.int 3))] [] [])]
def f_is_rule : Fn := ⟨2, 3, false, b_is_rule⟩
def n_Booku_initu : List Str := ["self", "kinds", "handles", "rules", "start", "count", "number", "rule", "names", "name"]
def p_Booku_initu : List Str := ["self", "kinds", "handles", "rules", "start", "count"]
def b_Booku_initu : List S := [.ife (.or (.not (.call false 2 [(.var 1), .non] [] [])) (.cmp .eq (.bi false .len [(.var 1)]) (.int 0))) [.raise 1 [(.var 1)]] [], .ife (.not (.call false 2 [(.var 2), (.var 1)] [] [])) [.raise 2 [(.var 2)]] [], .ife (.not (.isi (.var 3) [.inl .list, .inl .tuple])) [.raise 3 [(.var 3)]] [], .for_ (.tp [(.nm 6), (.nm 7)]) (.enum (.var 3)) [.ife (.not (.call false 3 [(.var 1), (.var 7)] [] [])) [.raise 4 [(.var 6)]] []], .asg (.pt (.nm 8)) (.comp false (.ix (.var 7) (.int 0)) [7] (.nm 7) (.it (.var 3)) none), .for_ (.tp [(.nm 6), (.nm 9)]) (.enum (.var 8)) [.ife (.cmp .isin (.var 9) (.sl false (.var 8) none (some (.var 6)))) [.raise 5 [(.var 9)]] []], .ife (.or (.not (.isi (.var 4) [.inl .str])) (.cmp .nin (.var 4) (.var 1))) [.raise 6 [(.var 4)]] [], .ife (.not (.call false 0 [(.var 5)] [] [])) [.raise 7 [(.var 5)]] [], .asg (.tpl [(.fld (.var 0) "all_kinds"), (.fld (.var 0) "all_handles"), (.fld (.var 0) "all_rules")]) (.tup [(false, (.bi false .tuple [(.var 1)])), (false, (.bi false .tuple [(.var 2)])), (false, (.bi false .tuple [(.var 3)]))]), .asg (.tpl [(.fld (.var 0) "begin"), (.fld (.var 0) "first")]) (.tup [(false, (.var 4)), (false, (.var 5))])]
def f_Booku_initu : Fn := ⟨6, 10, false, b_Booku_initu⟩
def n_law_tape : List Str := ["script", "first", "mixed", "cell", "digits"]
def p_law_tape : List Str := ["script", "first"]
def b_law_tape : List S := [.asg (.pt (.nm 2)) (.bin false .add (.int 101) (.bin false .mul (.var 1) (.int 53))), .for_ (.nm 3) (.it (.var 0)) [.asg (.pt (.nm 2)) (.bin false .add (.bin false .mod (.bi false .int [(.bin false .pow (.bin false .add (.bin false .add (.bin false .mul (.var 2) (.int 30029)) (.bin false .mul (.var 3) (.var 3))) (.int 13)) (.int 2))]) (.int 2147483563)) (.int 2))], .asg (.pt (.nm 4)) (.ite (.and (.cmp .lt (.var 1) (.bi false .len [(.var 0)])) (.cmp .ge (.ix (.var 0) (.var 1)) (.bin false .pow (.int 10) (.int 18)))) (.bin false .sub (.ix (.var 0) (.var 1)) (.bin false .pow (.int 10) (.int 18))) (.int 0)), .ret (.dct true false [((.str "digits"), (.var 4)), ((.str "mixed"), (.var 2))])]
def f_law_tape : Fn := ⟨2, 5, false, b_law_tape⟩
def n_law_pick : List Str := ["tape", "many", "found", "once"]
def p_law_pick : List Str := ["tape", "many"]
def b_law_pick : List S := [.ife (.cmp .ge (.ix (.var 0) (.str "digits")) (.var 1)) [.asg (.pt (.nm 2)) (.bin false .mod (.bi false .int [(.ix (.var 0) (.str "digits"))]) (.var 1)), .asg (.six (.var 0) (.str "digits")) (.bin false .fdiv (.ix (.var 0) (.str "digits")) (.var 1)), .ret (.var 2)] [], .asg (.six (.var 0) (.str "mixed")) (.bin false .mod (.bi false .int [(.bin false .add (.bin false .mul (.ix (.var 0) (.str "mixed")) (.int 40014)) (.int 1031))]) (.int 2147483563)), .asg (.pt (.nm 3)) (.bin false .mod (.bi false .int [(.bin false .pow (.ix (.var 0) (.str "mixed")) (.int 2))]) (.int 2147483399)), .ret (.bin false .mod (.bi false .int [(.bin false .fdiv (.bin false .mod (.bi false .int [(.bin false .pow (.var 3) (.int 3))]) (.int 998244353)) (.int 13))]) (.var 1))]
def f_law_pick : Fn := ⟨2, 4, false, b_law_pick⟩
def n_law_one_of : List Str := ["tape", "things"]
def p_law_one_of : List Str := ["tape", "things"]
def b_law_one_of : List S := [.ret (.ix (.var 1) (.call false 6 [(.var 0), (.bi false .len [(.var 1)])] [] []))]
def f_law_one_of : Fn := ⟨2, 2, false, b_law_one_of⟩
def n_law_shuffled : List Str := ["tape", "things", "left", "found"]
def p_law_shuffled : List Str := ["tape", "things"]
def b_law_shuffled : List S := [.asg (.pt (.tp [(.nm 2), (.nm 3)])) (.tup [(false, (.bi true .list [(.var 1)])), (false, (.lst true []))]), .while_ (.cmp .ne (.var 2) (.lst false [])) [.ex (.tm false (.var 3) .append [(.tm false (.var 2) .popi [(.call false 6 [(.var 0), (.bi false .len [(.var 2)])] [] [])])])], .ret (.var 3)]
def f_law_shuffled : Fn := ⟨2, 4, true, b_law_shuffled⟩
def n_law_unlike : List Str := ["things", "found", "thing"]
def p_law_unlike : List Str := ["things"]
def b_law_unlike : List S := [.asg (.pt (.nm 1)) (.lst true []), .for_ (.nm 2) (.it (.var 0)) [.ife (.cmp .nin (.var 2) (.var 1)) [.ex (.tm false (.var 1) .append [(.var 2)])] []], .ret (.var 1)]
def f_law_unlike : Fn := ⟨1, 3, true, b_law_unlike⟩
def n_law_alive : List Str := ["plan", "found", "turn", "rule", "kind"]
def p_law_alive : List Str := ["plan"]
def b_law_alive : List S := [.asg (.pt (.nm 1)) (.bi true .list [(.ix (.var 0) (.int 1))]), .for_ (.nm 2) (.it (.ix (.var 0) (.int 0))) [.for_ (.nm 3) (.it (.ix (.var 0) (.int 2))) [.ife (.and (.cmp .nin (.ix (.var 3) (.int 1)) (.var 1)) (.cmp .ne (.comp false (.var 4) [4] (.nm 4) (.it (.ix (.var 3) (.int 2))) (some (.cmp .isin (.var 4) (.var 1)))) (.lst false []))) [.ex (.tm false (.var 1) .append [(.ix (.var 3) (.int 1))])] []]], .ret (.bi false .sorted [(.var 1)])]
def f_law_alive : Fn := ⟨1, 5, false, b_law_alive⟩
def n_law_drawn_rules : List Str := ["tape", "kinds", "worth", "ways", "found", "kind", "turn", "outcome", "look", "at", "pair"]
def p_law_drawn_rules : List Str := ["tape", "kinds", "worth", "ways"]
def b_law_drawn_rules : List S := [.asg (.pt (.nm 4)) (.lst true []), .for_ (.nm 5) (.it (.var 1)) [.ife (.or (.cmp .gt (.call false 6 [(.var 0), (.int 12)] [] []) (.int 0)) (.cmp .eq (.var 3) (.int 0))) [.ex (.tm false (.var 4) .append [(.tup [(false, (.var 5)), (false, (.tup []))])])] []], .for_ (.nm 6) (.rng [(.call false 6 [(.var 0), (.int 5)] [] [])]) [.asg (.pt (.nm 7)) (.bi false .tuple [(.comp false (.call false 7 [(.var 0), (.var 1)] [] []) [8] (.nm 8) (.rng [(.call false 6 [(.var 0), (.call false 7 [(.var 0), (.lst false [(false, (.int 4)), (false, (.int 4)), (false, (.int 5))])] [] [])] [] [])]) none)]), .ex (.tm false (.var 4) .append [(.tup [(false, (.call false 7 [(.var 0), (.var 1)] [] [])), (false, (.var 7))])])], .ife (.and (.cmp .gt (.var 3) (.int 0)) (.cmp .gt (.bi false .len [(.var 1)]) (.int 1))) [.asg (.pt (.nm 4)) (.comp true (.ite (.and (.cmp .eq (.var 7) (.tup [])) (.and (.cmp .ne (.var 5) (.ix (.var 1) (.neg (.int 1)))) (.cmp .eq (.call false 6 [(.var 0), (.int 4)] [] []) (.int 0)))) (.tup [(false, (.var 5)), (false, (.tup [(false, (.ix (.var 1) (.neg (.int 1))))]))]) (.tup [(false, (.var 5)), (false, (.var 7))])) [5, 7] (.tp [(.nm 5), (.nm 7)]) (.it (.frz (.var 4))) none)] [], .ret (.call false 8 [(.var 0), (.comp false (.tup [(false, (.ix (.str "abcdefghijklmnop") (.var 9))), (false, (.ix (.var 10) (.int 0))), (false, (.ix (.var 10) (.int 1))), (false, (.int 0))]) [9, 10] (.tp [(.nm 9), (.nm 10)]) (.enum (.frz (.var 4))) none)] [] [])]
def f_law_drawn_rules : Fn := ⟨4, 11, false, b_law_drawn_rules⟩
def n_law_drawn_plan : List Str := ["tape", "most", "kinds", "handles", "kind", "way", "plan", "living", "worth", "rules", "one", "name", "outcome", "change", "at"]
def p_law_drawn_plan : List Str := ["tape", "most"]
def b_law_drawn_plan : List S := [.asg (.pt (.nm 2)) (.sl false (.call false 8 [(.var 0), (.lst false [(false, (.str "h")), (false, (.str "g")), (false, (.str "l")), (false, (.str "m")), (false, (.str "letterbx")), (false, (.str "x"))])] [] []) none (some (.bin false .add (.int 1) (.call false 6 [(.var 0), (.var 1)] [] [])))), .asg (.pt (.nm 3)) (.comp false (.var 4) [4] (.nm 4) (.it (.var 2)) (some (.cmp .eq (.call false 6 [(.var 0), (.int 2)] [] []) (.int 0)))), .asg (.pt (.nm 5)) (.call false 6 [(.var 0), (.int 5)] [] []), .asg (.pt (.nm 6)) (.lst false [(false, (.var 2)), (false, (.var 3)), (false, (.call false 11 [(.var 0), (.var 2), .non, (.call false 6 [(.var 0), (.int 3)] [] [])] [] [])), (false, (.call false 7 [(.var 0), (.var 2)] [] [])), (false, (.int 0))]), .asg (.pt (.nm 7)) (.call false 10 [(.var 6)] [] []), .asg (.pt (.nm 8)) (.bi false .dict [(.comp false (.tup [(false, (.var 4)), (false, (.bin false .add (.bi false .int [(.cmp .isin (.var 4) (.var 7))]) (.call false 6 [(.var 0), (.int 4)] [] [])))]) [4] (.nm 4) (.it (.var 2)) none)]), .ife (.cmp .eq (.var 5) (.int 4)) [.asg (.pt (.nm 8)) (.bi false .dict [(.comp false (.tup [(false, (.var 4)), (false, (.bin false .sub (.ix (.var 8) (.var 4)) (.call false 6 [(.var 0), (.int 2)] [] [])))]) [4] (.nm 4) (.it (.var 2)) none)])] [], .asg (.pt (.nm 9)) (.comp true (.tup [(false, (.var 11)), (false, (.var 4)), (false, (.var 12)), (false, (.bin false .sub (.bi false .sum [(.comp false (.ix (.var 8) (.var 10)) [10] (.nm 10) (.it (.var 12)) none)]) (.ix (.var 8) (.var 4))))]) [11, 4, 12, 13] (.tp [(.nm 11), (.nm 4), (.nm 12), (.nm 13)]) (.it (.ix (.var 6) (.int 2))) none), .ife (.cmp .eq (.var 5) (.int 3)) [.asg (.pt (.nm 9)) (.comp true (.tup [(false, (.var 11)), (false, (.var 4)), (false, (.var 12)), (false, (.bin false .sub (.call false 6 [(.var 0), (.int 5)] [] []) (.int 2)))]) [11, 4, 12, 13] (.tp [(.nm 11), (.nm 4), (.nm 12), (.nm 13)]) (.it (.frz (.var 9))) none)] [], .ife (.and (.cmp .eq (.var 5) (.int 2)) (.cmp .ne (.var 9) (.lst false []))) [.asg (.pt (.nm 14)) (.call false 6 [(.var 0), (.bi false .len [(.var 9)])] [] []), .asg (.pt (.tp [(.nm 11), (.nm 4), (.nm 12), (.nm 13)])) (.ix (.var 9) (.var 14)), .asg (.six (.var 9) (.var 14)) (.tup [(false, (.var 11)), (false, (.var 4)), (false, (.var 12)), (false, (.bin false .add (.var 13) (.call false 7 [(.var 0), (.lst false [(false, (.int 1)), (false, (.bin false .sub (.int 0) (.int 1))), (false, (.int 2))])] [] [])))])] [], .ret (.lst true [(false, (.var 2)), (false, (.var 3)), (false, .frz (.var 9)), (false, (.ix (.var 6) (.int 3))), (false, (.bin false .add (.ix (.var 8) (.ix (.var 6) (.int 3))) (.ite (.cmp .eq (.var 5) (.int 3)) (.call false 6 [(.var 0), (.int 3)] [] []) (.int 0))))])]
def f_law_drawn_plan : Fn := ⟨2, 15, false, b_law_drawn_plan⟩
def n_law_is_number : List Str := ["thing"]
def p_law_is_number : List Str := ["thing"]
def b_law_is_number : List S := [.ret (.and (.isi (.var 0) [.inl .int]) (.not (.isi (.var 0) [.inl .bool])))]
def f_law_is_number : Fn := ⟨1, 1, false, b_law_is_number⟩
def n_law_refused : List Str := ["parts", "found", "e"]
def p_law_refused : List Str := ["parts"]
def b_law_refused : List S := [.asg (.pt (.nm 1)) (.lst false []), .try_ [.ex (.make 0 [(.ix (.var 0) (.int 0)), (.ix (.var 0) (.int 1)), (.ix (.var 0) (.int 2)), (.ix (.var 0) (.int 3)), (.ix (.var 0) (.int 4))] [] [])] [(1, some 2, [.asg (.pt (.nm 1)) (.lst false [(false, (.str "kinds")), (false, (.attr (.var 2) "value"))])]), (2, some 2, [.asg (.pt (.nm 1)) (.lst false [(false, (.str "handles")), (false, (.attr (.var 2) "value"))])]), (3, some 2, [.asg (.pt (.nm 1)) (.lst false [(false, (.str "rules")), (false, (.attr (.var 2) "value"))])]), (4, some 2, [.asg (.pt (.nm 1)) (.lst false [(false, (.str "rule")), (false, (.attr (.var 2) "number"))])]), (5, some 2, [.asg (.pt (.nm 1)) (.lst false [(false, (.str "twice")), (false, (.attr (.var 2) "name"))])]), (6, some 2, [.asg (.pt (.nm 1)) (.lst false [(false, (.str "start")), (false, (.attr (.var 2) "value"))])]), (7, some 2, [.asg (.pt (.nm 1)) (.lst false [(false, (.str "count")), (false, (.attr (.var 2) "value"))])])], .ret (.var 1)]
def f_law_refused : Fn := ⟨1, 3, false, b_law_refused⟩
def n_law_is_word : List Str := ["thing", "sign"]
def p_law_is_word : List Str := ["thing"]
def b_law_is_word : List S := [.ret (.and (.isi (.var 0) [.inl .str]) (.and (.chain (.int 1) .le (.bi false .len [(.var 0)]) .le (.int 8)) (.cmp .eq (.comp false (.var 1) [1] (.nm 1) (.it (.bi false .list [(.var 0)])) (some (.not (.chain (.str "a") .le (.var 1) .le (.str "z"))))) (.lst false []))))]
def f_law_is_word : Fn := ⟨1, 2, false, b_law_is_word⟩
def n_law_are_unlike : List Str := ["thing", "one"]
def p_law_are_unlike : List Str := ["thing"]
def b_law_are_unlike : List S := [.ife (.or (.not (.isi (.var 0) [.inl .list, .inl .tuple])) (.cmp .ne (.comp false (.var 1) [1] (.nm 1) (.it (.var 0)) (some (.not (.call false 15 [(.var 1)] [] [])))) (.lst false []))) [.ret (.bl false)] [], .ret (.cmp .eq (.bi false .len [(.call false 9 [(.bi false .list [(.var 0)])] [] [])]) (.bi false .len [(.var 0)]))]
def f_law_are_unlike : Fn := ⟨1, 2, false, b_law_are_unlike⟩
def n_law_is_rule : List Str := ["kinds", "thing", "one"]
def p_law_is_rule : List Str := ["kinds", "thing"]
def b_law_is_rule : List S := [.ife (.or (.not (.isi (.var 1) [.inl .tuple])) (.or (.cmp .ne (.bi false .len [(.var 1)]) (.int 4)) (.or (.not (.call false 15 [(.ix (.var 1) (.int 0))] [] [])) (.not (.isi (.ix (.var 1) (.int 2)) [.inl .tuple]))))) [.ret (.bl false)] [], .ret (.and (.cmp .eq (.comp false (.var 2) [2] (.nm 2) (.it (.bin false .add (.tup [(false, (.ix (.var 1) (.int 1)))]) (.ix (.var 1) (.int 2)))) (some (.or (.not (.isi (.var 2) [.inl .str])) (.cmp .nin (.var 2) (.var 0))))) (.lst false [])) (.call false 13 [(.ix (.var 1) (.int 3))] [] []))]
def f_law_is_rule : Fn := ⟨2, 3, false, b_law_is_rule⟩
def n_law_due : List Str := ["parts", "kinds", "handles", "rules", "begin", "count", "one", "wrong", "at", "rule", "names", "twice", "name"]
def p_law_due : List Str := ["parts"]
def b_law_due : List S := [.asg (.pt (.tp [(.nm 1), (.nm 2), (.nm 3), (.nm 4), (.nm 5)])) (.var 0), .ife (.or (.not (.call false 16 [(.var 1)] [] [])) (.cmp .eq (.bi false .len [(.var 1)]) (.int 0))) [.ret (.lst false [(false, (.str "kinds")), (false, (.var 1))])] [], .ife (.or (.not (.call false 16 [(.var 2)] [] [])) (.cmp .ne (.comp false (.var 6) [6] (.nm 6) (.it (.var 2)) (some (.cmp .nin (.var 6) (.var 1)))) (.lst false []))) [.ret (.lst false [(false, (.str "handles")), (false, (.var 2))])] [], .ife (.not (.isi (.var 3) [.inl .list, .inl .tuple])) [.ret (.lst false [(false, (.str "rules")), (false, (.var 3))])] [], .asg (.pt (.nm 7)) (.comp false (.var 8) [8, 9] (.tp [(.nm 8), (.nm 9)]) (.enum (.var 3)) (some (.not (.call false 17 [(.var 1), (.var 9)] [] [])))), .ife (.cmp .ne (.var 7) (.lst false [])) [.ret (.lst false [(false, (.str "rule")), (false, (.ix (.var 7) (.int 0)))])] [], .asg (.pt (.nm 10)) (.comp false (.ix (.var 9) (.int 0)) [9] (.nm 9) (.it (.var 3)) none), .asg (.pt (.nm 11)) (.comp false (.var 12) [8, 12] (.tp [(.nm 8), (.nm 12)]) (.enum (.var 10)) (some (.cmp .isin (.var 12) (.sl false (.var 10) none (some (.var 8)))))), .ife (.cmp .ne (.var 11) (.lst false [])) [.ret (.lst false [(false, (.str "twice")), (false, (.ix (.var 11) (.int 0)))])] [], .ife (.or (.not (.isi (.var 4) [.inl .str])) (.cmp .nin (.var 4) (.var 1))) [.ret (.lst false [(false, (.str "start")), (false, (.var 4))])] [], .ret (.ite (.call false 13 [(.var 5)] [] []) (.lst false []) (.lst false [(false, (.str "count")), (false, (.var 5))]))]
def f_law_due : Fn := ⟨1, 13, false, b_law_due⟩
def n_law_bent_rules : List Str := ["tape", "rules", "kind", "at", "odd", "good", "rule", "some"]
def p_law_bent_rules : List Str := ["tape", "rules", "kind"]
def b_law_bent_rules : List S := [.asg (.pt (.tp [(.nm 3), (.nm 4)])) (.tup [(false, (.call false 6 [(.var 0), (.bin false .add (.bi false .len [(.var 1)]) (.int 1))] [] [])), (false, (.call false 7 [(.var 0), (.lst false [(false, .non), (false, (.bl true)), (false, (.str "1")), (false, (.tup [(false, (.int 1))])), (false, (.lst false []))])] [] []))]), .asg (.pt (.nm 5)) (.comp false (.var 6) [6] (.nm 6) (.it (.var 1)) (some (.and (.isi (.var 6) [.inl .tuple]) (.cmp .eq (.bi false .len [(.var 6)]) (.int 4))))), .asg (.pt (.nm 6)) (.call false 7 [(.var 0), (.bin false .add (.var 5) (.lst false [(false, (.tup [(false, (.str "z")), (false, (.var 2)), (false, (.tup [(false, (.var 2))])), (false, (.int 0))]))]))] [] []), .asg (.pt (.nm 7)) (.lst false [(false, .non), (false, (.bi false .list [(.var 6)])), (false, (.sl false (.var 6) none (some (.int 3)))), (false, (.bin false .add (.var 6) (.tup [(false, (.int 0))]))), (false, (.bin false .add (.tup [(false, (.str "A"))]) (.sl false (.var 6) (some (.int 1)) none))), (false, (.bin false .add (.tup [(false, (.str "abcdefghi"))]) (.sl false (.var 6) (some (.int 1)) none))), (false, (.tup [(false, (.ix (.var 6) (.int 0))), (false, (.str "q")), (false, (.ix (.var 6) (.int 2))), (false, (.int 0))])), (false, (.tup [(false, (.ix (.var 6) (.int 0))), (false, (.var 2)), (false, (.tup [(false, (.str "q"))])), (false, (.int 0))])), (false, (.tup [(false, (.ix (.var 6) (.int 0))), (false, (.var 2)), (false, (.lst false [(false, (.var 2))])), (false, (.int 0))]))]), .asg (.pt (.nm 7)) (.bin false .add (.var 7) (.lst false [(false, (.tup [(false, (.ix (.var 6) (.int 0))), (false, (.var 2)), (false, (.tup [(false, (.var 2)), (false, (.str "q"))])), (false, (.int 0))])), (false, (.tup [(false, (.ix (.var 6) (.int 0))), (false, (.var 2)), (false, (.tup [(false, (.str "q")), (false, (.var 2))])), (false, (.int 0))])), (false, (.tup [(false, (.ix (.var 6) (.int 0))), (false, (.var 2)), (false, (.tup [(false, (.var 2))])), (false, (.var 4))])), (false, (.tup [(false, (.lst false [])), (false, (.var 2)), (false, (.tup [])), (false, (.int 0))])), (false, (.tup [(false, (.ix (.var 6) (.int 0))), (false, (.lst false [(false, (.var 2))])), (false, (.tup [])), (false, (.int 0))]))])), .asg (.pt (.nm 7)) (.bin false .add (.var 7) (.lst false [(false, (.tup [(false, (.ix (.var 6) (.int 0))), (false, (.var 2)), (false, (.tup [(false, (.lst false [(false, (.var 2))]))])), (false, (.int 0))])), (false, (.var 6)), (false, (.var 6)), (false, (.str "z"))])), .ret (.bin false .add (.bin false .add (.sl false (.var 1) none (some (.var 3))) (.lst false [(false, (.call false 7 [(.var 0), (.var 7)] [] []))])) (.sl false (.var 1) (some (.var 3)) none))]
def f_law_bent_rules : Fn := ⟨3, 8, false, b_law_bent_rules⟩
def n_law : List Str := ["script", "start", "tape", "turn", "parts", "kind", "seen", "due"]
def p_law : List Str := ["script"]
def b_law : List S := [.for_ (.nm 1) (.rng [(.bi false .max [(.int 1), (.bi false .min [(.int 3), (.bi false .len [(.var 0)])])])]) [.asg (.pt (.nm 2)) (.call false 5 [(.var 0), (.var 1)] [] []), .for_ (.nm 3) (.rng [(.int 10)]) [.asg (.pt (.nm 4)) (.call false 12 [(.var 2), (.int 4)] [] []), .asg (.pt (.nm 5)) (.ix (.ix (.var 4) (.int 0)) (.int 0)), .asg (.six (.var 4) (.int 0)) (.call false 7 [(.var 2), (.lst false [(false, (.ix (.var 4) (.int 0))), (false, (.ix (.var 4) (.int 0))), (false, (.ix (.var 4) (.int 0))), (false, (.ix (.var 4) (.int 0))), (false, (.lst false [])), (false, (.tup [])), (false, (.bin false .add (.ix (.var 4) (.int 0)) (.lst false [(false, (.var 5))]))), (false, (.bin false .add (.ix (.var 4) (.int 0)) (.lst false [(false, (.str "A"))]))), (false, (.bin false .add (.ix (.var 4) (.int 0)) (.lst false [(false, (.str "abcdefghi"))]))), (false, (.bin false .add (.lst false [(false, .non)]) (.ix (.var 4) (.int 0)))), (false, (.var 5)), (false, .non), (false, (.bin false .add (.ix (.var 4) (.int 0)) (.lst false [(false, (.lst false [(false, (.str "h"))]))]))), (false, (.dct false false [((.var 5), (.int 0))]))])] [] []), .asg (.six (.var 4) (.int 1)) (.call false 7 [(.var 2), (.lst false [(false, (.ix (.var 4) (.int 1))), (false, (.ix (.var 4) (.int 1))), (false, (.ix (.var 4) (.int 1))), (false, (.bi false .tuple [(.ix (.var 4) (.int 1))])), (false, (.lst false [(false, (.var 5)), (false, (.var 5))])), (false, (.lst false [(false, (.str "q"))])), (false, (.lst false [(false, (.var 5)), (false, (.str "q"))])), (false, (.tup [(false, (.var 5)), (false, (.var 5))])), (false, (.tup [(false, (.var 5)), (false, (.str "q"))])), (false, (.lst false [(false, (.var 5)), (false, .non)])), (false, (.lst false [(false, (.str "abcdefghi"))])), (false, (.lst false [(false, .non)])), (false, (.lst false [(false, (.lst false [(false, (.str "h"))]))])), (false, (.var 5)), (false, .non), (false, (.dct false false []))])] [] []), .asg (.six (.var 4) (.int 2)) (.call false 7 [(.var 2), (.lst false [(false, (.ix (.var 4) (.int 2))), (false, (.bi false .tuple [(.ix (.var 4) (.int 2))])), (false, (.call false 19 [(.var 2), (.ix (.var 4) (.int 2)), (.var 5)] [] [])), (false, (.call false 19 [(.var 2), (.call false 19 [(.var 2), (.ix (.var 4) (.int 2)), (.var 5)] [] []), (.var 5)] [] [])), (false, .non), (false, (.dct false false [])), (false, (.str "a"))])] [] []), .asg (.six (.var 4) (.int 3)) (.call false 7 [(.var 2), (.lst false [(false, (.ix (.var 4) (.int 3))), (false, (.ix (.var 4) (.int 3))), (false, (.ix (.var 4) (.int 3))), (false, (.str "q")), (false, (.str "")), (false, .non), (false, (.lst false [(false, (.var 5))])), (false, (.int 0))])] [] []), .asg (.six (.var 4) (.int 4)) (.call false 7 [(.var 2), (.lst false [(false, (.ix (.var 4) (.int 4))), (false, (.ix (.var 4) (.int 4))), (false, (.ix (.var 4) (.int 4))), (false, (.bin false .sub (.int 0) (.int 7))), (false, (.bin false .pow (.int 10) (.int 39))), (false, (.bl true)), (false, (.bl false)), (false, .non), (false, (.str "1")), (false, (.tup [(false, (.int 1))]))])] [] []), .asg (.pt (.tp [(.nm 6), (.nm 7)])) (.tup [(false, (.bi false .repr [(.var 4)])), (false, (.call false 18 [(.var 4)] [] []))]), .ife (.or (.cmp .ne (.bi false .repr [(.call false 14 [(.var 4)] [] [])]) (.bi false .repr [(.var 7)])) (.cmp .ne (.bi false .repr [(.var 4)]) (.var 6))) [.ret (.bl false)] []]], .ret (.cmp .eq (.call false 14 [(.lst false [(false, (.lst false [(false, (.str "h"))])), (false, (.lst false [])), (false, (.lst false [])), (false, (.str "h")), (false, (.int 0))])] [] []) (.lst false []))]
def f_law : Fn := ⟨1, 8, false, b_law⟩
def fnL : List Fn := [f_is_integer, f_is_name, f_are_unlike, f_is_rule, f_Booku_initu, f_law_tape, f_law_pick, f_law_one_of, f_law_shuffled, f_law_unlike, f_law_alive, f_law_drawn_rules, f_law_drawn_plan, f_law_is_number, f_law_refused, f_law_is_word, f_law_are_unlike, f_law_is_rule, f_law_due, f_law_bent_rules, f_law]
def fnT (f : Nat) : Option Fn := fnL[f]?
def clL : List Cl := [{ init := some 4 }, { exc := some (some "value") }, { exc := some (some "value") }, { exc := some (some "value") }, { exc := some (some "number") }, { exc := some (some "name") }, { exc := some (some "value") }, { exc := some (some "value") }]
def clT (c : Nat) : Option Cl := clL[c]?
def coL : List (Str × T) := [("LETTERS", .str "abcdefghijklmnopqrstuvwxyz"), ("LONGEST", .int 8)]
def glT (x : Str) : Option T := coL.lookup x
def P : Pr := ⟨fnT, clT, glT, [0], 200⟩
def glL : List (Str × Gk) := [("is_integer", .fn 0), ("is_name", .fn 1), ("are_unlike", .fn 2), ("is_rule", .fn 3), ("_law_tape", .fn 5), ("_law_pick", .fn 6), ("_law_one_of", .fn 7), ("_law_shuffled", .fn 8), ("_law_unlike", .fn 9), ("_law_alive", .fn 10), ("_law_drawn_rules", .fn 11), ("_law_drawn_plan", .fn 12), ("_law_is_number", .fn 13), ("_law_refused", .fn 14), ("_law_is_word", .fn 15), ("_law_are_unlike", .fn 16), ("_law_is_rule", .fn 17), ("_law_due", .fn 18), ("_law_bent_rules", .fn 19), ("law", .fn 20), ("Book", .cl 0), ("BadKinds", .cl 1), ("BadHandles", .cl 2), ("BadRules", .cl 3), ("BadRule", .cl 4), ("NamedTwice", .cl 5), ("BadStart", .cl 6), ("BadCount", .cl 7)]
def Z : Stat := ⟨P, fun _ => none, glL, ["all_kinds", "all_handles", "all_rules", "begin", "first"], [], ["value", "number", "name"]⟩
end K03
end
section
set_option Elab.async false
set_option linter.all false
set_option maxRecDepth 1000000
set_option maxHeartbeats 1000000
/-! E3: the law's tape. -/
namespace K03
open PySem PV
abbrev LM : Nat → Option C := fun _ => none
abbrev tp (d m : Int) : Option Cell := some (.dct false [(.str "digits", .v (.int d)), (.str "mixed", .v (.int m))])
/-- a store with a tape in it -/
def St (a : Sto) (d m : Int) (r : Sto) : Sto := a ++ tp d m :: r
theorem cell_mid {a r : Sto} {c : Cell} : cellAt (a ++ some c :: r) a.length = some c := by
  unfold cellAt
  rw [List.getElem?_append_right (Nat.le_refl _), Nat.sub_self]; rfl
theorem set_mid {a r : Sto} {x y : Option Cell} : (a ++ x :: r).set a.length y = a ++ y :: r := by
  rw [List.set_append_right _ _ (Nat.le_refl _), Nat.sub_self]; rfl
theorem dct_mid {a r : Sto} {tk : Bool} {kvs : List (T × D)} : asDct (a ++ some (.dct tk kvs) :: r) (.ref a.length) = some (tk, kvs) := by
  unfold asDct; dsimp only; rw [cell_mid]
theorem tget_d (d m : Int) (a r : Sto) : item (.ref a.length) (.v (.str "digits")) (St a d m r) = .ok (.v (.int d)) (St a d m r) := by
  unfold item St; rw [dct_mid]; rfl
theorem tget_m (d m : Int) (a r : Sto) : item (.ref a.length) (.v (.str "mixed")) (St a d m r) = .ok (.v (.int m)) (St a d m r) := by
  unfold item St; rw [dct_mid]; rfl
theorem tput_d (d m x : Int) (a r : Sto) : putIx (.ref a.length) (.v (.str "digits")) (.v (.int x)) (St a d m r) = .ok () (St a x m r) := by
  unfold putIx St; dsimp only; rw [cell_mid]
  show Res.ok () ((a ++ tp d m :: r).set a.length _) = _
  rw [set_mid]; rfl
theorem tput_m (d m x : Int) (a r : Sto) : putIx (.ref a.length) (.v (.str "mixed")) (.v (.int x)) (St a d m r) = .ok () (St a d x r) := by
  unfold putIx St; dsimp only; rw [cell_mid]
  show Res.ok () ((a ++ tp d m :: r).set a.length _) = _
  rw [set_mid]; rfl
theorem St_len {a r : Sto} {d m d' m' : Int} : (St a d m r).length = (St a d' m' r).length := by simp [St]
structure TapeOk (d m : Int) : Prop where
  d0 : 0 ≤ d
  m0 : 0 ≤ m
  m1 : m < 4294967296
theorem fin_v {dz z : Bool} {L : Nat} {t : T} {e : PV.Env} {s : Sto} (h : (dz || z) = false) (hl : L = s.length) : finR dz z L (.ok (.rt (.v t)) e s) = .ok (.v t) s := by
  subst hl
  unfold finR
  rw [h]
  exact trim_v
theorem pick_run (n : Nat) {d m k : Int} {a r : Sto} (t : TapeOk d m) (hk : 0 < k) (hk2 : k < 1073741824) : ∃ i d' m', run P LM (n + 1) false 6 [.ref a.length, .v (.int k)] (St a d m r) = .ok (.v (.int i)) (St a d' m' r) ∧ TapeOk d' m' ∧ 0 ≤ i ∧ i < k := by
  rw [run_eq (d := f_law_pick) rfl rfl]
  unfold f_law_pick b_law_pick
  by_cases h : k ≤ d
  · refine ⟨d % k, d / k, m, ?_, ⟨Int.ediv_nonneg t.d0 (by omega), t.m0, t.m1⟩, Int.emod_nonneg _ (by omega), Int.emod_lt_of_pos _ hk⟩
    simp [exSs, exS, ev, evs, M.bind, store, tget_d, tget_m, tput_d, tput_m, bi_int, c_ge, h, b_mod _ _ _ _ hk, b_fdiv _ _ _ _ hk hk2, bindP]
    exact fin_v rfl St_len
  · obtain ⟨w, hw⟩ : ∃ w, w = (m * 40014 + 1031) % 2147483563 := ⟨_, rfl⟩
    have w0 : 0 ≤ w := by rw [hw]; exact Int.emod_nonneg _ (by decide)
    have w1 : w < 2147483563 := by rw [hw]; exact Int.emod_lt_of_pos _ (by decide)
    obtain ⟨o, ho⟩ : ∃ o, o = (w ^ 2) % 2147483399 := ⟨_, rfl⟩
    have o0 : 0 ≤ o := by rw [ho]; exact Int.emod_nonneg _ (by decide)
    have o1 : o < 2147483399 := by rw [ho]; exact Int.emod_lt_of_pos _ (by decide)
    have p1 : okPow w 2 = true := okPow_small (k := 2) (Nat.lt_trans (log2_lt (k := 32) w0 (by omega) (by decide)) (by decide)) (by decide)
    have p2 : okPow o 3 = true := okPow_small (k := 3) (Nat.lt_trans (log2_lt (k := 32) o0 (by omega) (by decide)) (by decide)) (by decide)
    have m1 : okMul m 40014 = true := okMul_r (by decide) (by decide)
    refine ⟨(o ^ 3 % 998244353 / 13) % k, d, w, ?_, ⟨t.d0, w0, by omega⟩, Int.emod_nonneg _ (by omega), Int.emod_lt_of_pos _ hk⟩
    simp [exSs, exS, ev, evs, M.bind, store, tget_d, tget_m, tput_d, tput_m, bi_int, c_ge, h, b_add, b_mod _ _ k _ hk, b_mod _ _ 2147483563 _ (by decide), b_mod _ _ 2147483399 _ (by decide), b_mod _ _ 998244353 _ (by decide), b_fdiv _ _ 13 _ (by decide) (by decide), b_mul _ _ _ _ m1, bindP, ← hw, b_pow _ w 2 _ p1]
    rw [← ho]
    simp [b_pow _ o 3 _ p2, b_mod _ _ k _ hk, b_mod _ _ 998244353 _ (by decide), b_fdiv _ _ 13 _ (by decide) (by decide), bi_int, M.bind]
    exact fin_v rfl St_len
end K03
end
section
set_option Elab.async false
set_option linter.all false
set_option maxRecDepth 1000000
set_option maxHeartbeats 1000000
/-! E4: drawing. -/
namespace K03
open PySem PV
def TS (a r s : Sto) : Prop := ∃ d m, TapeOk d m ∧ s = St a d m r
theorem TS.len {a r s s' : Sto} (h : TS a r s) (h' : TS a r s') : s.length = s'.length := by
  obtain ⟨d, m, _, rfl⟩ := h
  obtain ⟨d', m', _, rfl⟩ := h'
  exact St_len
theorem TS.more {a r s x : Sto} (h : TS a r s) : TS a (r ++ x) (s ++ x) := by
  obtain ⟨d, m, t, rfl⟩ := h
  exact ⟨d, m, t, by simp [St]⟩
theorem TS.less {a r s x : Sto} (h : TS a (r ++ x) s) : ∃ s0, s = s0 ++ x ∧ TS a r s0 := by
  obtain ⟨d, m, t, rfl⟩ := h
  exact ⟨St a d m r, by simp [St], d, m, t, rfl⟩
theorem pick (n : Nat) {k : Int} {a r s : Sto} (t : TS a r s) (hk : 0 < k) (hk2 : k < 1073741824) : ∃ i s', PV.run P LM (n + 1) false 6 [.ref a.length, .v (.int k)] s = .ok (.v (.int i)) s' ∧ TS a r s' ∧ 0 ≤ i ∧ i < k := by
  obtain ⟨d, m, t, rfl⟩ := t
  obtain ⟨i, d', m', e, t', h⟩ := pick_run n (a := a) (r := r) t hk hk2
  exact ⟨i, _, e, ⟨d', m', t', rfl⟩, h⟩
@[simp] theorem placed_nil (n : Nat) (ds ks : List D) : placed n ds [] ks = ds := rfl
theorem bi_len_l (ts : List T) (s : Sto) (b : Bool) : builtin b .len [.v (.lst ts)] s = .ok (.v (.int ts.length)) s := by
  show Res.ok (D.v (.int (ts.map D.v).length)) s = _
  rw [List.length_map]
theorem bi_len_t (ts : List T) (s : Sto) (b : Bool) : builtin b .len [.v (.tup ts)] s = .ok (.v (.int ts.length)) s := by
  show Res.ok (D.v (.int (ts.map D.v).length)) s = _
  rw [List.length_map]
theorem item_l {ts : List T} {i : Int} {s : Sto} (h0 : 0 ≤ i) (h1 : i < ts.length) : ∃ t ∈ ts, ts[i.toNat]? = some t ∧ item (.v (.lst ts)) (.v (.int i)) s = .ok (.v t) s := by
  have hl : i.toNat < ts.length := by omega
  refine ⟨ts[i.toNat], List.getElem_mem hl, List.getElem?_eq_getElem hl, ?_⟩
  show M.opt ((place (ts.map D.v).length i).bind fun j => (ts.map D.v)[j]?) s = _
  unfold place
  rw [List.length_map, if_pos h0, if_pos h1]
  show M.opt ((ts.map D.v)[i.toNat]?) s = _
  rw [List.getElem?_map, List.getElem?_eq_getElem hl]; rfl
theorem one_of (n : Nat) {a r s : Sto} (t : TS a r s) {ts : List T} (h0 : ts ≠ []) (hl : ts.length < 1000) : ∃ x ∈ ts, ∃ s', PV.run P LM (n + 2) false 7 [.ref a.length, .v (.lst ts)] s = .ok (.v x) s' ∧ TS a r s' := by
  have hp : 0 < ts.length := List.length_pos_iff.mpr h0
  obtain ⟨i, s', e, t', i0, i1⟩ := pick n (k := ts.length) t (by omega) (by omega)
  obtain ⟨x, hx, _, ei⟩ := item_l (s := s') i0 i1
  refine ⟨x, hx, s', ?_, t'⟩
  rw [run_eq (d := f_law_one_of) rfl rfl]
  unfold f_law_one_of b_law_one_of
  simp [exSs, exS, ev, evs, M.bind, bi_len_l, e, ei]
  exact fin_v rfl (t.len t')
/-! ### the end of a call -/
def Pl (s : Sto) : Prop := Sto.closed 0 s = true
mutual
theorem closed_mono {L : Nat} : ∀ {d : D}, D.closed 0 d = true → d.closed L = true
  | .v _, _ => rfl
  | .ref n, h => by simp [D.closed] at h
  | .tp ds, h => closeds_mono (ds := ds) h
  | .lp ds, h => closeds_mono (ds := ds) h
  | .exv _ _, h => by cases h
  | .lam _ _, h => by cases h
theorem closeds_mono {L : Nat} : ∀ {ds : List D}, D.closeds 0 ds = true → D.closeds L ds = true
  | [], _ => rfl
  | d :: r, h => by
    simp only [D.closeds, Bool.and_eq_true] at h ⊢
    exact ⟨closed_mono h.1, closeds_mono h.2⟩
end
theorem cell_mono {L : Nat} {c : Cell} (h : c.closed 0 = true) : c.closed L = true := by
  cases c with
  | lst ds => exact closeds_mono (show D.closeds 0 ds = true from h)
  | dct tk kvs =>
    have h : (kvs.all fun p => p.2.closed 0) = true := h
    show (kvs.all fun p => p.2.closed L) = true
    rw [List.all_eq_true] at h ⊢
    exact fun p hp => closed_mono (h p hp)
  | ins k fs =>
    have h : (fs.all fun p => p.2.closed 0) = true := h
    show (fs.all fun p => p.2.closed L) = true
    rw [List.all_eq_true] at h ⊢
    exact fun p hp => closed_mono (h p hp)
theorem Pl.closed {s : Sto} (h : Pl s) (L : Nat) : Sto.closed L s = true := by
  unfold Pl Sto.closed at *
  rw [List.all_eq_true] at h ⊢
  intro o ho
  have := h o ho
  cases o with
  | none => rfl
  | some c => exact cell_mono this
theorem Pl.app {s x : Sto} : Pl (s ++ x) ↔ Pl s ∧ Pl x := by
  unfold Pl Sto.closed
  rw [List.all_append, Bool.and_eq_true]
theorem TS.pl {a r s : Sto} (h : TS a r s) (p : Pl a) (q : Pl r) : Pl s := by
  obtain ⟨d, m, _, rfl⟩ := h
  unfold St
  refine Pl.app.mpr ⟨p, ?_⟩
  unfold Pl Sto.closed at *
  rw [List.all_cons, q]; rfl
/-- a value; what was made within is dropped -/
theorem fin_cut {dz z : Bool} {L : Nat} {t : T} {e : PV.Env} {s x : Sto} (hl : L = s.length) (p : Pl s) : finR dz z L (.ok (.rt (.v t)) e (s ++ x)) = .ok (.v t) s := by
  subst hl
  unfold finR
  have e1 : (s ++ x).take s.length = s := by simp
  cases h : (dz || z) with
  | true =>
    show trimZ s.length (.v t) (s ++ x) = _
    unfold trimZ
    rw [e1, p.closed]; rfl
  | false =>
    show trim s.length (.v t) (s ++ x) = _
    unfold trim
    rw [e1, p.closed]; rfl
theorem all_fresh {s : Sto} {L k : Nat} (ts : List T) : (ts.map D.v).all (freshAbove s L k) = true := by
  rw [List.all_map, List.all_eq_true]
  intro t _
  cases k <;> rfl
/-- a new list, frozen -/
theorem fin_lst {dz z : Bool} {L i : Nat} {ts : List T} {e : PV.Env} {s x : Sto} (hz : (dz || z) = true) (hl : L = s.length) (p : Pl s) (hi : L ≤ i) (hc : cellAt (s ++ x) i = some (.lst (ts.map .v))) : finR dz z L (.ok (.rt (.ref i)) e (s ++ x)) = .ok (.v (.lst ts)) s := by
  subst hl
  unfold finR
  rw [hz]
  have e1 : (s ++ x).take s.length = s := by simp
  show trimZ s.length (.ref i) (s ++ x) = _
  unfold trimZ
  have e2 : freshAbove (s ++ x) s.length DEEP (.ref i) = true := by
    unfold freshAbove
    rw [hc, decide_eq_true hi]
    exact all_fresh ts
  have e3 : rd (s ++ x) DEEP (.ref i) = some (.lst ts) := by
    unfold rd
    rw [hc]
    show ((ts.map D.v).mapM (rd (s ++ x) _)).map T.lst = _
    rw [mapM_rd]; rfl
  rw [e1, e2, e3, p.closed]; rfl
theorem vs_closed {L : Nat} : ∀ ts : List T, D.closeds L (ts.map .v) = true
  | [] => rfl
  | t :: r => vs_closed r
/-- a new list that may be written -/
theorem fin_ref {dz z : Bool} {L i : Nat} {ts : List T} {e : PV.Env} {s x : Sto} (hz : (dz || z) = false) (hl : L = s.length) (p : Pl s) (hi : L ≤ i) (hc : cellAt (s ++ x) i = some (.lst (ts.map .v))) : finR dz z L (.ok (.rt (.ref i)) e (s ++ x)) = .ok (.ref L) (s ++ [some (.lst (ts.map .v))]) := by
  subst hl
  unfold finR
  rw [hz]
  have e1 : (s ++ x).take s.length = s := by simp
  show trim s.length (.ref i) (s ++ x) = _
  have cl : (Cell.lst (ts.map D.v)).closed s.length = true := by
    exact vs_closed ts
  unfold trim
  rw [e1, p.closed, show (D.ref i).closed s.length = false from decide_eq_false (by omega)]
  dsimp only [Bool.false_and, Bool.and_true]
  rw [decide_eq_true hi, hc]
  dsimp only
  rw [cl]
  rfl
end K03
end
section
set_option Elab.async false
set_option linter.all false
set_option maxRecDepth 1000000
set_option maxHeartbeats 1000000
/-! E5: shuffled. -/
namespace K03
open PySem PV
section
variable {s : Sto} {c d c' : Cell}
theorem cl0 : cellAt (s ++ [some c, some d]) s.length = some c := cell_mid
theorem cl1 : cellAt (s ++ [some c, some d]) (s.length + 1) = some d := by
  have := cell_mid (a := s ++ [some c]) (c := d) (r := [])
  simpa using this
theorem st0 : (s ++ [some c, some d]).set s.length (some c') = s ++ [some c', some d] := set_mid
theorem st1 : (s ++ [some c, some d]).set (s.length + 1) (some c') = s ++ [some c, some c'] := by
  have := set_mid (a := s ++ [some c]) (x := some d) (y := some c') (r := [])
  simpa using this
theorem clE : cellAt (s ++ [some c]) s.length = some c := cell_mid
theorem stE : (s ++ [some c]).set s.length (some c') = s ++ [some c'] := set_mid
end
theorem kind_l {s : Sto} {i : Nat} {ds : List D} (h : cellAt s i = some (.lst ds)) : kindOf s (.ref i) = some .list := by
  unfold kindOf
  show (match asList s (.ref i) with | some _ => some Kd.list | none => _) = _
  unfold asList
  dsimp only
  rw [h]
theorem len_ref {s : Sto} {i : Nat} {ds : List D} {b : Bool} (h : cellAt s i = some (.lst ds)) : builtin b .len [.ref i] s = .ok (.v (.int ds.length)) s := by
  show biLen (.ref i) s = _
  unfold biLen
  show (match asList s (.ref i) with | some xs => Res.ok (D.v (.int xs.length)) s | none => _) = _
  unfold asList
  dsimp only
  rw [h]
theorem append_ref {s : Sto} {i : Nat} {ds : List D} {x : D} {b : Bool} (h : cellAt s i = some (.lst ds)) (l : ds.length < LIM) : tmeth b (.ref i) .append [x] s = .ok (.v .non) (s.set i (some (.lst (ds ++ [x])))) := by
  show tmAppend (.ref i) x s = _
  unfold tmAppend lstAt
  dsimp only
  rw [h]
  dsimp only
  rw [decide_eq_true l]
  rfl
theorem popi_ref {s : Sto} {i : Nat} {ds : List D} {k : Int} {b : Bool} (h : cellAt s i = some (.lst ds)) (k0 : 0 ≤ k) (k1 : k < ds.length) : ∃ x, ds[k.toNat]? = some x ∧ tmeth b (.ref i) .popi [.v (.int k)] s = .ok x (s.set i (some (.lst (ds.eraseIdx k.toNat)))) := by
  have hl : k.toNat < ds.length := by omega
  refine ⟨ds[k.toNat], List.getElem?_eq_getElem hl, ?_⟩
  show tmPopi (.ref i) (.v (.int k)) s = _
  unfold tmPopi lstAt
  dsimp only
  rw [h]
  dsimp only [asI]
  unfold place
  rw [if_pos k0, if_pos k1]
  dsimp only
  rw [List.getElem?_eq_getElem hl]
theorem ne_ref {P : Pr} {F : Bool → Nat → List D → M D} {s : Sto} {i : Nat} {ts : List T} (h : cellAt s i = some (.lst (ts.map .v))) (hf : ts.all (T.shape 39) = true) : cmpop P F .ne (.ref i) (.v (.lst [])) s = .ok (.v (.bl (!ts.isEmpty))) s := by
  unfold cmpop
  dsimp only
  unfold eqD
  have e3 : rd s DEEP (.ref i) = some (.lst ts) := by
    unfold rd
    rw [h]
    show ((ts.map D.v).mapM (rd s _)).map T.lst = _
    rw [mapM_rd]; rfl
  rw [e3, rd_v]
  dsimp only
  have f1 : (T.lst ts).flat = true := hf
  rw [f1]
  show Res.ok (D.v (.bl (!(T.eqv (.lst ts) (.lst []))))) s = _
  cases ts <;> rfl
theorem erase_map {ts : List T} (k : Nat) : (ts.map D.v).eraseIdx k = (ts.eraseIdx k).map .v := by
  induction ts generalizing k with
  | nil => rfl
  | cons t r ih => cases k with
    | zero => rfl
    | succ k => simp [List.eraseIdx, ih k]
theorem shuffle_loop (n : Nat) {a r : Sto} (v1 : Option D) : ∀ (k : Nat) (ls fs : List T) (s : Sto) (fuel : Nat), ls.length = k → TS a r s → (∀ t ∈ ls, T.shape 39 t = true) → fs.length + ls.length < 1000 → k < fuel →
    ∃ (us : List T) (s' : Sto), whileL (fun e => (ev P (PV.run P LM (n + 1)) (flOf P LM (n + 1)) e (.cmp .ne (.var 2) (.lst false []))).bind testOf) (fun e s => exSs P (PV.run P LM (n + 1)) (flOf P LM (n + 1)) e [.ex (.tm false (.var 3) .append [(.tm false (.var 2) .popi [(.call false 6 [(.var 0), (.bi false .len [(.var 2)])] [] [])])])] s) fuel
        [some (.ref a.length), v1, some (.ref s.length), some (.ref (s.length + 1))] (s ++ [some (.lst (ls.map .v)), some (.lst (fs.map .v))]) =
      .ok .nx [some (.ref a.length), v1, some (.ref s.length), some (.ref (s.length + 1))] (s' ++ [some (.lst []), some (.lst (us.map .v))]) ∧ TS a r s' ∧ us.length = fs.length + ls.length ∧ ∀ t ∈ us, t ∈ fs ∨ t ∈ ls := by
  intro k
  induction k with
  | zero =>
    intro ls fs s fuel hk ht _ _ hf
    obtain rfl := List.length_eq_zero_iff.mp hk
    obtain ⟨f, rfl⟩ : ∃ f, fuel = f + 1 := ⟨fuel - 1, by omega⟩
    refine ⟨fs, s, ?_, ht, by simp, fun t h => .inl h⟩
    unfold whileL
    have e0 : cmpop P (PV.run P LM (n + 1)) .ne (.ref s.length) (.v (.lst [])) (s ++ [some (.lst []), some (.lst (fs.map .v))]) = .ok (.v (.bl false)) _ := ne_ref (ts := []) cl0 rfl
    simp [ev, evst, M.bind, mkL, allD, fewS, e0]
  | succ k ih =>
    intro ls fs s fuel hk ht hsh hlen hf
    obtain ⟨f, rfl⟩ : ∃ f, fuel = f + 1 := ⟨fuel - 1, by omega⟩
    have hne : ls.isEmpty = false := by cases ls with | nil => cases hk | cons _ _ => rfl
    obtain ⟨i, s1, e1, t1, i0, i1⟩ := pick n (k := ls.length) (ht.more (x := [some (.lst (ls.map .v)), some (.lst (fs.map .v))])) (by omega) (by omega)
    obtain ⟨s2, rfl, t2⟩ := t1.less
    have hl2 : s2.length = s.length := t2.len ht
    obtain ⟨x, hx, ep⟩ := popi_ref (b := false) (s := s2 ++ [some (.lst (ls.map .v)), some (.lst (fs.map .v))]) (i := s2.length) cl0 i0 (by simpa using i1)
    rw [List.getElem?_map] at hx
    obtain ⟨t, ht0, rfl⟩ := Option.map_eq_some_iff.mp hx
    rw [st0, erase_map] at ep
    have ea := append_ref (b := false) (x := D.v t) (s := s2 ++ [some (.lst ((ls.eraseIdx i.toNat).map .v)), some (.lst (fs.map .v))]) (i := s2.length + 1) cl1 (by rw [show LIM = 16000000 from rfl, List.length_map]; omega)
    rw [st1] at ea
    have htm : t ∈ ls := List.mem_of_getElem? ht0
    have hlt : i.toNat < ls.length := by omega
    obtain ⟨us, s', q1, q2, q3, q4⟩ := ih (ls.eraseIdx i.toNat) (fs ++ [t]) s2 f (by rw [List.length_eraseIdx_of_lt hlt]; omega) t2 (fun t h => hsh t (List.mem_of_mem_eraseIdx h)) (by rw [List.length_eraseIdx_of_lt hlt]; simp; omega) (by omega)
    refine ⟨us, s', ?_, q2, by rw [q3, List.length_eraseIdx_of_lt hlt]; simp; omega, fun u hu => ?_⟩
    · rw [hl2] at ep ea q1
      have k0 := kind_l (s := s ++ [some (.lst (ls.map .v)), some (.lst (fs.map .v))]) (i := s.length) cl0
      have k1 := kind_l (s := s ++ [some (.lst (ls.map .v)), some (.lst (fs.map .v))]) (i := s.length + 1) cl1
      have l0 := len_ref (b := false) (s := s ++ [some (.lst (ls.map .v)), some (.lst (fs.map .v))]) (i := s.length) cl0
      unfold whileL
      simp [ev, evs, evst, M.bind, mkL, allD, fewS, ne_ref (P := P) (F := PV.run P LM (n + 1)) (i := s.length) (ts := ls) cl0 (List.all_eq_true.mpr hsh), hne, exSs, exS, k0, k1, okRecv, l0, e1, ep, ea]
      have e9 : (fs.map D.v ++ [D.v t]) = (fs ++ [t]).map D.v := by simp
      rw [e9]
      exact q1
    · rcases q4 u hu with h | h
      · rcases List.mem_append.mp h with h | h
        · exact .inl h
        · rw [List.mem_singleton.mp h]; exact .inr htm
      · exact .inr (List.mem_of_mem_eraseIdx h)
theorem shuffled (n : Nat) {a r s : Sto} {ts : List T} (ht : TS a r s) (pa : Pl a) (pr : Pl r) (hs : ∀ t ∈ ts, T.shape 39 t = true) (hl : ts.length < 150) : ∃ us s', PV.run P LM (n + 2) false 8 [.ref a.length, .v (.lst ts)] s = .ok (.v (.lst us)) s' ∧ TS a r s' ∧ us.length = ts.length ∧ ∀ t ∈ us, t ∈ ts := by
  obtain ⟨us, s', q1, q2, q3, q4⟩ := shuffle_loop n (some (.v (.lst ts))) ts.length ts [] s 200 rfl ht hs (by simp; omega) (by omega)
  refine ⟨us, s', ?_, q2, by simpa using q3, fun t h => by simpa using q4 t h⟩
  rw [run_eq (d := f_law_shuffled) rfl rfl]
  unfold f_law_shuffled b_law_shuffled
  have e1 : builtin true .list [.v (.lst ts)] s = .ok (.ref s.length) (s ++ [some (.lst (ts.map .v))]) := rfl
  have e2 : (s ++ [some (PV.Cell.lst (ts.map D.v))]).length = s.length + 1 := by simp
  have h1 : exS P (PV.run P LM (n + 1)) (flOf P LM (n + 1)) [some (.ref a.length), some (.v (.lst ts)), none, none] (.asg (.pt (.tp [(.nm 2), (.nm 3)])) (.tup [(false, (.bi true .list [(.var 1)])), (false, (.lst true []))])) s =
      .ok .nx [some (.ref a.length), some (.v (.lst ts)), some (.ref s.length), some (.ref (s.length + 1))] (s ++ [some (.lst (ts.map .v)), some (.lst [])]) := by
    simp [exS, ev, evs, evst, M.bind, e1, mkL, allD, PV.alloc, fewS, mkT, store, bindP, bindPs, asSeq, asTup]
  have h2 := seq_nx (r := [.ret (.var 3)]) (show exS P (PV.run P LM (n + 1)) (flOf P LM (n + 1)) _ (.while_ _ _) _ = _ from q1)
  show finR true false s.length (exSs P (PV.run P LM (n + 1)) (flOf P LM (n + 1)) [some (.ref a.length), some (.v (.lst ts)), none, none] _ s) = _
  rw [seq_nx h1]
  refine (congrArg (finR true false s.length) h2).trans ?_
  simp only [exSs, exS, ev, M.bind]
  exact fin_lst (i := s.length + 1) rfl (ht.len q2) (q2.pl pa pr) (by omega) (by rw [ht.len q2]; exact cl1)
end K03
end
section
set_option Elab.async false
set_option linter.all false
set_option maxRecDepth 1000000
set_option maxHeartbeats 1000000
/-! E6: alive. -/
namespace K03
open PySem PV
def tS (ks : List Str) : List T := ks.map T.str
theorem mem_tS {ks : List Str} {t : T} : t ∈ tS ks ↔ ∃ x ∈ ks, t = .str x := by
  unfold tS
  rw [List.mem_map]
  exact ⟨fun ⟨x, h, e⟩ => ⟨x, h, e.symm⟩, fun ⟨x, h, e⟩ => ⟨x, h, e.symm⟩⟩
@[simp] theorem tS_len (ks : List Str) : (tS ks).length = ks.length := by simp [tS]
theorem tS_snoc (ks : List Str) (k : Str) : (tS ks).map D.v ++ [D.v (.str k)] = (tS (ks ++ [k])).map .v := by simp [tS]
/-- a rule -/
abbrev rl (nm k : Str) (o : List Str) (c : Int) : T := .tup [.str nm, .str k, .tup (tS o), .int c]
theorem str_all {p : T → Bool} (hp : ∀ x, p (.str x) = true) : ∀ ks : List Str, (tS ks).all p = true := fun ks => by
  rw [List.all_eq_true]
  intro t ht
  obtain ⟨x, _, rfl⟩ := mem_tS.mp ht
  exact hp x
theorem tS_flat (ks : List Str) : (tS ks).all T.flat = true := str_all (fun _ => rfl) ks
theorem tS_shape (ks : List Str) : (tS ks).all (T.shape 39) = true := str_all (fun _ => rfl) ks
theorem lst_flat {ts : List T} (h : ts.all (T.shape 39) = true) : (T.lst ts).flat = true := h
theorem tup_flat {ts : List T} (h : ts.all (T.shape 39) = true) : (T.tup ts).flat = true := h
theorem nil_flat : (T.lst []).flat = true := rfl
theorem filter_all {α : Type} {p q : α → Bool} {l : List α} (h : l.all q = true) : (l.filter p).all q = true := by
  rw [List.all_eq_true] at h ⊢
  exact fun x hx => h x (List.mem_filter.mp hx).1
theorem asStr_map (ks : List Str) : (tS ks).mapM asStr = some ks := by
  induction ks with
  | nil => rfl
  | cons k r ih =>
    show ((T.str k :: tS r).mapM asStr) = _
    rw [List.mapM_cons, ih]; rfl
theorem ife_t {P : Pr} {F : Bool → Nat → List D → M D} {FL : Nat → PV.Env → M D} {env : PV.Env} {c : C} {a b : List S} {s s' : Sto} {k : Bool} (h : ((ev P F FL env c).bind testOf) s = .ok k s') : exS P F FL env (.ife c a b) s = if k = true then exSs P F FL env a s' else exSs P F FL env b s' := by
  show withE env (((ev P F FL env c).bind testOf) s) _ = _
  rw [h]
  cases k <;> rfl
abbrev bAlive : List S := [.ife (.and (.cmp .nin (.ix (.var 3) (.int 1)) (.var 1)) (.cmp .ne (.comp false (.var 4) [4] (.nm 4) (.it (.ix (.var 3) (.int 2))) (some (.cmp .isin (.var 4) (.var 1)))) (.lst false []))) [.ex (.tm false (.var 1) .append [(.ix (.var 3) (.int 1))])] []]
theorem walk_lst {P : Pr} {F : Bool → Nat → List D → M D} {FL : Nat → PV.Env → M D} {env : PV.Env} {c : C} {s s' : Sto} {ts : List T} (h : ev P F FL env c s = .ok (.v (.lst ts)) s') : evi P F FL env (.it c) s = .ok (ts.map .v) s' := by
  show ((ev P F FL env c s).bind fun x => M.opt (walked x)) = _
  rw [h]; rfl
theorem walk_tup {P : Pr} {F : Bool → Nat → List D → M D} {FL : Nat → PV.Env → M D} {env : PV.Env} {c : C} {s s' : Sto} {ts : List T} (h : ev P F FL env c s = .ok (.v (.tup ts)) s') : evi P F FL env (.it c) s = .ok (ts.map .v) s' := by
  show ((ev P F FL env c s).bind fun x => M.opt (walked x)) = _
  rw [h]; rfl
theorem alive_step (n : Nat) {s : Sto} {o0 o2 : Option D} (nm k : Str) (o : List Str) (c : Int) (fs : List Str) (hf : fs.length < 1000) : ∃ fs' : List Str, exSs P (PV.run P LM n) (flOf P LM n) [o0, some (.ref s.length), o2, some (.v (rl nm k o c)), none] bAlive (s ++ [some (.lst ((tS fs).map .v))]) =
    .ok .nx [o0, some (.ref s.length), o2, some (.v (rl nm k o c)), none] (s ++ [some (.lst ((tS fs').map .v))]) ∧ fs'.length ≤ fs.length + 1 := by
  have i1 : ∀ st, item (.v (rl nm k o c)) (.v (.int 1)) st = .ok (.v (.str k)) st := fun st => rfl
  have i2 : ∀ st, item (.v (rl nm k o c)) (.v (.int 2)) st = .ok (.v (.tup (tS o))) st := fun st => rfl
  have hc : cellAt (s ++ [some (.lst ((tS fs).map .v))]) s.length = some (.lst ((tS fs).map .v)) := clE
  have n1 := c_nin_ref (P := P) (F := PV.run P LM n) (a := .str k) hc rfl (tS_flat fs)
  have cp := comp_pure (P := P) (F := PV.run P LM n) (FL := flOf P LM n) (env := [o0, some (.ref s.length), o2, some (.v (rl nm k o c)), none]) (own := [4]) (i := 4) (it := .it (.ix (.var 3) (.int 2))) (e := .var 4) (cond := some (.cmp .isin (.var 4) (.var 1))) (ts := tS o) (m := false)
    (s0 := s ++ [some (.lst ((tS fs).map .v))]) (s := s ++ [some (.lst ((tS fs).map .v))]) (fun t => anyEq t (tS fs)) id
    (walk_tup (by simp [ev, M.bind, i2])) (by simp) (fun t ht => by
      obtain ⟨x, _, rfl⟩ := mem_tS.mp ht
      simp [evc, ev, M.bind, wipeE, c_in_ref (P := P) (F := PV.run P LM n) (a := .str x) hc rfl (tS_flat fs)]) (fun t _ _ => by simp [ev, wipeE])
  rw [mkL_f, List.map_id] at cp
  have fl : (T.lst ((tS o).filter fun t => anyEq t (tS fs))).flat = true := lst_flat (filter_all (tS_shape o))
  have n2 := c_ne (P := P) (F := PV.run P LM n) (s ++ [some (.lst ((tS fs).map .v))]) fl nil_flat
  have e0 : ∀ st, ev P (PV.run P LM n) (flOf P LM n) [o0, some (.ref s.length), o2, some (.v (rl nm k o c)), none] (.lst false []) st = .ok (.v (.lst [])) st := fun st => rfl
  have e3 : ∀ st, ev P (PV.run P LM n) (flOf P LM n) [o0, some (.ref s.length), o2, some (.v (rl nm k o c)), none] (.ix (.var 3) (.int 1)) st = .ok (.v (.str k)) st := fun st => by simp [ev, M.bind, i1]
  have e4 : ∀ st, ev P (PV.run P LM n) (flOf P LM n) [o0, some (.ref s.length), o2, some (.v (rl nm k o c)), none] (.var 1) st = .ok (.ref s.length) st := fun st => rfl
  have tst : ∃ b, ((ev P (PV.run P LM n) (flOf P LM n) [o0, some (.ref s.length), o2, some (.v (rl nm k o c)), none] (.and (.cmp .nin (.ix (.var 3) (.int 1)) (.var 1)) (.cmp .ne (.comp false (.var 4) [4] (.nm 4) (.it (.ix (.var 3) (.int 2))) (some (.cmp .isin (.var 4) (.var 1)))) (.lst false [])))).bind testOf) (s ++ [some (.lst ((tS fs).map .v))]) = .ok b (s ++ [some (.lst ((tS fs).map .v))]) := by
    have a1 : ev P (PV.run P LM n) (flOf P LM n) [o0, some (.ref s.length), o2, some (.v (rl nm k o c)), none] (.cmp .nin (.ix (.var 3) (.int 1)) (.var 1)) (s ++ [some (.lst ((tS fs).map .v))]) = .ok (.v (.bl (!anyEq (.str k) (tS fs)))) (s ++ [some (.lst ((tS fs).map .v))]) := by
      exact (ev_cmp (e3 _) (e4 _)).trans n1
    have a2 : ev P (PV.run P LM n) (flOf P LM n) [o0, some (.ref s.length), o2, some (.v (rl nm k o c)), none] (.cmp .ne (.comp false (.var 4) [4] (.nm 4) (.it (.ix (.var 3) (.int 2))) (some (.cmp .isin (.var 4) (.var 1)))) (.lst false [])) (s ++ [some (.lst ((tS fs).map .v))]) = .ok (.v (.bl (!T.eqv (.lst ((tS o).filter fun t => anyEq t (tS fs))) (.lst [])))) (s ++ [some (.lst ((tS fs).map .v))]) := by
      exact (ev_cmp cp (e0 _)).trans n2
    exact ⟨_, tst (ev_and a1 fun _ => a2)⟩
  obtain ⟨b, hb⟩ := tst
  cases b with
  | false =>
    refine ⟨fs, ?_, by omega⟩
    rw [seq_nx (r := []) (show exS _ _ _ _ _ _ = .ok .nx _ _ from (ife_t hb).trans (by simp [exSs]; exact ⟨rfl, rfl⟩))]
    rfl
  | true =>
    refine ⟨fs ++ [k], ?_, by simp⟩
    have k1 := kind_l hc
    have ap := append_ref (b := false) (x := .v (.str k)) hc (by rw [show LIM = 16000000 from rfl]; simp; omega)
    rw [stE] at ap
    have e9 := tS_snoc fs k
    rw [e9] at ap
    rw [seq_nx (r := []) (show exS _ _ _ _ _ _ = .ok .nx _ _ from (ife_t hb).trans (by rw [if_pos rfl]; simp [exSs, exS, ev, evs, M.bind, k1, okRecv, i1, ap]; exact ⟨rfl, rfl⟩))]
    rfl
theorem alive (n : Nat) {s : Sto} (pl : Pl s) (ks hs : List Str) (rs : List T) (hr : ∀ t ∈ rs, ∃ nm k o c, t = rl nm k o c) (hl : hs.length + ks.length * rs.length < 900) (b c : T) :
    ∃ us : List Str, PV.run P LM (n + 1) false 10 [.v (.lst [.lst (tS ks), .lst (tS hs), .lst rs, b, c])] s = .ok (.v (.lst (tS us))) s := by
  rw [run_eq (d := f_law_alive) rfl rfl]
  unfold f_law_alive b_law_alive
  obtain ⟨pv, hpv⟩ : ∃ pv, pv = D.v (.lst [.lst (tS ks), .lst (tS hs), .lst rs, b, c]) := ⟨_, rfl⟩
  have j0 : ∀ st, item pv (.v (.int 0)) st = .ok (.v (.lst (tS ks))) st := fun st => by rw [hpv]; rfl
  have j1 : ∀ st, item pv (.v (.int 1)) st = .ok (.v (.lst (tS hs))) st := fun st => by rw [hpv]; rfl
  have j2 : ∀ st, item pv (.v (.int 2)) st = .ok (.v (.lst rs)) st := fun st => by rw [hpv]; rfl
  rw [← hpv]
  have h1 : exS P (PV.run P LM n) (flOf P LM n) [some pv, none, none, none, none] (.asg (.pt (.nm 1)) (.bi true .list [(.ix (.var 0) (.int 1))])) s = .ok .nx [some pv, some (.ref s.length), none, none, none] (s ++ [some (.lst ((tS hs).map .v))]) := by
    have e1 : builtin true .list [.v (.lst (tS hs))] s = .ok (.ref s.length) (s ++ [some (.lst ((tS hs).map .v))]) := rfl
    simp [exS, ev, evs, M.bind, j1, e1, store, bindP]
  have inner : ∀ (o2 o3 : Option D) (fs : List Str) (q : Nat), fs.length + (q + 1) * rs.length ≤ 900 → ∃ (o3' : Option D) (fs' : List Str), forL (.nm 3) (fun e s => exSs P (PV.run P LM n) (flOf P LM n) e bAlive s) (rs.map .v) [some pv, some (.ref s.length), o2, o3, none] (s ++ [some (.lst ((tS fs).map .v))]) =
      .ok .nx [some pv, some (.ref s.length), o2, o3', none] (s ++ [some (.lst ((tS fs').map .v))]) ∧ fs'.length + q * rs.length ≤ 900 := fun o2 o3 fs q hq => by
    obtain ⟨e', s', z1, o3', fs', z2, z3, z4, _⟩ := forL_inv (g := .nm 3) (body := fun e s => exSs P (PV.run P LM n) (flOf P LM n) e bAlive s) (fun xs env st => ∃ (o3' : Option D) (fs' : List Str), env = [some pv, some (.ref s.length), o2, o3', none] ∧ st = s ++ [some (.lst ((tS fs').map .v))] ∧ fs'.length + q * rs.length + xs.length ≤ 900 ∧ ∀ x ∈ xs, ∃ nm k o c, x = D.v (rl nm k o c))
      (fun x r env st ⟨o3', fs', z1, z2, z3, z4⟩ => by
        subst z1 z2
        obtain ⟨nm, k, o, c, rfl⟩ := z4 x (List.mem_cons_self ..)
        obtain ⟨fs2, w1, w2⟩ := alive_step n (s := s) (o0 := some pv) (o2 := o2) nm k o c fs' (by simp at z3; omega)
        exact ⟨[some pv, some (.ref s.length), o2, some (.v (rl nm k o c)), none], rfl, _, _, w1, _, fs2, rfl, rfl, by simp at z3; omega, fun y hy => z4 y (List.mem_cons_of_mem _ hy)⟩)
      (rs.map .v) _ _ ⟨o3, fs, rfl, rfl, by rw [List.length_map]; rw [Nat.add_mul, Nat.one_mul] at hq; omega, fun x hx => by
        obtain ⟨t, ht, rfl⟩ := List.mem_map.mp hx
        obtain ⟨nm, k, o, c, rfl⟩ := hr t ht
        exact ⟨nm, k, o, c, rfl⟩⟩
    subst z2 z3
    exact ⟨o3', fs', z1, by simpa using z4⟩
  have outer : ∃ (o2 o3 : Option D) (fs : List Str), forL (.nm 2) (fun e s => exSs P (PV.run P LM n) (flOf P LM n) e [.for_ (.nm 3) (.it (.ix (.var 0) (.int 2))) bAlive] s) ((tS ks).map .v) [some pv, some (.ref s.length), none, none, none] (s ++ [some (.lst ((tS hs).map .v))]) =
      .ok .nx [some pv, some (.ref s.length), o2, o3, none] (s ++ [some (.lst ((tS fs).map .v))]) := by
    obtain ⟨e', s', z1, o2, o3, fs, z2, z3, z4⟩ := forL_inv (g := .nm 2) (body := fun e s => exSs P (PV.run P LM n) (flOf P LM n) e [.for_ (.nm 3) (.it (.ix (.var 0) (.int 2))) bAlive] s) (fun xs env st => ∃ (o2 o3 : Option D) (fs' : List Str), env = [some pv, some (.ref s.length), o2, o3, none] ∧ st = s ++ [some (.lst ((tS fs').map .v))] ∧ fs'.length + xs.length * rs.length ≤ 900)
      (fun x r env st ⟨o2, o3, fs', z1, z2, z3⟩ => by
        subst z1 z2
        obtain ⟨o3', fs2, w1, w2⟩ := inner (some x) o3 fs' r.length (by simpa using z3)
        refine ⟨[some pv, some (.ref s.length), some x, o3, none], rfl, _, _, ?_, some x, o3', fs2, rfl, rfl, w2⟩
        have iw : evi P (PV.run P LM n) (flOf P LM n) [some pv, some (.ref s.length), some x, o3, none] (.it (.ix (.var 0) (.int 2))) (s ++ [some (.lst ((tS fs').map .v))]) = .ok (rs.map .v) (s ++ [some (.lst ((tS fs').map .v))]) := walk_lst (by simp [ev, M.bind, j2])
        refine (seq_nx (r := []) (show exS _ _ _ _ (.for_ _ _ _) _ = _ from ?_)).trans rfl
        show withE _ (evi _ _ _ _ _ _) _ = _
        rw [iw]
        exact w1)
      ((tS ks).map .v) _ _ ⟨none, none, hs, rfl, rfl, by simp; omega⟩
    subst z2 z3
    exact ⟨o2, o3, fs, z1⟩
  obtain ⟨o2, o3, fs, ho⟩ := outer
  refine ⟨sortS fs, ?_⟩
  show finR false false s.length (exSs P (PV.run P LM n) (flOf P LM n) [some pv, none, none, none, none] _ s) = _
  rw [seq_nx h1]
  have iw : evi P (PV.run P LM n) (flOf P LM n) [some pv, some (.ref s.length), none, none, none] (.it (.ix (.var 0) (.int 0))) (s ++ [some (.lst ((tS hs).map .v))]) = .ok ((tS ks).map .v) (s ++ [some (.lst ((tS hs).map .v))]) := walk_lst (by simp [ev, M.bind, j0])
  have h2 : exS P (PV.run P LM n) (flOf P LM n) [some pv, some (.ref s.length), none, none, none] (.for_ (.nm 2) (.it (.ix (.var 0) (.int 0))) [.for_ (.nm 3) (.it (.ix (.var 0) (.int 2))) bAlive]) (s ++ [some (.lst ((tS hs).map .v))]) = .ok .nx [some pv, some (.ref s.length), o2, o3, none] (s ++ [some (.lst ((tS fs).map .v))]) := by
    show withE _ (evi _ _ _ _ _ _) _ = _
    rw [iw]
    exact ho
  rw [seq_nx h2]
  have hc : cellAt (s ++ [some (.lst ((tS fs).map .v))]) s.length = some (.lst ((tS fs).map .v)) := clE
  have e9 : builtin false .sorted [.ref s.length] (s ++ [some (.lst ((tS fs).map .v))]) = .ok (.v (.lst (tS (sortS fs)))) (s ++ [some (.lst ((tS fs).map .v))]) := by
    show biSorted false (.ref s.length) _ = _
    unfold biSorted asList
    dsimp only
    rw [hc]
    show (match (allD ((tS fs).map D.v)) with | some ts => _ | none => _) = _
    rw [allD_map]
    dsimp only
    rw [asStr_map]
    dsimp only
    have := mkL_f (tS (sortS fs)) (s ++ [some (.lst ((tS fs).map .v))])
    unfold tS at this
    rw [List.map_map] at this
    unfold tS
    exact this
  have h3 : exS P (PV.run P LM n) (flOf P LM n) [some pv, some (.ref s.length), o2, o3, none] (.ret (.bi false .sorted [(.var 1)])) (s ++ [some (.lst ((tS fs).map .v))]) = .ok (.rt (.v (.lst (tS (sortS fs))))) [some pv, some (.ref s.length), o2, o3, none] (s ++ [some (.lst ((tS fs).map .v))]) := by
    simp only [exS, ev, evs, M.bind]
    show withE _ (builtin false .sorted [.ref s.length] _) _ = _
    rw [e9]; rfl
  rw [seq_rt h3]
  exact fin_cut rfl pl
end K03
end
section
set_option Elab.async false
set_option linter.all false
set_option maxRecDepth 1000000
set_option maxHeartbeats 1000000
/-! E7: expressions over a tape. -/
namespace K03
open PySem PV
section
variable {n : Nat} {a r : Sto} {env : PV.Env}
/-- whatever the tape is: c has a value with Y, only the tape is changed -/
def ET (n : Nat) (a r : Sto) (env : PV.Env) (c : C) (Y : D → Prop) : Prop := ∀ s, TS a r s → ∃ d s', ev P (PV.run P LM n) (flOf P LM n) env c s = .ok d s' ∧ TS a r s' ∧ Y d
def ETs (n : Nat) (a r : Sto) (env : PV.Env) (es : List (Bool × C)) (Y : List D → Prop) : Prop := ∀ s, TS a r s → ∃ ds s', evst P (PV.run P LM n) (flOf P LM n) env es s = .ok ds s' ∧ TS a r s' ∧ Y ds
abbrev isB (d : D) : Prop := ∃ b, d = .v (.bl b)
abbrev isV (Y : T → Prop) (d : D) : Prop := ∃ t, d = .v t ∧ Y t
abbrev isI (lo hi : Int) (d : D) : Prop := ∃ i, d = .v (.int i) ∧ lo ≤ i ∧ i ≤ hi
variable {c c1 c2 c3 : C} {A B Y : D → Prop}
theorem ET.imp {Y Y' : D → Prop} (h : ET n a r env c Y) (i : ∀ d, Y d → Y' d) : ET n a r env c Y' := fun s t => by
  obtain ⟨d, s', e, t', y⟩ := h s t
  exact ⟨d, s', e, t', i d y⟩
theorem ET.of {d : D} (h : ∀ s, ev P (PV.run P LM n) (flOf P LM n) env c s = .ok d s) (y : Y d) : ET n a r env c Y := fun s t => ⟨d, s, h s, t, y⟩
theorem ET.var {i : Nat} {d : D} (h : env[i]? = some (some d)) (y : Y d) : ET n a r env (.var i) Y := .of (fun s => by
  show M.opt ((env[i]?).bind id) s = _
  rw [h]; rfl) y
theorem ET.int {i : Int} (y : Y (.v (.int i))) : ET n a r env (.int i) Y := .of (fun _ => rfl) y
theorem ET.str {x : Str} (y : Y (.v (.str x))) : ET n a r env (.str x) Y := .of (fun _ => rfl) y
theorem ET.non (y : Y (.v .non)) : ET n a r env .non Y := .of (fun _ => rfl) y
theorem ET.bl {b : Bool} (y : Y (.v (.bl b))) : ET n a r env (.bl b) Y := .of (fun _ => rfl) y
theorem ET.pick {k : Int} (h : ET (n + 1) a r env c1 (· = .ref a.length)) (h2 : ET (n + 1) a r env c2 (isI 1 k)) (hk : k < 1000000) : ET (n + 1) a r env (.call false 6 [c1, c2] [] []) (isI 0 (k - 1)) := fun s t => by
  obtain ⟨d1, s1, e1, t1, rfl⟩ := h s t
  obtain ⟨d2, s2, e2, t2, i, rfl, i0, i1⟩ := h2 s1 t1
  obtain ⟨j, s3, e3, t3, j0, j1⟩ := K03.pick n t2 (k := i) (by omega) (by omega)
  exact ⟨_, s3, (ev_call2 e1 e2).trans e3, t3, j, rfl, j0, by omega⟩
theorem ET.one {Y : T → Prop} (h : ET (n + 2) a r env c1 (· = .ref a.length)) (h2 : ET (n + 2) a r env c2 fun d => ∃ ts, d = .v (.lst ts) ∧ ts ≠ [] ∧ ts.length < 1000 ∧ ∀ t ∈ ts, Y t) : ET (n + 2) a r env (.call false 7 [c1, c2] [] []) (isV Y) := fun s t => by
  obtain ⟨d1, s1, e1, t1, rfl⟩ := h s t
  obtain ⟨d2, s2, e2, t2, ts, rfl, i0, i1, i2⟩ := h2 s1 t1
  obtain ⟨x, hx, s3, e3, t3⟩ := one_of n t2 i0 i1
  exact ⟨_, s3, (ev_call2 e1 e2).trans e3, t3, x, rfl, i2 x hx⟩
theorem ET.cmp {o : Cop} (h : ET n a r env c1 A) (h2 : ET n a r env c2 B) (k : ∀ x y s, A x → B y → TS a r s → ∃ d, cmpop P (PV.run P LM n) o x y s = .ok d s ∧ Y d) : ET n a r env (.cmp o c1 c2) Y := fun s t => by
  obtain ⟨d1, s1, e1, t1, y1⟩ := h s t
  obtain ⟨d2, s2, e2, t2, y2⟩ := h2 s1 t1
  obtain ⟨d, e3, y3⟩ := k d1 d2 s2 y1 y2 t2
  exact ⟨d, s2, (ev_cmp e1 e2).trans e3, t2, y3⟩
theorem ET.bin {m : Bool} {o : Bop} (h : ET n a r env c1 A) (h2 : ET n a r env c2 B) (k : ∀ x y s, A x → B y → TS a r s → ∃ d, binop m o x y s = .ok d s ∧ Y d) : ET n a r env (.bin m o c1 c2) Y := fun s t => by
  obtain ⟨d1, s1, e1, t1, y1⟩ := h s t
  obtain ⟨d2, s2, e2, t2, y2⟩ := h2 s1 t1
  obtain ⟨d, e3, y3⟩ := k d1 d2 s2 y1 y2 t2
  exact ⟨d, s2, (ev_bin e1 e2).trans e3, t2, y3⟩
theorem ET.ix (h : ET n a r env c1 A) (h2 : ET n a r env c2 B) (k : ∀ x y s, A x → B y → TS a r s → ∃ d, item x y s = .ok d s ∧ Y d) : ET n a r env (.ix c1 c2) Y := fun s t => by
  obtain ⟨d1, s1, e1, t1, y1⟩ := h s t
  obtain ⟨d2, s2, e2, t2, y2⟩ := h2 s1 t1
  obtain ⟨d, e3, y3⟩ := k d1 d2 s2 y1 y2 t2
  exact ⟨d, s2, (ev_ix e1 e2).trans e3, t2, y3⟩
theorem ET.bi {m : Bool} {b : Bi} (h : ET n a r env c1 A) (k : ∀ x s, A x → TS a r s → ∃ d, builtin m b [x] s = .ok d s ∧ Y d) : ET n a r env (.bi m b [c1]) Y := fun s t => by
  obtain ⟨d1, s1, e1, t1, y1⟩ := h s t
  obtain ⟨d, e3, y3⟩ := k d1 s1 y1 t1
  exact ⟨d, s1, (ev_bi1 e1).trans e3, t1, y3⟩
theorem ET.and (h : ET n a r env c1 isB) (h2 : ET n a r env c2 isB) : ET n a r env (.and c1 c2) isB := fun s t => by
  obtain ⟨d1, s1, e1, t1, b, rfl⟩ := h s t
  cases b with
  | true =>
    obtain ⟨d2, s2, e2, t2, y2⟩ := h2 s1 t1
    exact ⟨d2, s2, (ev_and_t e1).trans e2, t2, y2⟩
  | false => exact ⟨_, s1, ev_and_f e1, t1, _, rfl⟩
theorem ET.or (h : ET n a r env c1 isB) (h2 : ET n a r env c2 isB) : ET n a r env (.or c1 c2) isB := fun s t => by
  obtain ⟨d1, s1, e1, t1, b, rfl⟩ := h s t
  cases b with
  | false =>
    obtain ⟨d2, s2, e2, t2, y2⟩ := h2 s1 t1
    exact ⟨d2, s2, (ev_or_f e1).trans e2, t2, y2⟩
  | true => exact ⟨_, s1, ev_or_t e1, t1, _, rfl⟩
theorem ET.ite (h : ET n a r env c1 isB) (h2 : ET n a r env c2 Y) (h3 : ET n a r env c3 Y) : ET n a r env (.ite c1 c2 c3) Y := fun s t => by
  obtain ⟨d1, s1, e1, t1, b, rfl⟩ := h s t
  cases b with
  | true =>
    obtain ⟨d2, s2, e2, t2, y2⟩ := h2 s1 t1
    refine ⟨d2, s2, ?_, t2, y2⟩
    show ((ev P (PV.run P LM n) (flOf P LM n) env c1 s).bind _) = _
    rw [e1]
    exact e2
  | false =>
    obtain ⟨d2, s2, e2, t2, y2⟩ := h3 s1 t1
    refine ⟨d2, s2, ?_, t2, y2⟩
    show ((ev P (PV.run P LM n) (flOf P LM n) env c1 s).bind _) = _
    rw [e1]
    exact e2
theorem ETs.nil {Y : List D → Prop} (y : Y []) : ETs n a r env [] Y := fun s t => ⟨[], s, rfl, t, y⟩
theorem ETs.cons {es : List (Bool × C)} {Y : List D → Prop} (h : ET n a r env c A) (h2 : ∀ d, A d → ETs n a r env es fun ds => Y (d :: ds)) : ETs n a r env ((false, c) :: es) Y := fun s t => by
  obtain ⟨d1, s1, e1, t1, y1⟩ := h s t
  obtain ⟨ds, s2, e2, t2, y2⟩ := h2 d1 y1 s1 t1
  refine ⟨d1 :: ds, s2, ?_, t2, y2⟩
  show ((ev P (PV.run P LM n) (flOf P LM n) env c s).bind fun x s => ((evst P (PV.run P LM n) (flOf P LM n) env es) s).bind fun xs => .ret (x :: xs)) = _
  rw [e1]
  show ((evst P (PV.run P LM n) (flOf P LM n) env es s1).bind fun xs => .ret (d1 :: xs)) = _
  rw [e2]; rfl
theorem ET.tup {es : List (Bool × C)} (h : ETs n a r env es fun ds => ∃ ts, ds = ts.map .v ∧ Y (.v (.tup ts))) (hs : (es.any fun p => p.1) = false) : ET n a r env (.tup es) Y := fun s t => by
  obtain ⟨ds, s1, e1, t1, ts, rfl, y⟩ := h s t
  refine ⟨_, s1, ?_, t1, y⟩
  show ((evst P (PV.run P LM n) (flOf P LM n) env es s).bind fun ds => (guardM (fewS es ds)).bind fun _ => .ret (mkT ds)) = _
  rw [e1]
  show ((guardM (fewS es (ts.map .v)) s1).bind fun _ => .ret (mkT (ts.map .v))) = _
  rw [show fewS es (ts.map .v) = true by unfold fewS; rw [hs]; rfl, mkT_v]; rfl
theorem ET.lst {es : List (Bool × C)} (h : ETs n a r env es fun ds => ∃ ts, ds = ts.map .v ∧ Y (.v (.lst ts))) (hs : (es.any fun p => p.1) = false) : ET n a r env (.lst false es) Y := fun s t => by
  obtain ⟨ds, s1, e1, t1, ts, rfl, y⟩ := h s t
  refine ⟨_, s1, ?_, t1, y⟩
  show ((evst P (PV.run P LM n) (flOf P LM n) env es s).bind fun ds => (guardM (fewS es ds)).bind fun _ => mkL false ds) = _
  rw [e1]
  show ((guardM (fewS es (ts.map .v)) s1).bind fun _ => mkL false (ts.map .v)) = _
  rw [show fewS es (ts.map .v) = true by unfold fewS; rw [hs]; rfl]
  exact mkL_f ts s1
/-- items that are values -/
theorem ETs.v {es : List (Bool × C)} {Y : List T → Prop} {Z : T → Prop} (h : ET n a r env c (isV Z)) (h2 : ∀ t, Z t → ETs n a r env es fun ds => ∃ ts, ds = ts.map .v ∧ Y (t :: ts)) : ETs n a r env ((false, c) :: es) fun ds => ∃ ts, ds = ts.map .v ∧ Y ts :=
  .cons h fun d ⟨t, e, z⟩ s ts => by
    subst e
    obtain ⟨ds, s', e2, t2, us, rfl, y⟩ := h2 t z s ts
    exact ⟨_, s', e2, t2, t :: us, rfl, y⟩
theorem ETs.e {Y : List T → Prop} (y : Y []) : ETs n a r env [] fun ds => ∃ ts, ds = ts.map .v ∧ Y ts := .nil ⟨[], rfl, y⟩
/-- a comprehension over a walk: names by a pattern -/
theorem compS {m : Bool} {own : List Nat} {g : Pt} {it e : C} {cond : Option C} {X Y : T → Prop} {B : Nat} {ts : List T} {s s1 : Sto} (e1 : evi P (PV.run P LM n) (flOf P LM n) env it s = .ok (ts.map .v) s1) (t1 : TS a r s1) (hx : ∀ t ∈ ts, X t) (hl : ts.length ≤ B)
    (hc : ∀ t s, X t → TS a r s → ∃ en, bindP s g (.v t) (wipeE env own) = some en ∧ (cond = none ∨ ∃ cc, cond = some cc ∧ ET n a r en cc isB) ∧ ET n a r en e (isV Y)) :
    ∃ (ys : List T) (s' : Sto), ev P (PV.run P LM n) (flOf P LM n) env (.comp m e own g it cond) s = mkL m (ys.map .v) s' ∧ TS a r s' ∧ (∀ y ∈ ys, Y y) ∧ ys.length ≤ B := by
  obtain ⟨ys, s', q1, q2, q3, q4⟩ := turns_all (g := g) (env := wipeE env own) (cond := fun en => evc P (PV.run P LM n) (flOf P LM n) en cond) (elt := fun en => ev P (PV.run P LM n) (flOf P LM n) en e) (TS a r) (isV Y) (ts.map .v) [] s1 t1 (fun x hm s hs => by
    obtain ⟨t, ht, rfl⟩ := List.mem_map.mp hm
    obtain ⟨en, b1, b2, b3⟩ := hc t s (hx t ht) hs
    rcases b2 with rfl | ⟨cc, rfl, b2⟩
    · refine ⟨en, true, s, b1, rfl, hs, fun _ => ?_⟩
      obtain ⟨d, s2, k1, k2, k3⟩ := b3 s hs
      exact ⟨d, s2, k1, k2, k3⟩
    · obtain ⟨d, s2, k1, k2, b, rfl⟩ := b2 s hs
      refine ⟨en, b, s2, b1, tst k1, k2, fun _ => ?_⟩
      obtain ⟨d, s3, k3, k4, k5⟩ := b3 s2 k2
      exact ⟨d, s3, k3, k4, k5⟩)
  have hv : ∃ us : List T, ys = us.map .v ∧ ∀ u ∈ us, Y u := by
    clear q1 q4
    induction ys with
    | nil => exact ⟨[], rfl, fun _ h => (nomatch h)⟩
    | cons y r ih =>
      obtain ⟨us, rfl, hu⟩ := ih fun z hz => q3 z (List.mem_cons_of_mem _ hz)
      obtain ⟨u, rfl, hy⟩ := q3 y (List.mem_cons_self ..)
      exact ⟨u :: us, rfl, fun z hz => by
        rcases List.mem_cons.mp hz with rfl | hz
        · exact hy
        · exact hu z hz⟩
  obtain ⟨us, rfl, hu⟩ := hv
  refine ⟨us, s', ?_, q2, hu, by simp at q4; omega⟩
  show ((evi P (PV.run P LM n) (flOf P LM n) env it s).bind fun xs => (nox (turns g (wipeE env own) (fun en => evc P (PV.run P LM n) (flOf P LM n) en cond) (fun en => ev P (PV.run P LM n) (flOf P LM n) en e) xs [])).bind fun ys => mkL m ys) = _
  rw [e1]
  show ((nox (turns g (wipeE env own) (fun en => evc P (PV.run P LM n) (flOf P LM n) en cond) (fun en => ev P (PV.run P LM n) (flOf P LM n) en e) (ts.map .v) []) s1).bind fun ys => mkL m ys) = _
  rw [nox_ok q1]
  rfl
theorem ET.compG {m : Bool} {own : List Nat} {g : Pt} {it e : C} {cond : Option C} {X Y : T → Prop} {B : Nat} (hit : ∀ s, TS a r s → ∃ (ts : List T) (s' : Sto), evi P (PV.run P LM n) (flOf P LM n) env it s = .ok (ts.map .v) s' ∧ TS a r s' ∧ (∀ t ∈ ts, X t) ∧ ts.length ≤ B)
    (hc : ∀ t s, X t → TS a r s → ∃ en, bindP s g (.v t) (wipeE env own) = some en ∧ (cond = none ∨ ∃ cc, cond = some cc ∧ ET n a r en cc isB) ∧ ET n a r en e (isV Y)) :
    ∀ s, TS a r s → ∃ (ys : List T) (s' : Sto), ev P (PV.run P LM n) (flOf P LM n) env (.comp m e own g it cond) s = mkL m (ys.map .v) s' ∧ TS a r s' ∧ (∀ y ∈ ys, Y y) ∧ ys.length ≤ B := fun s t => by
  obtain ⟨ts, s1, e1, t1, hx, hl⟩ := hit s t
  exact compS e1 t1 hx hl hc
end
end K03
end
section
set_option Elab.async false
set_option linter.all false
set_option maxRecDepth 1000000
set_option maxHeartbeats 1000000
/-! E8: rules drawn. -/
namespace K03
open PySem PV
section
variable {n : Nat} {a r : Sto} {env : PV.Env}
/-- behind a list that changes -/
abbrev RL (r : Sto) (fs : List T) : Sto := r ++ [some (.lst (fs.map .v))]
abbrev LX (a r : Sto) : Nat := a.length + 1 + r.length
theorem TS.cell {s : Sto} {c : Cell} (h : TS a (r ++ [some c]) s) : cellAt s (LX a r) = some c := by
  obtain ⟨d, m, _, rfl⟩ := h
  have e : St a d m (r ++ [some c]) = St a d m r ++ [some c] := by simp [St]
  have l : LX a r = (St a d m r).length := by simp [St, LX]; omega
  rw [e, l]; exact clE
theorem TS.setc {s : Sto} {o c : Option Cell} (h : TS a (r ++ [o]) s) : TS a (r ++ [c]) (s.set (LX a r) c) := by
  obtain ⟨d, m, t, rfl⟩ := h
  have e : ∀ o, St a d m (r ++ [o]) = St a d m r ++ [o] := fun o => by simp [St]
  have l : LX a r = (St a d m r).length := by simp [St, LX]; omega
  rw [e, l, set_mid, ← e]
  exact ⟨d, m, t, rfl⟩
theorem TS.flen {s : Sto} (h : TS a r s) : s.length = LX a r := by
  obtain ⟨d, m, t, rfl⟩ := h
  simp [St, LX]; omega
theorem tst_ok {c : C} (h : ET n a r env c isB) {s : Sto} (t : TS a r s) : ∃ b s', ev P (PV.run P LM n) (flOf P LM n) env c s = .ok (.v (.bl b)) s' ∧ TS a r s' := by
  obtain ⟨d, s', e, t', b, rfl⟩ := h s t
  exact ⟨b, s', e, t'⟩
theorem app_ok {fs : List T} {i : Nat} {e : C} {Y : T → Prop} {rest : List S} (hv : env[i]? = some (some (.ref (LX a r)))) (h : ET n a (RL r fs) env e (isV Y)) (hl : fs.length < 1000) {s : Sto} (t : TS a (RL r fs) s) :
    ∃ x s', exSs P (PV.run P LM n) (flOf P LM n) env (.ex (.tm false (.var i) .append [e]) :: rest) s = exSs P (PV.run P LM n) (flOf P LM n) env rest s' ∧ TS a (RL r (fs ++ [x])) s' ∧ Y x := by
  obtain ⟨d, s1, e1, t1, x, rfl, y⟩ := h s t
  have c1 := append_ref (b := false) (x := .v x) t1.cell (by rw [show LIM = 16000000 from rfl, List.length_map]; omega)
  have e9 : fs.map D.v ++ [D.v x] = (fs ++ [x]).map .v := by simp
  rw [e9] at c1
  refine ⟨x, _, ?_, t1.setc, y⟩
  refine ex_ex ?_ (x := .v .non)
  show ((M.opt ((env[i]?).bind id) s).bind fun x s => (guardM (okRecv .append (kindOf s x)) s).bind fun _ => ((ev P (PV.run P LM n) (flOf P LM n) env e).bind fun x => (M.ret []).bind fun xs => M.ret (x :: xs)).bind fun ds => tmeth false x .append ds) = _
  rw [hv]
  show ((guardM (okRecv .append (kindOf s (.ref (LX a r)))) s).bind fun _ => ((ev P (PV.run P LM n) (flOf P LM n) env e).bind fun x => (M.ret []).bind fun xs => M.ret (x :: xs)).bind fun ds => tmeth false (.ref (LX a r)) .append ds) = _
  rw [kind_l t.cell]
  show (((ev P (PV.run P LM n) (flOf P LM n) env e s).bind fun x => (M.ret []).bind fun xs => M.ret (x :: xs)).bind fun ds => tmeth false (.ref (LX a r)) .append ds) = _
  rw [e1]
  exact c1
/-- the list frozen -/
theorem frz_ok {fs : List T} {i : Nat} (hv : env[i]? = some (some (.ref (LX a r)))) {s : Sto} (t : TS a (RL r fs) s) : ∃ s', ev P (PV.run P LM n) (flOf P LM n) env (.frz (.var i)) s = .ok (.v (.lst fs)) s' ∧ TS a (r ++ [none]) s' := by
  refine ⟨_, ?_, t.setc (c := none)⟩
  show ((M.opt ((env[i]?).bind id) s).bind _) = _
  rw [hv]
  show (match cellAt s (LX a r) with
    | some (.lst ds) => match allD ds with
      | some ts => Res.ok (D.v (T.lst ts)) (s.set (LX a r) none)
      | none => Res.bad
    | some (.dct tk kvs) => match allV kvs with
      | some ts => Res.ok (D.v (T.dct tk ts)) (s.set (LX a r) none)
      | none => Res.bad
    | _ => Res.bad) = _
  rw [t.cell]
  dsimp only
  rw [allD_map]
theorem ET.comp {own : List Nat} {g : Pt} {it e : C} {cond : Option C} {X Y : T → Prop} {B : Nat} (hit : ∀ s, TS a r s → ∃ (ts : List T) (s' : Sto), evi P (PV.run P LM n) (flOf P LM n) env it s = .ok (ts.map .v) s' ∧ TS a r s' ∧ (∀ t ∈ ts, X t) ∧ ts.length ≤ B)
    (hc : ∀ t s, X t → TS a r s → ∃ en, bindP s g (.v t) (wipeE env own) = some en ∧ (cond = none ∨ ∃ cc, cond = some cc ∧ ET n a r en cc isB) ∧ ET n a r en e (isV Y)) :
    ET n a r env (.comp false e own g it cond) fun d => ∃ ys, d = .v (.lst ys) ∧ (∀ y ∈ ys, Y y) ∧ ys.length ≤ B := fun s t => by
  obtain ⟨ys, s', e1, t1, h1, h2⟩ := ET.compG hit hc (m := false) s t
  exact ⟨_, s', e1.trans (mkL_f ys s'), t1, ys, rfl, h1, h2⟩
/-- .. walked over a list that is known -/
theorem walk_ok {c : C} {A : T → Prop} {B : Nat} (h : ET n a r env c fun d => ∃ ts, (d = .v (.lst ts) ∨ d = .v (.tup ts)) ∧ (∀ t ∈ ts, A t) ∧ ts.length ≤ B) : ∀ s, TS a r s → ∃ (ts : List T) (s' : Sto), evi P (PV.run P LM n) (flOf P LM n) env (.it c) s = .ok (ts.map .v) s' ∧ TS a r s' ∧ (∀ t ∈ ts, A t) ∧ ts.length ≤ B := fun s t => by
  obtain ⟨d, s', e, t', ts, h1, h2, h3⟩ := h s t
  rcases h1 with rfl | rfl
  · exact ⟨ts, s', walk_lst e, t', h2, h3⟩
  · exact ⟨ts, s', walk_tup e, t', h2, h3⟩
theorem iota_v : ∀ (k : Nat) (lo : Int), ∃ ts : List T, iotaD lo k = ts.map .v ∧ ts.length = k
  | 0, _ => ⟨[], rfl, rfl⟩
  | k + 1, lo => by
    obtain ⟨ts, e, l⟩ := iota_v k (lo + 1)
    exact ⟨.int lo :: ts, by rw [iotaD, e]; rfl, by simp [l]⟩
theorem rng_ok {c : C} {B : Nat} (h : ET n a r env c (isI 0 B)) (hB : B ≤ 1000) : ∀ s, TS a r s → ∃ (ts : List T) (s' : Sto), evi P (PV.run P LM n) (flOf P LM n) env (.rng [c]) s = .ok (ts.map .v) s' ∧ TS a r s' ∧ (∀ t ∈ ts, True) ∧ ts.length ≤ B := fun s t => by
  obtain ⟨d, s', e, t', i, rfl, i0, i1⟩ := h s t
  obtain ⟨ts, e2, l⟩ := iota_v i.toNat 0
  refine ⟨ts, s', ?_, t', fun _ _ => trivial, by omega⟩
  show (((ev P (PV.run P LM n) (flOf P LM n) env c s).bind fun x => (M.ret []).bind fun xs => M.ret (x :: xs)).bind fun ds => M.opt (ranged ds)) = _
  rw [e]
  show M.opt (if -(LIM : Int) ≤ i ∧ i ≤ LIM then some (iotaD 0 i.toNat) else none) s' = _
  rw [if_pos (by rw [show LIM = 16000000 from rfl]; constructor <;> omega), e2]; rfl
end
def enumT : Nat → List T → List T
  | _, [] => []
  | i, t :: r => .tup [.int i, t] :: enumT (i + 1) r
theorem enumD_v : ∀ (i : Nat) (ts : List T), enumD i (ts.map .v) = (enumT i ts).map .v
  | _, [] => rfl
  | i, t :: r => by
    show mk2 (.v (.int i)) (.v t) :: enumD (i + 1) (r.map .v) = _
    rw [enumD_v (i + 1) r]; rfl
theorem enumT_len : ∀ (i : Nat) (ts : List T), (enumT i ts).length = ts.length
  | _, [] => rfl
  | i, t :: r => by simp [enumT, enumT_len (i + 1) r]
theorem enumT_mem : ∀ (i : Nat) (ts : List T) (x : T), x ∈ enumT i ts → ∃ (j : Nat) (t : T), x = .tup [.int j, t] ∧ t ∈ ts ∧ i ≤ j ∧ j < i + ts.length
  | _, [], _, h => by cases h
  | i, t :: r, x, h => by
    rcases List.mem_cons.mp h with rfl | h
    · exact ⟨i, t, rfl, List.mem_cons_self .., Nat.le_refl _, by simp⟩
    · obtain ⟨j, u, e, hu, h1, h2⟩ := enumT_mem (i + 1) r x h
      exact ⟨j, u, e, List.mem_cons_of_mem _ hu, by omega, by simp; omega⟩
def letters : List Str := ["a", "b", "c", "d", "e", "f", "g", "h", "i", "j", "k", "l", "m", "n", "o", "p"]
theorem letter_at (i : Int) (h0 : 0 ≤ i) (h1 : i < 16) : ∃ x ∈ letters, ∀ s, item (.v (.str "abcdefghijklmnop")) (.v (.int i)) s = .ok (.v (.str x)) s := by
  have h : i = 0 ∨ i = 1 ∨ i = 2 ∨ i = 3 ∨ i = 4 ∨ i = 5 ∨ i = 6 ∨ i = 7 ∨ i = 8 ∨ i = 9 ∨ i = 10 ∨ i = 11 ∨ i = 12 ∨ i = 13 ∨ i = 14 ∨ i = 15 := by omega
  rcases h with rfl | rfl | rfl | rfl | rfl | rfl | rfl | rfl | rfl | rfl | rfl | rfl | rfl | rfl | rfl | rfl
  · exact ⟨"a", by decide, fun _ => rfl⟩
  · exact ⟨"b", by decide, fun _ => rfl⟩
  · exact ⟨"c", by decide, fun _ => rfl⟩
  · exact ⟨"d", by decide, fun _ => rfl⟩
  · exact ⟨"e", by decide, fun _ => rfl⟩
  · exact ⟨"f", by decide, fun _ => rfl⟩
  · exact ⟨"g", by decide, fun _ => rfl⟩
  · exact ⟨"h", by decide, fun _ => rfl⟩
  · exact ⟨"i", by decide, fun _ => rfl⟩
  · exact ⟨"j", by decide, fun _ => rfl⟩
  · exact ⟨"k", by decide, fun _ => rfl⟩
  · exact ⟨"l", by decide, fun _ => rfl⟩
  · exact ⟨"m", by decide, fun _ => rfl⟩
  · exact ⟨"n", by decide, fun _ => rfl⟩
  · exact ⟨"o", by decide, fun _ => rfl⟩
  · exact ⟨"p", by decide, fun _ => rfl⟩
end K03
end
section
set_option Elab.async false
set_option linter.all false
set_option maxRecDepth 1000000
set_option maxHeartbeats 2000000
/-! E9: rules drawn. -/
namespace K03
open PySem PV
abbrev pr (k : Str) (o : List Str) : T := .tup [.str k, .tup (tS o)]
def IsPair (ks : List Str) (t : T) : Prop := ∃ k o, k ∈ ks ∧ (∀ x ∈ o, x ∈ ks) ∧ o.length ≤ 4 ∧ t = pr k o
def IsRule (ks : List Str) (lo hi : Int) (t : T) : Prop := ∃ nm k o c, nm ∈ letters ∧ k ∈ ks ∧ (∀ x ∈ o, x ∈ ks) ∧ o.length ≤ 4 ∧ lo ≤ c ∧ c ≤ hi ∧ t = rl nm k o c
theorem IsRule.shape {ks : List Str} {lo hi : Int} {t : T} (h : IsRule ks lo hi t) : T.shape 39 t = true := by
  obtain ⟨nm, k, o, c, _, _, _, _, _, _, rfl⟩ := h
  show (T.shape 38 (.str nm) && (T.shape 38 (.str k) && (T.shape 38 (.tup (tS o)) && (T.shape 38 (.int c) && true)))) = true
  have : T.shape 38 (.tup (tS o)) = true := str_all (p := T.shape 37) (fun _ => rfl) o
  rw [this]; rfl
theorem all_str {ks : List Str} : ∀ {ys : List T}, (∀ y ∈ ys, ∃ k ∈ ks, y = .str k) → ∃ o, ys = tS o ∧ ∀ x ∈ o, x ∈ ks
  | [], _ => ⟨[], rfl, fun _ h => (nomatch h)⟩
  | y :: r, h => by
    obtain ⟨o, rfl, ho⟩ := all_str (ys := r) fun z hz => h z (List.mem_cons_of_mem _ hz)
    obtain ⟨k, hk, rfl⟩ := h y (List.mem_cons_self ..)
    exact ⟨k :: o, rfl, fun x hx => by
      rcases List.mem_cons.mp hx with rfl | hx
      · exact hk
      · exact ho x hx⟩
theorem eqv_flat {P : Pr} {F : Bool → Nat → List D → M D} {x y : T} (s : Sto) (h : x.flat = true) (h2 : y.flat = true) : ∃ d, cmpop P F .eq (.v x) (.v y) s = .ok d s ∧ isB d := ⟨_, c_eq s h h2, _, rfl⟩
theorem tupS_flat (o : List Str) : (T.tup (tS o)).flat = true := tup_flat (tS_shape o)
section
variable {a r : Sto} {ks : List Str} {w : Int}
theorem item_neg {ts : List T} (h : ts ≠ []) : ∃ t ∈ ts, ∀ s, item (.v (.lst ts)) (.v (.int (-1))) s = .ok (.v t) s := by
  have hp : 0 < ts.length := List.length_pos_iff.mpr h
  have hl : ts.length - 1 < ts.length := by omega
  refine ⟨ts[ts.length - 1], List.getElem_mem hl, fun s => ?_⟩
  show M.opt ((place (ts.map D.v).length (-1)).bind fun j => (ts.map D.v)[j]?) s = _
  unfold place
  rw [List.length_map, if_neg (by decide), if_pos (by omega)]
  show M.opt ((ts.map D.v)[((-1 : Int) + ts.length).toNat]?) s = _
  have e : ((-1 : Int) + ts.length).toNat = ts.length - 1 := by omega
  rw [e, List.getElem?_map, List.getElem?_eq_getElem hl]; rfl
abbrev En (a : Sto) (ks : List Str) (w : Int) (L : Nat) (o5 o6 o7 : Option D) : PV.Env := [some (.ref a.length), some (.v (.lst (tS ks))), some (.v .non), some (.v (.int w)), some (.ref L), o5, o6, o7, none, none, none]
abbrev dr1 : S := .for_ (.nm 5) (.it (.var 1)) [.ife (.or (.cmp .gt (.call false 6 [(.var 0), (.int 12)] [] []) (.int 0)) (.cmp .eq (.var 3) (.int 0))) [.ex (.tm false (.var 4) .append [(.tup [(false, (.var 5)), (false, (.tup []))])])] []]
abbrev dr2 : S := .for_ (.nm 6) (.rng [(.call false 6 [(.var 0), (.int 5)] [] [])]) [.asg (.pt (.nm 7)) (.bi false .tuple [(.comp false (.call false 7 [(.var 0), (.var 1)] [] []) [8] (.nm 8) (.rng [(.call false 6 [(.var 0), (.call false 7 [(.var 0), (.lst false [(false, (.int 4)), (false, (.int 4)), (false, (.int 5))])] [] [])] [] [])]) none)]), .ex (.tm false (.var 4) .append [(.tup [(false, (.call false 7 [(.var 0), (.var 1)] [] [])), (false, (.var 7))])])]
theorem int_cmp {n : Nat} {env : PV.Env} {r : Sto} {c1 c2 : C} {A B : D → Prop} {o : Cop} (ho : o = .gt ∨ o = .eq ∨ o = .lt ∨ o = .ge ∨ o = .le ∨ o = .ne) (h : ET n a r env c1 A) (h2 : ET n a r env c2 B) (k1 : ∀ d, A d → ∃ i, d = .v (.int i)) (k2 : ∀ d, B d → ∃ i, d = .v (.int i)) : ET n a r env (.cmp o c1 c2) isB :=
  .cmp h h2 fun x y s a1 b1 _ => by
    obtain ⟨i, rfl⟩ := k1 x a1
    obtain ⟨j, rfl⟩ := k2 y b1
    rcases ho with rfl | rfl | rfl | rfl | rfl | rfl
    · exact ⟨_, c_gt i j s, _, rfl⟩
    · exact ⟨_, c_eqi i j s, _, rfl⟩
    · exact ⟨_, c_lt i j s, _, rfl⟩
    · exact ⟨_, c_ge i j s, _, rfl⟩
    · exact ⟨_, c_le i j s, _, rfl⟩
    · exact ⟨_, c_nei i j s, _, rfl⟩
theorem pickC {n : Nat} {env : PV.Env} {r : Sto} {k : Int} (h : env[0]? = some (some (.ref a.length))) (h1 : 1 ≤ k) (h2 : k < 1000000) : ET (n + 1) a r env (.call false 6 [(.var 0), (.int k)] [] []) (isI 0 (k - 1)) :=
  .pick (.var h rfl) (.int ⟨k, rfl, h1, Int.le_refl _⟩) h2
theorem ints_of {d : D} {lo hi : Int} (h : isI lo hi d) : ∃ i, d = .v (.int i) := by
  obtain ⟨i, e, _⟩ := h
  exact ⟨i, e⟩
theorem bind1 {s : Sto} {i : Nat} {d : D} {env : PV.Env} (h : i < env.length) : bindP s (.nm i) d env = some (env.set i (some d)) := bind_nm h
theorem drL1 (n : Nat) {s : Sto} (t : TS a (RL r []) s) (k2 : ks.length ≤ 4) : ∃ (o5 : Option D) (fs : List T) (s' : Sto), (∀ rest, exSs P (PV.run P LM (n + 2)) (flOf P LM (n + 2)) (En a ks w (LX a r) none none none) (dr1 :: rest) s = exSs P (PV.run P LM (n + 2)) (flOf P LM (n + 2)) (En a ks w (LX a r) o5 none none) rest s') ∧ TS a (RL r fs) s' ∧ (∀ t ∈ fs, IsPair ks t) ∧ fs.length ≤ 4 := by
  obtain ⟨env', s', e, o5, fs, rfl, h1, h2, h3, _⟩ := forL_inv (g := .nm 5) (body := fun e s => exSs P (PV.run P LM (n + 2)) (flOf P LM (n + 2)) e [.ife (.or (.cmp .gt (.call false 6 [(.var 0), (.int 12)] [] []) (.int 0)) (.cmp .eq (.var 3) (.int 0))) [.ex (.tm false (.var 4) .append [(.tup [(false, (.var 5)), (false, (.tup []))])])] []] s)
    (fun xs env s => ∃ (o5 : Option D) (fs : List T), env = En a ks w (LX a r) o5 none none ∧ TS a (RL r fs) s ∧ (∀ t ∈ fs, IsPair ks t) ∧ fs.length + xs.length ≤ 4 ∧ ∀ x ∈ xs, ∃ k ∈ ks, x = .v (.str k))
    (fun x rr env s ⟨o5, fs, e1, h1, h2, h3, h4⟩ => by
      subst e1
      obtain ⟨k, hk, rfl⟩ := h4 x (List.mem_cons_self ..)
      refine ⟨En a ks w (LX a r) (some (.v (.str k))) none none, rfl, ?_⟩
      have cnd : ET (n + 2) a (RL r fs) (En a ks w (LX a r) (some (.v (.str k))) none none) (.or (.cmp .gt (.call false 6 [(.var 0), (.int 12)] [] []) (.int 0)) (.cmp .eq (.var 3) (.int 0))) isB :=
        .or (int_cmp (.inl rfl) (pickC rfl (by decide) (by decide)) (.int (Y := isI 0 0) ⟨0, rfl, by decide, by decide⟩) (fun _ h => ints_of h) (fun _ h => ints_of h)) (int_cmp (.inr (.inl rfl)) (.var (Y := isI w w) rfl ⟨w, rfl, Int.le_refl _, Int.le_refl _⟩) (.int (Y := isI 0 0) ⟨0, rfl, by decide, by decide⟩) (fun _ h => ints_of h) (fun _ h => ints_of h))
      obtain ⟨b, s1, e2, t1⟩ := tst_ok cnd h1
      cases b with
      | false =>
        exact ⟨_, s1, (ex_if_f e2).trans rfl, _, fs, rfl, t1, h2, by simp at h3; omega, fun y hy => h4 y (List.mem_cons_of_mem _ hy)⟩
      | true =>
        have val : ET (n + 2) a (RL r fs) (En a ks w (LX a r) (some (.v (.str k))) none none) (.tup [(false, (.var 5)), (false, (.tup []))]) (isV (IsPair ks)) :=
          .tup (.v (Z := fun t => t = .str k) (.var rfl ⟨_, rfl, rfl⟩) fun t1 z1 => .v (Z := fun t => t = .tup []) (.of (fun _ => rfl) ⟨_, rfl, rfl⟩) fun t2 z2 => .e (by subst z1 z2; exact ⟨_, rfl, k, [], hk, fun _ h => (nomatch h), by decide, rfl⟩)) rfl
        obtain ⟨y, s2, e3, t2, hy⟩ := app_ok (rest := []) (i := 4) rfl val (by simp at h3; omega) t1
        refine ⟨_, s2, (ex_if_t e2).trans (by rw [e3]; rfl), _, fs ++ [y], rfl, t2, fun u hu => ?_, by simp at h3 ⊢; omega, fun y hy => h4 y (List.mem_cons_of_mem _ hy)⟩
        rcases List.mem_append.mp hu with hu | hu
        · exact h2 u hu
        · rw [List.mem_singleton.mp hu]; exact hy)
    ((tS ks).map .v) _ _ ⟨none, [], rfl, t, fun _ h => (nomatch h), by simp; omega, fun x hx => by
      obtain ⟨t, ht, rfl⟩ := List.mem_map.mp hx
      obtain ⟨k, hk, rfl⟩ := mem_tS.mp ht
      exact ⟨k, hk, rfl⟩⟩
  exact ⟨o5, fs, s', fun rest => ex_for (walk_lst rfl) e, h1, h2, by simpa using h3⟩
theorem tuple_l (ts : List T) (s : Sto) : builtin false .tuple [.v (.lst ts)] s = .ok (.v (.tup ts)) s := by
  show biTuple (.v (.lst ts)) s = _
  show Res.ok (mkT (ts.map .v)) s = _
  rw [mkT_v]
theorem drL2 (n : Nat) {s : Sto} {o5 : Option D} {fs : List T} (t : TS a (RL r fs) s) (hf : ∀ t ∈ fs, IsPair ks t) (hl : fs.length ≤ 4) (k1 : ks ≠ []) (k2 : ks.length ≤ 4) : ∃ (o6 o7 : Option D) (fs' : List T) (s' : Sto), (∀ rest, exSs P (PV.run P LM (n + 2)) (flOf P LM (n + 2)) (En a ks w (LX a r) o5 none none) (dr2 :: rest) s = exSs P (PV.run P LM (n + 2)) (flOf P LM (n + 2)) (En a ks w (LX a r) o5 o6 o7) rest s') ∧ TS a (RL r fs') s' ∧ (∀ t ∈ fs', IsPair ks t) ∧ fs'.length ≤ 8 := by
  have hne : tS ks ≠ [] := by
    intro z
    have := congrArg List.length z
    rw [tS_len] at this
    exact k1 (List.length_eq_zero_iff.mp this)
  have oneK : ∀ {r : Sto} {env : PV.Env}, env[0]? = some (some (.ref a.length)) → env[1]? = some (some (.v (.lst (tS ks)))) → ET (n + 2) a r env (.call false 7 [(.var 0), (.var 1)] [] []) (isV fun t => ∃ k ∈ ks, t = .str k) := fun h0 h1 =>
    .one (.var h0 rfl) (.var h1 ⟨_, rfl, hne, by rw [tS_len]; omega, fun t ht => by
      obtain ⟨x, hx, rfl⟩ := mem_tS.mp ht
      exact ⟨x, hx, rfl⟩⟩)
  obtain ⟨ts, s1, e1, t1, _, hB⟩ := rng_ok (B := 4) (pickC (n := n + 1) (r := RL r fs) (env := En a ks w (LX a r) o5 none none) (k := 5) rfl (by decide) (by decide)) (by decide) s t
  obtain ⟨env', s', e, o6, o7, fs', rfl, h1, h2, h3⟩ := forL_inv (g := .nm 6) (body := fun e s => exSs P (PV.run P LM (n + 2)) (flOf P LM (n + 2)) e [.asg (.pt (.nm 7)) (.bi false .tuple [(.comp false (.call false 7 [(.var 0), (.var 1)] [] []) [8] (.nm 8) (.rng [(.call false 6 [(.var 0), (.call false 7 [(.var 0), (.lst false [(false, (.int 4)), (false, (.int 4)), (false, (.int 5))])] [] [])] [] [])]) none)]), .ex (.tm false (.var 4) .append [(.tup [(false, (.call false 7 [(.var 0), (.var 1)] [] [])), (false, (.var 7))])])] s)
    (fun xs env s => ∃ (o6 o7 : Option D) (fs : List T), env = En a ks w (LX a r) o5 o6 o7 ∧ TS a (RL r fs) s ∧ (∀ t ∈ fs, IsPair ks t) ∧ fs.length + xs.length ≤ 8)
    (fun x rr env s ⟨o6, o7, fs, e1, h1, h2, h3⟩ => by
      subst e1
      refine ⟨En a ks w (LX a r) o5 (some x) o7, rfl, ?_⟩
      have many : ET (n + 2) a (RL r fs) (En a ks w (LX a r) o5 (some x) o7) (.call false 6 [(.var 0), (.call false 7 [(.var 0), (.lst false [(false, (.int 4)), (false, (.int 4)), (false, (.int 5))])] [] [])] [] []) (isI 0 (4 : Nat)) :=
        (ET.pick (n := n + 1) (k := 5) (.var rfl rfl) ((ET.one (n := n) (Y := fun t => ∃ i : Int, t = .int i ∧ 1 ≤ i ∧ i ≤ 5) (.var rfl rfl) (.of (d := .v (.lst [.int 4, .int 4, .int 5])) (fun _ => rfl) ⟨_, rfl, by simp, by decide, fun t ht => by
          simp at ht
          rcases ht with rfl | rfl
          · exact ⟨4, rfl, by decide, by decide⟩
          · exact ⟨5, rfl, by decide, by decide⟩⟩)).imp fun d ⟨t, e, i, e2, h⟩ => ⟨i, by rw [e, e2], h⟩) (by decide)).imp fun d ⟨i, e, h⟩ => ⟨i, e, h.1, by omega⟩
      have outc : ET (n + 2) a (RL r fs) (En a ks w (LX a r) o5 (some x) o7) (.bi false .tuple [(.comp false (.call false 7 [(.var 0), (.var 1)] [] []) [8] (.nm 8) (.rng [(.call false 6 [(.var 0), (.call false 7 [(.var 0), (.lst false [(false, (.int 4)), (false, (.int 4)), (false, (.int 5))])] [] [])] [] [])]) none)]) fun d => ∃ o : List Str, d = .v (.tup (tS o)) ∧ (∀ x ∈ o, x ∈ ks) ∧ o.length ≤ 4 :=
        .bi (ET.comp (X := fun _ => True) (Y := fun t => ∃ k ∈ ks, t = .str k) (B := 4) (rng_ok many (by decide)) fun t s _ _ => ⟨_, bind1 (by simp [wipeE]), .inl rfl, oneK rfl rfl⟩) fun x s ⟨ys, e, hy, hl⟩ _ => by
          subst e
          obtain ⟨o, rfl, ho⟩ := all_str hy
          exact ⟨_, tuple_l _ s, o, rfl, ho, by simpa using hl⟩
      obtain ⟨d, s1, e2, t1, o, rfl, ho, hol⟩ := outc s h1
      have val : ET (n + 2) a (RL r fs) (En a ks w (LX a r) o5 (some x) (some (.v (.tup (tS o))))) (.tup [(false, (.call false 7 [(.var 0), (.var 1)] [] [])), (false, (.var 7))]) (isV (IsPair ks)) :=
        .tup (.v (oneK rfl rfl) fun t1 ⟨k, hk, z1⟩ => .v (Z := fun t => t = .tup (tS o)) (.var rfl ⟨_, rfl, rfl⟩) fun t2 z2 => .e (by subst z1 z2; exact ⟨_, rfl, k, o, hk, ho, hol, rfl⟩)) rfl
      obtain ⟨y, s2, e3, t2, hy⟩ := app_ok (rest := []) (i := 4) rfl val (by simp at h3; omega) t1
      refine ⟨_, s2, (ex_asg e2 (by simp)).trans (e3.trans rfl), _, _, fs ++ [y], rfl, t2, fun u hu => ?_, by simp at h3 ⊢; omega⟩
      rcases List.mem_append.mp hu with hu | hu
      · exact h2 u hu
      · rw [List.mem_singleton.mp hu]; exact hy)
    (ts.map .v) _ s1 ⟨none, none, fs, rfl, t1, hf, by simp; omega⟩
  exact ⟨o6, o7, fs', s', fun rest => ex_for e1 e, h1, h2, by simpa using h3⟩
abbrev dr3 : S := .ife (.and (.cmp .gt (.var 3) (.int 0)) (.cmp .gt (.bi false .len [(.var 1)]) (.int 1))) [.asg (.pt (.nm 4)) (.comp true (.ite (.and (.cmp .eq (.var 7) (.tup [])) (.and (.cmp .ne (.var 5) (.ix (.var 1) (.neg (.int 1)))) (.cmp .eq (.call false 6 [(.var 0), (.int 4)] [] []) (.int 0)))) (.tup [(false, (.var 5)), (false, (.tup [(false, (.ix (.var 1) (.neg (.int 1))))]))]) (.tup [(false, (.var 5)), (false, (.var 7))])) [5, 7] (.tp [(.nm 5), (.nm 7)]) (.it (.frz (.var 4))) none)] []
theorem ET.neg1 {n : Nat} {env : PV.Env} {r : Sto} {i : Nat} {ts : List T} {Y : T → Prop} (h : env[i]? = some (some (.v (.lst ts)))) (h0 : ts ≠ []) (hy : ∀ t ∈ ts, Y t) : ET n a r env (.ix (.var i) (.neg (.int 1))) (isV Y) := by
  obtain ⟨t, ht, e⟩ := item_neg h0
  refine .of (d := .v t) (fun s => ?_) ⟨t, rfl, hy t ht⟩
  refine (ev_ix (x := .v (.lst ts)) (y := .v (.int (-1))) (s1 := s) (s2 := s) ?_ rfl).trans (e s)
  show M.opt ((env[i]?).bind id) s = _
  rw [h]; rfl
theorem drL3 (n : Nat) {s : Sto} {o5 o6' o7' : Option D} {fs : List T} (t : TS a (RL r fs) s) (hf : ∀ t ∈ fs, IsPair ks t) (hl : fs.length ≤ 8) (k1 : ks ≠ []) : ∃ (r' : Sto) (o6 o7 : Option D) (fs' : List T) (s' : Sto), (∀ rest, exSs P (PV.run P LM (n + 2)) (flOf P LM (n + 2)) (En a ks w (LX a r) o5 o6' o7') (dr3 :: rest) s = exSs P (PV.run P LM (n + 2)) (flOf P LM (n + 2)) (En a ks w (LX a (r ++ r')) o5 o6 o7) rest s') ∧ TS a (RL (r ++ r') fs') s' ∧ Pl r' ∧ (∀ t ∈ fs', IsPair ks t) ∧ fs'.length ≤ 8 := by
  have hne : tS ks ≠ [] := by
    intro z
    have := congrArg List.length z
    rw [tS_len] at this
    exact k1 (List.length_eq_zero_iff.mp this)
  have lastK : ∀ {r : Sto} {env : PV.Env}, env[1]? = some (some (.v (.lst (tS ks)))) → ET (n + 2) a r env (.ix (.var 1) (.neg (.int 1))) (isV fun t => ∃ k ∈ ks, t = .str k) := fun h1 => .neg1 h1 hne fun t ht => by
    obtain ⟨x, hx, rfl⟩ := mem_tS.mp ht
    exact ⟨x, hx, rfl⟩
  have cnd : ET (n + 2) a (RL r fs) (En a ks w (LX a r) o5 o6' o7') (.and (.cmp .gt (.var 3) (.int 0)) (.cmp .gt (.bi false .len [(.var 1)]) (.int 1))) isB :=
    .and (int_cmp (.inl rfl) (.var (Y := isI w w) rfl ⟨w, rfl, Int.le_refl _, Int.le_refl _⟩) (.int (Y := isI 0 0) ⟨0, rfl, by decide, by decide⟩) (fun _ h => ints_of h) (fun _ h => ints_of h))
      (int_cmp (.inl rfl) (.bi (A := fun d => d = .v (.lst (tS ks))) (Y := fun d => ∃ i, d = .v (.int i)) (.var rfl rfl) fun x s e _ => by subst e; exact ⟨_, bi_len_l _ s _, _, rfl⟩) (.int (Y := isI 1 1) ⟨1, rfl, by decide, by decide⟩) (fun _ h => h) (fun _ h => ints_of h))
  obtain ⟨b, s1, e1, t1⟩ := tst_ok cnd t
  cases b with
  | false => exact ⟨[], o6', o7', fs, s1, fun rest => by rw [List.append_nil]; exact (ex_if_f e1).trans rfl, by rw [List.append_nil]; exact t1, rfl, hf, hl⟩
  | true =>
    obtain ⟨s2, e2, t2⟩ := frz_ok (n := n + 2) (env := En a ks w (LX a r) o5 o6' o7') (i := 4) rfl t1
    have elt : ∀ {k : Str} {o : List Str} {p6 : Option D}, k ∈ ks → (∀ x ∈ o, x ∈ ks) → o.length ≤ 4 → ET (n + 2) a (r ++ [none]) (En a ks w (LX a r) (some (.v (.str k))) p6 (some (.v (.tup (tS o))))) (.ite (.and (.cmp .eq (.var 7) (.tup [])) (.and (.cmp .ne (.var 5) (.ix (.var 1) (.neg (.int 1)))) (.cmp .eq (.call false 6 [(.var 0), (.int 4)] [] []) (.int 0)))) (.tup [(false, (.var 5)), (false, (.tup [(false, (.ix (.var 1) (.neg (.int 1))))]))]) (.tup [(false, (.var 5)), (false, (.var 7))])) (isV (IsPair ks)) := fun {k o p6} hk ho hol =>
      .ite (.and (.cmp (A := fun d => d = .v (.tup (tS o))) (B := fun d => d = .v (.tup [])) (.var rfl rfl) (.of (fun _ => rfl) rfl) fun x y s e1 e2 _ => by subst e1 e2; exact eqv_flat s (tupS_flat o) rfl)
          (.and (.cmp (A := fun d => d = .v (.str k)) (.var rfl rfl) (lastK rfl) fun x y s e1 ⟨t, e2, k2, _, e3⟩ _ => by subst e1 e2 e3; exact ⟨_, c_ne s rfl rfl, _, rfl⟩)
            (int_cmp (.inr (.inl rfl)) (pickC (n := n + 1) rfl (by decide) (by decide)) (.int (Y := isI 0 0) ⟨0, rfl, by decide, by decide⟩) (fun _ h => ints_of h) (fun _ h => ints_of h))))
        (.tup (.v (Z := fun t => t = .str k) (.var rfl ⟨_, rfl, rfl⟩) fun t1 z1 => .v (Z := fun t => ∃ k2 ∈ ks, t = .tup (tS [k2])) (.tup (.v (lastK rfl) fun t2 ⟨k2, h2, z2⟩ => .e (by subst z2; exact ⟨_, rfl, k2, h2, rfl⟩)) rfl) fun t2 ⟨k2, h2, z2⟩ => .e (by subst z1 z2; exact ⟨_, rfl, k, [k2], hk, fun x hx => by rw [List.mem_singleton.mp hx]; exact h2, by simp, rfl⟩)) rfl)
        (.tup (.v (Z := fun t => t = .str k) (.var rfl ⟨_, rfl, rfl⟩) fun t1 z1 => .v (Z := fun t => t = .tup (tS o)) (.var rfl ⟨_, rfl, rfl⟩) fun t2 z2 => .e (by subst z1 z2; exact ⟨_, rfl, k, o, hk, ho, hol, rfl⟩)) rfl)
    have iw : evi P (PV.run P LM (n + 2)) (flOf P LM (n + 2)) (En a ks w (LX a r) o5 o6' o7') (.it (.frz (.var 4))) s1 = .ok (fs.map .v) s2 := walk_lst e2
    obtain ⟨ys, s3, e3, t3, h4, h5⟩ := compS (n := n + 2) (a := a) (r := r ++ [none]) (m := true) (own := [5, 7]) (g := .tp [.nm 5, .nm 7]) (cond := none) (B := 8) (X := IsPair ks) (Y := IsPair ks) iw t2 hf hl
      (e := .ite (.and (.cmp .eq (.var 7) (.tup [])) (.and (.cmp .ne (.var 5) (.ix (.var 1) (.neg (.int 1)))) (.cmp .eq (.call false 6 [(.var 0), (.int 4)] [] []) (.int 0)))) (.tup [(false, (.var 5)), (false, (.tup [(false, (.ix (.var 1) (.neg (.int 1))))]))]) (.tup [(false, (.var 5)), (false, (.var 7))]))
      (fun x s ⟨k, o, hk, ho, hol, e⟩ _ => by subst e; exact ⟨_, rfl, .inl rfl, elt hk ho hol⟩)
    rw [mkL_t] at e3
    refine ⟨[none], o6', o7', ys, s3 ++ [some (.lst (ys.map .v))], fun rest => ?_, t3.more, rfl, h4, h5⟩
    have h6 := t3.flen
    rw [h6] at e3
    exact (ex_if_t e1).trans (by rw [ex_asg e3 (by simp)]; rfl)
theorem drawn_rules (n : Nat) {s : Sto} (t : TS a r s) (pa : Pl a) (prr : Pl r) (k1 : ks ≠ []) (k2 : ks.length ≤ 4) : ∃ us s', PV.run P LM (n + 3) false 11 [.ref a.length, .v (.lst (tS ks)), .v .non, .v (.int w)] s = .ok (.v (.lst us)) s' ∧ TS a r s' ∧ us.length ≤ 8 ∧ ∀ u ∈ us, IsRule ks 0 0 u := by
  have q0 : TS a (RL r []) (s ++ [some (.lst [])]) := t.more
  obtain ⟨o5, f1, s1, g1, t1, h1, l1⟩ := drL1 (w := w) n q0 k2
  obtain ⟨o6, o7, f2, s2, g2, t2, h2, l2⟩ := drL2 (w := w) (o5 := o5) n t1 h1 l1 k1 k2
  obtain ⟨r', o6', o7', f3, s3, g3, t3, pl', h3, l3⟩ := drL3 (w := w) (o5 := o5) (o6' := o6) (o7' := o7) n t2 h2 l2 k1
  obtain ⟨s4, e4, t4⟩ := frz_ok (n := n + 2) (env := En a ks w (LX a (r ++ r')) o5 o6' o7') (i := 4) rfl t3
  have iw : evi P (PV.run P LM (n + 2)) (flOf P LM (n + 2)) (En a ks w (LX a (r ++ r')) o5 o6' o7') (.enum (.frz (.var 4))) s3 = .ok ((enumT 0 f3).map .v) s4 := by
    show ((ev P (PV.run P LM (n + 2)) (flOf P LM (n + 2)) (En a ks w (LX a (r ++ r')) o5 o6' o7') (.frz (.var 4)) s3).bind fun x => (M.opt (walked2 x)).bind fun xs => M.ret (enumD 0 xs)) = _
    rw [e4]
    show Res.ok (enumD 0 (f3.map .v)) s4 = _
    rw [enumD_v]
  obtain ⟨ys, s5, e5, t5, h5, l5⟩ := compS (n := n + 2) (a := a) (r := r ++ r' ++ [none]) (m := false) (own := [9, 10]) (g := .tp [.nm 9, .nm 10]) (cond := none) (B := 8) (X := fun x => ∃ (j : Nat) (k : Str) (o : List Str), x = .tup [.int j, pr k o] ∧ j < 8 ∧ k ∈ ks ∧ (∀ x ∈ o, x ∈ ks) ∧ o.length ≤ 4) (Y := IsRule ks 0 0) iw t4
    (fun x hx => by
      obtain ⟨j, u, e, hu, _, hj⟩ := enumT_mem 0 f3 x hx
      obtain ⟨k, o, hk, ho, hol, e2⟩ := h3 u hu
      exact ⟨j, k, o, by rw [e, e2], by omega, hk, ho, hol⟩) (by rw [enumT_len]; exact l3)
    (e := .tup [(false, (.ix (.str "abcdefghijklmnop") (.var 9))), (false, (.ix (.var 10) (.int 0))), (false, (.ix (.var 10) (.int 1))), (false, (.int 0))])
    (fun x s ⟨j, k, o, e, hj, hk, ho, hol⟩ _ => by
      subst e
      refine ⟨_, rfl, .inl rfl, .tup (.v (Z := fun t => ∃ x ∈ letters, t = .str x) ?_ fun t1 ⟨x, hx, z1⟩ => .v (Z := fun t => t = .str k) (.ix (A := fun d => d = .v (pr k o)) (B := fun d => d = .v (.int 0)) (.var rfl rfl) (.of (fun _ => rfl) rfl) fun x y s e1 e2 _ => by subst e1 e2; exact ⟨_, rfl, _, rfl, rfl⟩) fun t2 z2 => .v (Z := fun t => t = .tup (tS o)) (.ix (A := fun d => d = .v (pr k o)) (B := fun d => d = .v (.int 1)) (.var rfl rfl) (.of (fun _ => rfl) rfl) fun x y s e1 e2 _ => by subst e1 e2; exact ⟨_, rfl, _, rfl, rfl⟩) fun t3 z3 => .v (Z := fun t => t = .int 0) (.int ⟨_, rfl, rfl⟩) fun t4 z4 => .e (by subst z1 z2 z3 z4; exact ⟨_, rfl, x, k, o, 0, hx, hk, ho, hol, by decide, by decide, rfl⟩)) rfl⟩
      refine .ix (A := fun d => d = .v (.str "abcdefghijklmnop")) (B := fun d => d = .v (.int j)) (.str rfl) (.var rfl rfl) fun x y s e1 e2 _ => ?_
      subst e1 e2
      obtain ⟨x, hx, e⟩ := letter_at (j : Int) (by omega) (by omega)
      exact ⟨_, e s, _, rfl, x, hx, rfl⟩)
  rw [mkL_f] at e5
  have pl6 : Pl (r ++ r' ++ [none]) := Pl.app.mpr ⟨Pl.app.mpr ⟨prr, pl'⟩, rfl⟩
  obtain ⟨us, s6, e6, t6, l6, h6⟩ := shuffled n t5 pa pl6 (fun t ht => (h5 t ht).shape) (by omega)
  rw [List.append_assoc] at t6
  obtain ⟨s7, rfl, t7⟩ := t6.less
  refine ⟨us, s7, ?_, t7, by omega, fun u hu => h5 u (h6 u hu)⟩
  rw [run_eq (d := f_law_drawn_rules) rfl rfl]
  unfold f_law_drawn_rules b_law_drawn_rules
  have a0 : ∀ rest, exSs P (PV.run P LM (n + 2)) (flOf P LM (n + 2)) [some (.ref a.length), some (.v (.lst (tS ks))), some (.v .non), some (.v (.int w)), none, none, none, none, none, none, none] (.asg (.pt (.nm 4)) (.lst true []) :: rest) s = exSs P (PV.run P LM (n + 2)) (flOf P LM (n + 2)) (En a ks w (LX a r) none none none) rest (s ++ [some (.lst [])]) := fun rest => by
    rw [← t.flen]
    exact ex_asg (x := .ref s.length) rfl (by simp)
  have ev8 : ev P (PV.run P LM (n + 2)) (flOf P LM (n + 2)) (En a ks w (LX a (r ++ r')) o5 o6' o7') (.call false 8 [(.var 0), (.comp false (.tup [(false, (.ix (.str "abcdefghijklmnop") (.var 9))), (false, (.ix (.var 10) (.int 0))), (false, (.ix (.var 10) (.int 1))), (false, (.int 0))]) [9, 10] (.tp [(.nm 9), (.nm 10)]) (.enum (.frz (.var 4))) none)] [] []) s3 = .ok (.v (.lst us)) (s7 ++ (r' ++ [none])) := (ev_call2 (x := .ref a.length) (s1 := s3) rfl e5).trans e6
  refine (congrArg (finR false false s.length) ((a0 _).trans ((g1 _).trans ((g2 _).trans ((g3 _).trans (ex_ret ev8)))))).trans ?_
  exact fin_cut (t.len t7) (t7.pl pa prr)
end
end K03
end
section
set_option Elab.async false
set_option linter.all false
set_option maxRecDepth 1000000
set_option maxHeartbeats 2000000
/-! E10: a plan drawn: its parts. -/
namespace K03
open PySem PV
/-! ### slices -/
theorem cut_map {α β : Type} (f : α → β) (xs : List α) (lo hi : Option Int) : cut (xs.map f) lo hi = (cut xs lo hi).map f := by
  unfold cut
  rw [List.length_map, ← List.map_drop, ← List.map_take]
theorem slice_l (ts : List T) (lo hi : Option Int) (s : Sto) : slice false (.v (.lst ts)) lo hi s = .ok (.v (.lst (cut ts lo hi))) s := by
  show mkL false (cut (ts.map D.v) lo hi) s = _
  rw [cut_map, mkL_f]
theorem slice_t (ts : List T) (lo hi : Option Int) (s : Sto) : slice false (.v (.tup ts)) lo hi s = .ok (.v (.tup (cut ts lo hi))) s := by
  show Res.ok (mkT (cut (ts.map D.v) lo hi)) s = _
  rw [cut_map, mkT_v]
theorem cut_mem {α : Type} {xs : List α} {lo hi : Option Int} {x : α} (h : x ∈ cut xs lo hi) : x ∈ xs := List.mem_of_mem_drop (List.mem_of_mem_take h)
theorem cut_to {α : Type} {xs : List α} {k : Int} (h : 0 ≤ k) : (cut xs none (some k)).length = min k.toNat xs.length := by
  unfold cut cutIx
  dsimp only
  rw [if_neg (by omega)]
  simp
theorem cut_le {α : Type} {xs : List α} {lo hi : Option Int} : (cut xs lo hi).length ≤ xs.length := by
  unfold cut
  rw [List.length_take, List.length_drop]; omega
/-! ### a dict of worths -/
theorem kget_map (k : T) : ∀ kvs : List (T × T), kget (kvs.map fun p => (p.1, D.v p.2)) k = (kget kvs k).map .v
  | [] => rfl
  | (j, x) :: r => by
    show (match T.keq j k with | true => some (D.v x) | false => kget (r.map fun p : T × T => (p.1, D.v p.2)) k) = _
    rw [kget_map k r]
    show _ = (match T.keq j k with | true => some x | false => kget r k).map D.v
    cases T.keq j k <;> rfl
theorem item_d {kvs : List (T × T)} {k x : T} (h : kget kvs k = some x) (hk : kfit false k = true) (s : Sto) : item (.v (.dct false kvs)) (.v k) s = .ok (.v x) s := by
  show (guardM (kfit false k) s).bind (fun _ => M.opt (kget (kvs.map fun p => (p.1, D.v p.2)) k)) = _
  rw [hk, kget_map, h]; rfl
theorem keq_str (x y : Str) : T.keq (.str x) (.str y) = decide (x = y) := rfl
section
variable {α : Type}
theorem kget_set {k : Str} {x : α} : ∀ (kvs : List (T × α)), (∀ p ∈ kvs, ∃ y, p.1 = .str y) → kget (kset (.str k) x kvs) (.str k) = some x ∧ (∀ j : Str, j ≠ k → kget (kset (.str k) x kvs) (.str j) = kget kvs (.str j)) ∧ ∀ p ∈ kset (.str k) x kvs, ∃ y, p.1 = .str y := by
  intro kvs hs
  have mapc : ∀ l : List (T × α), (∀ p ∈ l, ∃ y, p.1 = .str y) → (∀ j : Str, j ≠ k → kget (l.map fun p => match T.keq p.1 (.str k) with | true => (p.1, x) | false => p) (.str j) = kget l (.str j)) ∧ ((l.any fun p => T.keq p.1 (.str k)) = true → kget (l.map fun p => match T.keq p.1 (.str k) with | true => (p.1, x) | false => p) (.str k) = some x) ∧ ∀ p ∈ (l.map fun p => match T.keq p.1 (.str k) with | true => (p.1, x) | false => p), ∃ y, p.1 = .str y := by
    intro l
    induction l with
    | nil => exact fun _ => ⟨fun _ _ => rfl, (fun h => by cases h), fun _ h => (nomatch h)⟩
    | cons q r ih =>
      intro h
      obtain ⟨y, hy⟩ := h q (List.mem_cons_self ..)
      obtain ⟨q1, q2⟩ := q
      obtain rfl : q1 = .str y := hy
      obtain ⟨i1, i2, i3⟩ := ih fun p hp => h p (List.mem_cons_of_mem _ hp)
      rw [List.map_cons]
      dsimp only
      rw [keq_str]
      by_cases e : y = k
      · subst e
        rw [decide_eq_true rfl]
        refine ⟨fun j hj => ?_, fun _ => ?_, fun p hp => ?_⟩
        · have : decide (y = j) = false := decide_eq_false fun z => hj z.symm
          show (match T.keq (.str y) (.str j) with | true => some x | false => kget _ _) = (match T.keq (.str y) (.str j) with | true => some q2 | false => kget r _)
          rw [keq_str, this]
          exact i1 j hj
        · show (match T.keq (.str y) (.str y) with | true => some x | false => kget _ _) = _
          rw [keq_str, decide_eq_true rfl]
        · rcases List.mem_cons.mp hp with rfl | hp
          · exact ⟨y, rfl⟩
          · exact i3 p hp
      · rw [decide_eq_false e]
        refine ⟨fun j hj => ?_, fun ha => ?_, fun p hp => ?_⟩
        · show (match T.keq (.str y) (.str j) with | true => some q2 | false => kget _ _) = (match T.keq (.str y) (.str j) with | true => some q2 | false => kget r _)
          rw [i1 j hj]
        · show (match T.keq (.str y) (.str k) with | true => some q2 | false => kget _ _) = _
          rw [keq_str, decide_eq_false e]
          refine i2 ?_
          rw [List.any_cons, keq_str, decide_eq_false e] at ha
          simpa using ha
        · rcases List.mem_cons.mp hp with rfl | hp
          · exact ⟨y, rfl⟩
          · exact i3 p hp
  obtain ⟨m1, m2, m3⟩ := mapc kvs hs
  unfold kset
  cases c : kvs.any fun p => T.keq p.1 (.str k) with
  | true => exact ⟨m2 c, m1, m3⟩
  | false =>
    have app : ∀ (l : List (T × α)) (j : T), kget (l ++ [(.str k, x)]) j = match kget l j with | some y => some y | none => kget [(.str k, x)] j := by
      intro l j
      induction l with
      | nil => rfl
      | cons q r ih =>
        show (match T.keq q.1 j with | true => some q.2 | false => kget (r ++ [(.str k, x)]) j) = (match (match T.keq q.1 j with | true => some q.2 | false => kget r j) with | some y => some y | none => kget [(.str k, x)] j)
        cases T.keq q.1 j with
        | true => rfl
        | false => exact ih
    have none_ : ∀ (l : List (T × α)), (l.any fun p => T.keq p.1 (.str k)) = false → kget l (.str k) = none := by
      intro l
      induction l with
      | nil => exact fun _ => rfl
      | cons q r ih =>
        intro h
        rw [List.any_cons, Bool.or_eq_false_iff] at h
        show (match T.keq q.1 (.str k) with | true => some q.2 | false => kget r (.str k)) = none
        rw [h.1]
        exact ih h.2
    dsimp only
    refine ⟨?_, fun j hj => ?_, fun p hp => ?_⟩
    · rw [app, none_ kvs c]
      show (match T.keq (.str k) (.str k) with | true => some x | false => kget [] (.str k)) = _
      rw [keq_str, decide_eq_true rfl]
    · rw [app]
      cases q : kget kvs (.str j) with
      | some y => rfl
      | none =>
        show (match T.keq (.str k) (.str j) with | true => some x | false => kget [] (.str j)) = none
        rw [keq_str, decide_eq_false fun z => hj z.symm]; rfl
    · rcases List.mem_append.mp hp with hp | hp
      · exact hs p hp
      · rw [List.mem_singleton.mp hp]; exact ⟨k, rfl⟩
/-- pairs put: the last word counts, all words are good -/
theorem kputs_ok {W : α → Prop} : ∀ (ps : List (Str × α)) (kvs : List (T × α)), (∀ p ∈ kvs, ∃ y, p.1 = .str y) → (∀ p ∈ ps, W p.2) → ∃ qs, kputs false kvs (ps.map fun p => (T.str p.1, p.2)) = some qs ∧ (∀ k : Str, (∃ x, kget kvs (.str k) = some x ∧ W x) ∨ k ∈ ps.map (·.1) → ∃ x, kget qs (.str k) = some x ∧ W x)
  | [], kvs, _, _ => ⟨kvs, rfl, fun k h => h.elim id fun z => (nomatch z)⟩
  | (k, x) :: r, kvs, h1, h2 => by
    obtain ⟨g1, g2, g3⟩ := kget_set (k := k) (x := x) kvs h1
    obtain ⟨qs, e, h⟩ := kputs_ok r (kset (.str k) x kvs) g3 fun p hp => h2 p (List.mem_cons_of_mem _ hp)
    refine ⟨qs, e, fun j hj => h j ?_⟩
    by_cases q : j = k
    · subst q
      exact .inl ⟨x, g1, h2 _ (List.mem_cons_self ..)⟩
    · rcases hj with ⟨y, e1, e2⟩ | hj
      · exact .inl ⟨y, by rw [g2 j q]; exact e1, e2⟩
      · rcases List.mem_cons.mp hj with hj | hj
        · exact absurd hj q
        · exact .inr hj
end
def WD (ks : List Str) (lo hi : Int) (d : D) : Prop := ∃ kvs : List (T × T), d = .v (.dct false kvs) ∧ ∀ k ∈ ks, ∃ i, kget kvs (.str k) = some (.int i) ∧ lo ≤ i ∧ i ≤ hi
theorem pairs_v : ∀ ps : List (Str × T), asPairs1 ((ps.map fun p => T.tup [.str p.1, p.2]).map D.v) = some (ps.map fun p => (T.str p.1, D.v p.2))
  | [] => rfl
  | (k, x) :: r => by
    show (asPairs1 ((r.map fun p => T.tup [.str p.1, p.2]).map D.v)).map (fun ps => (T.str k, D.v x) :: ps) = _
    rw [pairs_v r]; rfl
theorem allV_v : ∀ qs : List (T × T), allV (qs.map fun p => (p.1, D.v p.2)) = some qs
  | [] => rfl
  | (k, x) :: r => by
    show (((k, D.v x) :: r.map fun p => (p.1, D.v p.2)).mapM _) = _
    rw [List.mapM_cons]
    have := allV_v r
    unfold allV at this
    rw [this]; rfl
theorem kset_v (k x : T) (qs : List (T × T)) : kset k (D.v x) (qs.map fun p => (p.1, D.v p.2)) = (kset k x qs).map fun p => (p.1, D.v p.2) := by
  unfold kset
  rw [List.any_map]
  show (match qs.any fun p => T.keq p.1 k with | true => _ | false => _) = _
  cases qs.any fun p => T.keq p.1 k with
  | true =>
    dsimp only
    rw [List.map_map, List.map_map]
    apply List.map_congr_left
    intro p _
    show (match T.keq p.1 k with | true => (p.1, D.v x) | false => (p.1, D.v p.2)) = ((match T.keq p.1 k with | true => (p.1, x) | false => p).1, D.v (match T.keq p.1 k with | true => (p.1, x) | false => p).2)
    cases T.keq p.1 k <;> rfl
  | false => simp
theorem kputs_v (tk : Bool) : ∀ (more kvs : List (T × T)), kputs tk (kvs.map fun p => (p.1, D.v p.2)) (more.map fun p => (p.1, D.v p.2)) = (kputs tk kvs more).map fun qs => qs.map fun p => (p.1, D.v p.2)
  | [], kvs => rfl
  | (k, x) :: r, kvs => by
    show (kput tk (kvs.map fun p => (p.1, D.v p.2)) k (D.v x)).bind (fun m => kputs tk m (r.map fun p => (p.1, D.v p.2))) = ((kput tk kvs k x).bind fun m => kputs tk m r).map _
    unfold kput
    cases kfit tk k with
    | true =>
      dsimp only [Option.bind_some]
      rw [kset_v, kputs_v tk r]
    | false => rfl
theorem dict_ok {ks : List Str} {lo hi : Int} {ps : List (Str × T)} (h1 : ∀ k ∈ ks, k ∈ ps.map (·.1)) (h2 : ∀ p ∈ ps, ∃ i, p.2 = .int i ∧ lo ≤ i ∧ i ≤ hi) (s : Sto) : ∃ d, builtin false .dict [.v (.lst (ps.map fun p => T.tup [.str p.1, p.2]))] s = .ok d s ∧ WD ks lo hi d := by
  obtain ⟨qs, e, hq⟩ := kputs_ok (W := fun t : T => ∃ i, t = .int i ∧ lo ≤ i ∧ i ≤ hi) ps [] (fun _ h => (nomatch h)) h2
  refine ⟨.v (.dct false qs), ?_, qs, rfl, fun k hk => ?_⟩
  · show dictOf false (.v (.lst (ps.map fun p => T.tup [.str p.1, p.2]))) s = _
    show (match (asPairs1 ((ps.map fun p => T.tup [.str p.1, p.2]).map D.v)) with
      | some kvs => (M.opt (kputs false [] kvs) s).bind fun kvs => mkK false false kvs
      | none => .bad) = _
    rw [pairs_v]
    dsimp only
    have z := kputs_v false (ps.map fun p => (T.str p.1, p.2)) []
    rw [List.map_map] at z
    have z : kputs false [] (ps.map fun p => (T.str p.1, D.v p.2)) = _ := z
    rw [z, e]
    show mkK false false (qs.map fun p => (p.1, D.v p.2)) s = _
    unfold mkK
    dsimp only
    rw [allV_v]
  · obtain ⟨x, e1, i, rfl, h⟩ := hq k (.inr (h1 k hk))
    exact ⟨i, e1, h⟩
/-! ### sums -/
theorem sum_ok {ys : List T} {B : Nat} (h : ∀ y ∈ ys, ∃ i : Int, y = .int i ∧ -1 ≤ i ∧ i ≤ 4) (hl : ys.length ≤ B) (s : Sto) : ∃ d, builtin false .sum [.v (.lst ys)] s = .ok d s ∧ isI (-B) (4 * B) d := by
  have key : ∃ is, ys.mapM asInt = some is ∧ -(ys.length : Int) ≤ sumI is ∧ sumI is ≤ 4 * ys.length := by
    clear hl
    induction ys with
    | nil => exact ⟨[], rfl, by decide, by decide⟩
    | cons y r ih =>
      obtain ⟨is, e, h1, h2⟩ := ih fun z hz => h z (List.mem_cons_of_mem _ hz)
      obtain ⟨i, rfl, i1, i2⟩ := h y (List.mem_cons_self ..)
      refine ⟨i :: is, by rw [List.mapM_cons, e]; rfl, ?_, ?_⟩
      · show _ ≤ i + sumI is
        simp only [List.length_cons]; omega
      · show i + sumI is ≤ _
        simp only [List.length_cons]; omega
  obtain ⟨is, e, h1, h2⟩ := key
  refine ⟨_, ?_, sumI is, rfl, by omega, by omega⟩
  show biSum (.v (.lst ys)) s = _
  unfold biSum intsOf
  show (match (allD (ys.map D.v)).bind (fun ts => ts.mapM asInt) with | some is => _ | none => _) = _
  rw [allD_map]
  show (match ys.mapM asInt with | some is => _ | none => _) = _
  rw [e]
end K03
end
section
set_option Elab.async false
set_option linter.all false
set_option maxRecDepth 1000000
set_option maxHeartbeats 2000000
/-! E11: a plan drawn. -/
namespace K03
open PySem PV
section
variable {n : Nat} {a r : Sto} {env : PV.Env} {c c1 c2 c3 c4 : C} {Y A : D → Prop}
theorem asgT {i : Nat} (h : ET n a r env c Y) (hi : i < env.length) {s : Sto} (t : TS a r s) : ∃ d s', (∀ rest, exSs P (PV.run P LM n) (flOf P LM n) env (.asg (.pt (.nm i)) c :: rest) s = exSs P (PV.run P LM n) (flOf P LM n) (env.set i (some d)) rest s') ∧ TS a r s' ∧ Y d := by
  obtain ⟨d, s', e, t', y⟩ := h s t
  exact ⟨d, s', fun rest => ex_asg e hi, t', y⟩
theorem ET.sl1 {A : List T → Prop} {lo hi : Int} (h : ET n a r env c1 fun d => ∃ ts, d = .v (.lst ts) ∧ A ts) (h2 : ET n a r env c2 (isI lo hi)) : ET n a r env (.sl false c1 none (some c2)) fun d => ∃ ts i, d = .v (.lst (cut ts none (some i))) ∧ A ts ∧ lo ≤ i ∧ i ≤ hi := fun s t => by
  obtain ⟨d1, s1, e1, t1, ts, rfl, y1⟩ := h s t
  obtain ⟨d2, s2, e2, t2, i, rfl, i0, i1⟩ := h2 s1 t1
  refine ⟨_, s2, ?_, t2, ts, i, rfl, y1, i0, i1⟩
  show ((ev P (PV.run P LM n) (flOf P LM n) env c1 s).bind fun x => (M.ret none).bind fun l => ((ev P (PV.run P LM n) (flOf P LM n) env c2).bind fun x => (M.opt (asI x)).bind fun i => M.ret (some i)).bind fun h => slice false x l h) = _
  rw [e1]
  show (((ev P (PV.run P LM n) (flOf P LM n) env c2 s1).bind fun x => (M.opt (asI x)).bind fun i => M.ret (some i)).bind fun h => slice false (.v (.lst ts)) none h) = _
  rw [e2]
  exact slice_l ts none (some i) s2
theorem ET.shuf {A : List T → Prop} (pa : Pl a) (pr' : Pl r) (h : ET (n + 2) a r env c1 (· = .ref a.length)) (h2 : ET (n + 2) a r env c2 fun d => ∃ ts, d = .v (.lst ts) ∧ (∀ t ∈ ts, T.shape 39 t = true) ∧ ts.length < 150 ∧ A ts) : ET (n + 2) a r env (.call false 8 [c1, c2] [] []) fun d => ∃ us, d = .v (.lst us) ∧ ∃ ts, A ts ∧ us.length = ts.length ∧ ∀ u ∈ us, u ∈ ts := fun s t => by
  obtain ⟨d1, s1, e1, t1, rfl⟩ := h s t
  obtain ⟨d2, s2, e2, t2, ts, rfl, i0, i1, i2⟩ := h2 s1 t1
  obtain ⟨us, s3, e3, t3, h3, h4⟩ := shuffled n t2 pa pr' i0 i1
  exact ⟨_, s3, (ev_call2 e1 e2).trans e3, t3, us, rfl, ts, i2, h3, h4⟩
theorem ev_call4 {F : Bool → Nat → List D → M D} {FL : Nat → PV.Env → M D} {zz : Bool} {f : Nat} {s s1 s2 s3 s4 : Sto} {w x y z : D} (h : ev P F FL env c1 s = .ok w s1) (h2 : ev P F FL env c2 s1 = .ok x s2) (h3 : ev P F FL env c3 s2 = .ok y s3) (h4 : ev P F FL env c4 s3 = .ok z s4) : ev P F FL env (.call zz f [c1, c2, c3, c4] [] []) s = F zz f [w, x, y, z] s4 := by
  simp only [ev, evs, M.bind, h, h2, h3, h4, bind_ok_, mret_ap]
  rfl
/-- a list's length is told -/
theorem ET.lenl {m : Bool} {A : List T → Prop} (h : ET n a r env c fun d => ∃ ts, d = .v (.lst ts) ∧ A ts) : ET n a r env (.bi m .len [c]) fun d => ∃ ts : List T, d = .v (.int ts.length) ∧ A ts :=
  .bi h fun x s ⟨ts, e, ha⟩ _ => by subst e; exact ⟨_, bi_len_l ts s m, ts, rfl, ha⟩
end
def base6 : List Str := ["h", "g", "l", "m", "letterbx", "x"]
section
variable {a r : Sto} {ks : List Str}
theorem kinds_ne (h : ks ≠ []) : tS ks ≠ [] := by
  intro z
  have := congrArg List.length z
  rw [tS_len] at this
  exact h (List.length_eq_zero_iff.mp this)
/-- a kind out of kinds -/
theorem ET.kind {n i : Nat} {env : PV.Env} {r : Sto} (h0 : env[0]? = some (some (.ref a.length))) (h1 : env[i]? = some (some (.v (.lst (tS ks))))) (k1 : ks ≠ []) (k2 : ks.length < 1000) : ET (n + 2) a r env (.call false 7 [(.var 0), (.var i)] [] []) (isV fun t => ∃ k ∈ ks, t = .str k) :=
  .one (.var h0 rfl) (.var h1 ⟨_, rfl, kinds_ne k1, by rw [tS_len]; omega, fun t ht => by
    obtain ⟨x, hx, rfl⟩ := mem_tS.mp ht
    exact ⟨x, hx, rfl⟩⟩)
/-- worths of kinds -/
theorem ET.worth {n i : Nat} {env : PV.Env} {r : Sto} {lo hi : Int} {e : C} (h1 : env[i]? = some (some (.v (.lst (tS ks))))) (hi4 : 4 < env.length) (k2 : ks.length ≤ 4)
    (he : ∀ k ∈ ks, ET n a r ((env.set 4 none).set 4 (some (.v (.str k)))) e (isI lo hi)) : ET n a r env (.bi false .dict [(.comp false (.tup [(false, (.var 4)), (false, e)]) [4] (.nm 4) (.it (.var i)) none)]) (WD ks lo hi) := fun s t => by
  have item_ : ∀ k ∈ ks, ∀ s, TS a r s → ∃ (j : Int) (s' : Sto), ev P (PV.run P LM n) (flOf P LM n) ((env.set 4 none).set 4 (some (.v (.str k)))) (.tup [(false, (.var 4)), (false, e)]) s = .ok (.v (.tup [.str k, .int j])) s' ∧ TS a r s' ∧ lo ≤ j ∧ j ≤ hi := fun k hk s t => by
    obtain ⟨d, s', e1, t', j, rfl, j0, j1⟩ := he k hk s t
    refine ⟨j, s', ?_, t', j0, j1⟩
    have hv : ((env.set 4 none).set 4 (some (D.v (.str k))))[4]? = some (some (.v (.str k))) := List.getElem?_set_self (by simpa using hi4)
    simp only [ev, evst, M.bind, hv, Option.bind_some, id, mopt_some, bind_ok_, e1, mret_ap, fewS, List.any_cons, List.any_nil, Bool.or_false, Bool.not_false, Bool.true_or, guard_t]
    rfl
  have go : ∀ (ls : List Str), (∀ k ∈ ls, k ∈ ks) → ∀ (acc : List D) (s : Sto), TS a r s → ∃ (ps : List (Str × T)) (s' : Sto), turns (.nm 4) (wipeE env [4]) (fun en => evc P (PV.run P LM n) (flOf P LM n) en none) (fun en => ev P (PV.run P LM n) (flOf P LM n) en (.tup [(false, (.var 4)), (false, e)])) ((tS ls).map .v) acc s = .ok (acc ++ (ps.map fun p => T.tup [.str p.1, p.2]).map .v) s' ∧ TS a r s' ∧ ps.map (·.1) = ls ∧ ∀ p ∈ ps, ∃ j, p.2 = .int j ∧ lo ≤ j ∧ j ≤ hi := by
    intro ls
    induction ls with
    | nil => exact fun _ acc s t => ⟨[], s, by simp [tS, turns], t, rfl, fun _ h => (nomatch h)⟩
    | cons k q ih =>
      intro hl acc s t
      obtain ⟨j, s1, e1, t1, j0, j1⟩ := item_ k (hl k (List.mem_cons_self ..)) s t
      obtain ⟨ps, s2, e2, t2, h1, h2⟩ := ih (fun k hk => hl k (List.mem_cons_of_mem _ hk)) (acc ++ [.v (.tup [.str k, .int j])]) s1 t1
      refine ⟨(k, .int j) :: ps, s2, ?_, t2, by rw [List.map_cons, h1], fun p hp => ?_⟩
      · show turns (.nm 4) (wipeE env [4]) _ _ (D.v (.str k) :: (tS q).map .v) acc s = _
        unfold turns
        rw [bind_nm (by show 4 < (env.set 4 none).length; simpa using hi4)]
        dsimp only
        show ((Res.ok true s).bind _) = _
        show ((ev P (PV.run P LM n) (flOf P LM n) ((env.set 4 none).set 4 (some (.v (.str k)))) (.tup [(false, (.var 4)), (false, e)]) s).bind _) = _
        rw [e1]
        refine Eq.trans e2 ?_
        simp
      · rcases List.mem_cons.mp hp with rfl | hp
        · exact ⟨j, rfl, j0, j1⟩
        · exact h2 p hp
  obtain ⟨ps, s', e1, t', h3, h4⟩ := go ks (fun _ h => h) [] s t
  obtain ⟨d, e2, w⟩ := dict_ok (ks := ks) (lo := lo) (hi := hi) (ps := ps) (fun k hk => by rw [h3]; exact hk) h4 s'
  refine ⟨d, s', ?_, t', w⟩
  refine (ev_bi1 (x := .v (.lst (ps.map fun p => T.tup [.str p.1, p.2]))) (s1 := s') ?_).trans e2
  have iw : evi P (PV.run P LM n) (flOf P LM n) env (.it (.var i)) s = .ok ((tS ks).map .v) s := walk_lst (by show M.opt ((env[i]?).bind id) s = _; rw [h1]; rfl)
  show ((evi P (PV.run P LM n) (flOf P LM n) env (.it (.var i)) s).bind _) = _
  rw [iw]
  show ((nox (turns (.nm 4) (wipeE env [4]) (fun en => evc P (PV.run P LM n) (flOf P LM n) en none) (fun en => ev P (PV.run P LM n) (flOf P LM n) en (.tup [(false, (.var 4)), (false, e)])) ((tS ks).map .v) []) s).bind fun ys => mkL false ys) = _
  rw [nox_ok e1]
  exact mkL_f _ s'
/-- a worth read -/
theorem ET.wget {n i : Nat} {env : PV.Env} {r : Sto} {lo hi : Int} {c : C} {d : D} (h : env[i]? = some (some d)) (w : WD ks lo hi d) (hc : ET n a r env c (isV fun t => ∃ k ∈ ks, t = .str k)) : ET n a r env (.ix (.var i) c) (isI lo hi) :=
  .ix (A := fun x => x = d) (.var h rfl) hc fun x y s e1 ⟨t, e2, k, hk, e3⟩ _ => by
    obtain ⟨kvs, e4, hw⟩ := w
    subst e1 e2 e3 e4
    obtain ⟨j, e5, h5⟩ := hw k hk
    exact ⟨_, item_d e5 rfl s, j, rfl, h5⟩
end
end K03
end
section
set_option Elab.async false
set_option linter.all false
set_option maxRecDepth 1000000
set_option maxHeartbeats 4000000
/-! E12: a plan drawn, whole. -/
namespace K03
open PySem PV
section
variable {a r : Sto} {ks : List Str}
theorem ET.addI {n : Nat} {env : PV.Env} {r : Sto} {c1 c2 : C} {l1 h1 l2 h2 : Int} {m : Bool} (p : ET n a r env c1 (isI l1 h1)) (q : ET n a r env c2 (isI l2 h2)) : ET n a r env (.bin m .add c1 c2) (isI (l1 + l2) (h1 + h2)) :=
  .bin p q fun x y s ⟨i, e1, i0, i1⟩ ⟨j, e2, j0, j1⟩ _ => by subst e1 e2; exact ⟨_, b_add m i j s, i + j, rfl, by omega, by omega⟩
theorem ET.subI {n : Nat} {env : PV.Env} {r : Sto} {c1 c2 : C} {l1 h1 l2 h2 : Int} {m : Bool} (p : ET n a r env c1 (isI l1 h1)) (q : ET n a r env c2 (isI l2 h2)) : ET n a r env (.bin m .sub c1 c2) (isI (l1 - h2) (h1 - l2)) :=
  .bin p q fun x y s ⟨i, e1, i0, i1⟩ ⟨j, e2, j0, j1⟩ _ => by subst e1 e2; exact ⟨_, b_sub m i j s, i - j, rfl, by omega, by omega⟩
theorem ET.intI {n : Nat} {env : PV.Env} {r : Sto} {i : Int} : ET n a r env (.int i) (isI i i) := .int ⟨i, rfl, Int.le_refl _, Int.le_refl _⟩
theorem ET.wide {n : Nat} {env : PV.Env} {r : Sto} {c : C} {l h l' h' : Int} (p : ET n a r env c (isI l h)) (h1 : l' ≤ l) (h2 : h ≤ h') : ET n a r env c (isI l' h') := p.imp fun d ⟨i, e, i0, i1⟩ => ⟨i, e, by omega, by omega⟩
/-- what a drawn plan is -/
structure PlanOk (ks hs : List Str) (rs : List T) (b : Str) (c : Int) : Prop where
  k0 : ks ≠ []
  k4 : ks.length ≤ 4
  kb : ∀ k ∈ ks, k ∈ base6
  h4 : hs.length ≤ 4
  hk : ∀ h ∈ hs, h ∈ ks
  r8 : rs.length ≤ 8
  rr : ∀ t ∈ rs, IsRule ks (-20) 30 t
  bk : b ∈ ks
  c0 : -20 ≤ c
  c1 : c ≤ 30
abbrev planD (ks hs : List Str) (rs : List T) (b : Str) (c : Int) : List T := [.lst (tS ks), .lst (tS hs), .lst rs, .str b, .int c]
abbrev P0 (a : Sto) (o2 o3 o5 o6 o7 o8 o9 : Option D) : PV.Env := [some (.ref a.length), some (.v (.int 4)), o2, o3, none, o5, o6, o7, o8, o9, none, none, none, none, none]
abbrev P1 (a : Sto) (ks hs : List Str) (w : Int) (rs : List T) (b : Str) (o7 : Option D) (wd : D) (L : Nat) (o4 o11 o12 o13 o14 : Option D) : PV.Env := [some (.ref a.length), some (.v (.int 4)), some (.v (.lst (tS ks))), some (.v (.lst (tS hs))), o4, some (.v (.int w)), some (.v (.lst [.lst (tS ks), .lst (tS hs), .lst rs, .str b, .int 0])), o7, some wd, some (.ref L), none, o11, o12, o13, o14]
/-- a rule by its parts -/
theorem rule_bind {env : PV.Env} {s : Sto} {nm k : Str} {o : List Str} {c : Int} (h : 13 < env.length) : bindP s (.tp [(.nm 11), (.nm 4), (.nm 12), (.nm 13)]) (.v (rl nm k o c)) env = some ((((env.set 11 (some (.v (.str nm)))).set 4 (some (.v (.str k)))).set 12 (some (.v (.tup (tS o))))).set 13 (some (.v (.int c)))) := by
  simp [bindP, bindPs, asSeq, asTup, List.length_set, show 11 < env.length by omega, show 4 < env.length by omega, show 12 < env.length by omega, h]
/-- name, kind, outcome, and a number -/
theorem ET.rule {n : Nat} {env : PV.Env} {r : Sto} {e : C} {lo hi : Int} {nm k : Str} {o : List Str} (h11 : env[11]? = some (some (.v (.str nm)))) (h4 : env[4]? = some (some (.v (.str k)))) (h12 : env[12]? = some (some (.v (.tup (tS o))))) (hn : nm ∈ letters) (hk : k ∈ ks) (ho : ∀ x ∈ o, x ∈ ks) (hol : o.length ≤ 4) (h : ET n a r env e (isI lo hi)) :
    ET n a r env (.tup [(false, (.var 11)), (false, (.var 4)), (false, (.var 12)), (false, e)]) (isV (IsRule ks lo hi)) :=
  .tup (.v (Z := fun t => t = .str nm) (.var h11 ⟨_, rfl, rfl⟩) fun t1 z1 => .v (Z := fun t => t = .str k) (.var h4 ⟨_, rfl, rfl⟩) fun t2 z2 => .v (Z := fun t => t = .tup (tS o)) (.var h12 ⟨_, rfl, rfl⟩) fun t3 z3 => .v (Z := fun t => ∃ i, t = .int i ∧ lo ≤ i ∧ i ≤ hi) (h.imp fun d ⟨i, e, h⟩ => ⟨_, e, i, rfl, h⟩) fun t4 ⟨i, z4, i0, i1⟩ => .e (by subst z1 z2 z3 z4; exact ⟨_, rfl, nm, k, o, i, hn, hk, ho, hol, i0, i1, rfl⟩)) rfl
theorem plan_head (n : Nat) {s : Sto} (t : TS a r s) (pa : Pl a) (prr : Pl r) : ∃ (ks hs : List Str) (w : Int) (rs : List T) (b : Str) (o7 : Option D) (wd : D) (s' : Sto), (∀ rest, exSs P (PV.run P LM (n + 3)) (flOf P LM (n + 3)) (P0 a none none none none none none none) (b_law_drawn_plan.take 6 ++ rest) s = exSs P (PV.run P LM (n + 3)) (flOf P LM (n + 3)) (P0 a (some (.v (.lst (tS ks)))) (some (.v (.lst (tS hs)))) (some (.v (.int w))) (some (.v (.lst [.lst (tS ks), .lst (tS hs), .lst rs, .str b, .int 0]))) o7 (some wd) none) rest s') ∧ TS a r s' ∧ WD ks 0 4 wd ∧ 0 ≤ w ∧ w ≤ 4 ∧
    ks ≠ [] ∧ ks.length ≤ 4 ∧ (∀ k ∈ ks, k ∈ base6) ∧ hs.length ≤ 4 ∧ (∀ h ∈ hs, h ∈ ks) ∧ rs.length ≤ 8 ∧ (∀ t ∈ rs, IsRule ks 0 0 t) ∧ b ∈ ks := by
  -- kinds
  obtain ⟨d2, s1, g1, t1, ts, i, e2, ⟨ts2, q1, q2, q3⟩, i0, i1⟩ := asgT (i := 2) (ET.sl1 (lo := 1) (hi := 4) (A := fun us => ∃ ts, ts = tS base6 ∧ us.length = ts.length ∧ ∀ u ∈ us, u ∈ ts)
      (ET.shuf (n := n + 1) (c1 := .var 0) (c2 := .lst false [(false, (.str "h")), (false, (.str "g")), (false, (.str "l")), (false, (.str "m")), (false, (.str "letterbx")), (false, (.str "x"))]) (A := fun ts => ts = tS base6) (env := P0 a none none none none none none none) pa prr (.var rfl rfl) (.of (d := .v (.lst (tS base6))) (fun _ => rfl) ⟨_, rfl, List.all_eq_true.mp (tS_shape base6), by decide, rfl⟩))
      ((ET.addI (ET.intI (i := 1)) (ET.pick (n := n + 2) (k := 4) (c1 := .var 0) (c2 := .var 1) (.var rfl rfl) (.var rfl ⟨4, rfl, by decide, by decide⟩) (by decide))).wide (by decide) (by decide))) (by simp) t
  have hkk : ∀ y ∈ cut ts none (some i), ∃ k ∈ base6, y = .str k := fun y hy => by
    have := q3 y (cut_mem hy)
    rw [q1] at this
    exact mem_tS.mp this
  obtain ⟨ks, ek, hk6⟩ := all_str hkk
  have hlen : ks.length = min i.toNat ts.length := by
    have := congrArg List.length ek
    rw [cut_to (by omega), tS_len] at this
    exact this.symm
  have hts6 : ts.length = 6 := by rw [q2, q1]; rfl
  have k4 : ks.length ≤ 4 := by rw [hlen]; omega
  have k0 : ks ≠ [] := fun z => by rw [z] at hlen; simp at hlen; omega
  rw [ek] at e2
  subst e2
  -- handles
  have kv : ∀ {r : Sto} {env : PV.Env} {i : Nat}, env[i]? = some (some (.v (.lst (tS ks)))) → ET (n + 3) a r env (.var i) fun d => ∃ ts, (d = .v (.lst ts) ∨ d = .v (.tup ts)) ∧ (∀ t ∈ ts, ∃ k ∈ ks, t = .str k) ∧ ts.length ≤ 4 := fun h => .var h ⟨_, .inl rfl, fun t ht => by
    obtain ⟨x, hx, rfl⟩ := mem_tS.mp ht
    exact ⟨x, hx, rfl⟩, by rw [tS_len]; exact k4⟩
  obtain ⟨d3, s2, g2, t2, ys, e3, h3, l3⟩ := asgT (i := 3) (ET.comp (n := n + 3) (a := a) (r := r) (env := P0 a (some (.v (.lst (tS ks)))) none none none none none none) (own := [4]) (g := .nm 4) (it := .it (.var 2)) (e := .var 4) (cond := some (.cmp .eq (.call false 6 [(.var 0), (.int 2)] [] []) (.int 0))) (X := fun t => ∃ k ∈ ks, t = .str k) (Y := fun t => ∃ k ∈ ks, t = .str k) (B := 4) (walk_ok (kv rfl))
      (fun t s ht _ => ⟨_, bind1 (by simp [wipeE]), .inr ⟨_, rfl, int_cmp (.inr (.inl rfl)) (pickC (n := n + 2) rfl (by decide) (by decide)) ET.intI (fun _ h => ints_of h) (fun _ h => ints_of h)⟩, .var rfl ⟨t, rfl, ht⟩⟩)) (by simp) t1
  obtain ⟨hs, rfl, hh⟩ := all_str h3
  subst e3
  have hs4 : hs.length ≤ 4 := by simpa using l3
  -- way
  obtain ⟨d5, s3, g3, t3, w, e5, w0, w1⟩ := asgT (i := 5) (pickC (n := n + 2) (r := r) (env := P0 a (some (.v (.lst (tS ks)))) (some (.v (.lst (tS hs)))) none none none none none) (k := 5) rfl (by decide) (by decide)) (by simp) t2
  subst e5
  -- plan
  obtain ⟨d6, s4, g4, t4, pts, e6, rs, b, hpl, hr8, hrr, hb⟩ := asgT (i := 6) (ET.lst (n := n + 3) (a := a) (r := r) (env := P0 a (some (.v (.lst (tS ks)))) (some (.v (.lst (tS hs)))) (some (.v (.int w))) none none none none) (es := [(false, (.var 2)), (false, (.var 3)), (false, (.call false 11 [(.var 0), (.var 2), .non, (.call false 6 [(.var 0), (.int 3)] [] [])] [] [])), (false, (.call false 7 [(.var 0), (.var 2)] [] [])), (false, (.int 0))])
      (Y := isV fun t => ∃ rs b, t = .lst [.lst (tS ks), .lst (tS hs), .lst rs, .str b, .int 0] ∧ rs.length ≤ 8 ∧ (∀ u ∈ rs, IsRule ks 0 0 u) ∧ b ∈ ks)
      (.v (Z := fun t => t = .lst (tS ks)) (.var rfl ⟨_, rfl, rfl⟩) fun t1 z1 => .v (Z := fun t => t = .lst (tS hs)) (.var rfl ⟨_, rfl, rfl⟩) fun t2 z2 =>
        .v (Z := fun t => ∃ rs, t = .lst rs ∧ rs.length ≤ 8 ∧ ∀ u ∈ rs, IsRule ks 0 0 u) (fun s t => by
          obtain ⟨dw, sw, ew, tw, v, rfl, _⟩ := pickC (n := n + 2) (a := a) (r := r) (env := P0 a (some (.v (.lst (tS ks)))) (some (.v (.lst (tS hs)))) (some (.v (.int w))) none none none none) (k := 3) rfl (by decide) (by decide) s t
          obtain ⟨us, s2, e, t2, h1, h2⟩ := drawn_rules (w := v) n tw pa prr k0 k4
          exact ⟨_, s2, (ev_call4 (s1 := s) (s2 := s) (s3 := s) rfl rfl rfl ew).trans e, t2, _, rfl, us, rfl, h1, h2⟩) fun t3 ⟨rs, z3, h1, h2⟩ =>
        .v (ET.kind (n := n + 1) rfl rfl k0 (by omega)) fun t4 ⟨b, hb, z4⟩ => .v (Z := fun t => t = .int 0) (.int ⟨_, rfl, rfl⟩) fun t5 z5 => .e (by subst z1 z2 z3 z4 z5; exact ⟨_, rfl, rs, b, rfl, h1, h2, hb⟩)) rfl) (by simp) t3
  subst hpl e6
  -- living
  have hrl : ∀ t ∈ rs, ∃ nm k o c, t = rl nm k o c := fun t ht => by
    obtain ⟨nm, k, o, c, _, _, _, _, _, _, e⟩ := hrr t ht
    exact ⟨nm, k, o, c, e⟩
  have hmul : hs.length + ks.length * rs.length < 900 := by
    have : ks.length * rs.length ≤ 4 * 8 := Nat.mul_le_mul k4 hr8
    omega
  obtain ⟨d7, s5, g5, t5, us, e7⟩ := asgT (i := 7) (n := n + 3) (a := a) (r := r) (env := P0 a (some (.v (.lst (tS ks)))) (some (.v (.lst (tS hs)))) (some (.v (.int w))) (some (.v (.lst [.lst (tS ks), .lst (tS hs), .lst rs, .str b, .int 0]))) none none none) (c := .call false 10 [(.var 6)] [] []) (Y := fun d => ∃ us : List Str, d = .v (.lst (tS us)))
    (fun s t => by
      obtain ⟨us, e⟩ := alive (n + 2) (t.pl pa prr) ks hs rs hrl hmul (.str b) (.int 0)
      exact ⟨_, s, (ev_call1 (s1 := s) rfl).trans e, t, us, rfl⟩) (by simp) t4
  subst e7
  -- worth
  obtain ⟨d8, s6, g6, t6, wd⟩ := asgT (i := 8) (ET.worth (n := n + 3) (a := a) (r := r) (ks := ks) (i := 2) (lo := 0) (hi := 4) (env := P0 a (some (.v (.lst (tS ks)))) (some (.v (.lst (tS hs)))) (some (.v (.int w))) (some (.v (.lst [.lst (tS ks), .lst (tS hs), .lst rs, .str b, .int 0]))) (some (.v (.lst (tS us)))) none none) (e := .bin false .add (.bi false .int [(.cmp .isin (.var 4) (.var 7))]) (.call false 6 [(.var 0), (.int 4)] [] [])) rfl (by simp) k4
    fun k hk => (ET.addI (l1 := 0) (h1 := 1) (.bi (A := isB) (.cmp (A := fun d => d = .v (.str k)) (B := fun d => d = .v (.lst (tS us))) (.var rfl rfl) (.var rfl rfl) fun x y s e1 e2 _ => by subst e1 e2; exact ⟨_, c_in s (.inl rfl) rfl (tS_flat us), _, rfl⟩) fun x s ⟨bb, e⟩ _ => by subst e; exact ⟨_, bi_intb bb s _, _, rfl, by cases bb <;> decide, by cases bb <;> decide⟩) (pickC (n := n + 2) (k := 4) rfl (by decide) (by decide))).wide (by decide) (by decide)) (by simp) t5
  refine ⟨ks, hs, w, rs, b, some (.v (.lst (tS us))), d8, s6, fun rest => ?_, t6, wd, w0, w1, k0, k4, hk6, hs4, hh, hr8, hrr, hb⟩
  exact (g1 _).trans ((g2 _).trans ((g3 _).trans ((g4 _).trans ((g5 _).trans (g6 rest)))))
end
end K03
end
section
set_option Elab.async false
set_option linter.all false
set_option maxRecDepth 1000000
set_option maxHeartbeats 4000000
/-! E13: a plan drawn: its end. -/
namespace K03
open PySem PV
section
variable {a r : Sto} {ks : List Str}
theorem evst_c {P : Pr} {F : Bool → Nat → List D → M D} {FL : Nat → PV.Env → M D} {env : PV.Env} {c : C} {es : List (Bool × C)} {s s1 s2 : Sto} {d : D} {ds : List D} (h : ev P F FL env c s = .ok d s1) (h2 : evst P F FL env es s1 = .ok ds s2) : evst P F FL env ((false, c) :: es) s = .ok (d :: ds) s2 := by
  show ((ev P F FL env c s).bind fun x s => ((evst P F FL env es) s).bind fun xs => .ret (x :: xs)) = _
  rw [h]
  show ((evst P F FL env es s1).bind fun xs => .ret (d :: xs)) = _
  rw [h2]; rfl
theorem ev_lstm {P : Pr} {F : Bool → Nat → List D → M D} {FL : Nat → PV.Env → M D} {env : PV.Env} {es : List (Bool × C)} {s s1 : Sto} {ds : List D} (h : evst P F FL env es s = .ok ds s1) (hs : (es.any fun p => p.1) = false) : ev P F FL env (.lst true es) s = .ok (.ref s1.length) (s1 ++ [some (.lst ds)]) := by
  show ((evst P F FL env es s).bind fun ds => (guardM (fewS es ds)).bind fun _ => mkL true ds) = _
  rw [h]
  show ((guardM (fewS es ds) s1).bind fun _ => mkL true ds) = _
  rw [show fewS es ds = true by unfold fewS; rw [hs]; rfl]
  rfl
abbrev cTup : C := (.tup [(false, (.var 11)), (false, (.var 4)), (false, (.var 12)), (false, (.bin false .add (.var 13) (.call false 7 [(.var 0), (.lst false [(false, (.int 1)), (false, (.bin false .sub (.int 0) (.int 1))), (false, (.int 2))])] [] [])))])
abbrev pt4 : Pt := .tp [(.nm 11), (.nm 4), (.nm 12), (.nm 13)]
/-- rules anew, from a list of rules -/
theorem rules_comp {n : Nat} {s s1 : Sto} {env : PV.Env} {it e : C} {rs : List T} {l1 h1 lo hi : Int} (hlen : 13 < env.length) (iw : evi P (PV.run P LM (n + 3)) (flOf P LM (n + 3)) env it s = .ok (rs.map .v) s1) (t : TS a r s1) (hr : ∀ t ∈ rs, IsRule ks l1 h1 t) (h8 : rs.length ≤ 8)
    (he : ∀ (nm k : Str) (o : List Str) (c : Int), k ∈ ks → (∀ x ∈ o, x ∈ ks) → o.length ≤ 4 → ET (n + 3) a r (((((wipeE env [11, 4, 12, 13]).set 11 (some (.v (.str nm)))).set 4 (some (.v (.str k)))).set 12 (some (.v (.tup (tS o))))).set 13 (some (.v (.int c)))) e (isI lo hi)) :
    ∃ (ys : List T) (s' : Sto), ev P (PV.run P LM (n + 3)) (flOf P LM (n + 3)) env (.comp true (.tup [(false, (.var 11)), (false, (.var 4)), (false, (.var 12)), (false, e)]) [11, 4, 12, 13] pt4 it none) s = .ok (.ref s'.length) (s' ++ [some (.lst (ys.map .v))]) ∧ TS a r s' ∧ (∀ y ∈ ys, IsRule ks lo hi y) ∧ ys.length ≤ 8 := by
  have wl : (wipeE env [11, 4, 12, 13]).length = env.length := by simp [wipeE]
  obtain ⟨ys, s', e1, t', h1, h2⟩ := compS (n := n + 3) (a := a) (r := r) (m := true) (own := [11, 4, 12, 13]) (g := pt4) (cond := none) (B := 8) (X := IsRule ks l1 h1) (Y := IsRule ks lo hi) (e := .tup [(false, (.var 11)), (false, (.var 4)), (false, (.var 12)), (false, e)]) iw t hr h8
    (fun x s ⟨nm, k, o, c, hn, hk, ho, hol, _, _, e⟩ _ => by
      subst e
      refine ⟨_, rule_bind (by rw [wl]; exact hlen), .inl rfl, ET.rule (nm := nm) (k := k) (o := o) ?_ ?_ ?_ hn hk ho hol (he nm k o c hk ho hol)⟩
      · rw [List.getElem?_set_ne (by decide), List.getElem?_set_ne (by decide), List.getElem?_set_ne (by decide), List.getElem?_set_self (by rw [wl]; omega)]
      · rw [List.getElem?_set_ne (by decide), List.getElem?_set_ne (by decide), List.getElem?_set_self (by rw [List.length_set, wl]; omega)]
      · rw [List.getElem?_set_ne (by decide), List.getElem?_set_self (by rw [List.length_set, List.length_set, wl]; omega)])
  exact ⟨ys, s', e1.trans (mkL_t _ _), t', h1, h2⟩
theorem item_ref {s : Sto} {i : Nat} {fs : List T} {k : Int} (hc : cellAt s i = some (.lst (fs.map .v))) (h0 : 0 ≤ k) (h1 : k < fs.length) : ∃ t ∈ fs, item (.ref i) (.v (.int k)) s = .ok (.v t) s := by
  have hl : k.toNat < fs.length := by omega
  refine ⟨fs[k.toNat], List.getElem_mem hl, ?_⟩
  have e0 : asDct s (.ref i) = none := by unfold asDct; dsimp only; rw [hc]
  have e1 : asSeq s (.ref i) = some (fs.map .v) := by
    show asList s (.ref i) = _
    unfold asList; dsimp only; rw [hc]
  unfold item
  rw [e0]
  dsimp only
  rw [e1]
  show M.opt ((place (fs.map D.v).length k).bind fun j => (fs.map D.v)[j]?) s = _
  unfold place
  rw [List.length_map, if_pos h0, if_pos h1]
  show M.opt ((fs.map D.v)[k.toNat]?) s = _
  rw [List.getElem?_map, List.getElem?_eq_getElem hl]; rfl
theorem put_ref {s : Sto} {i : Nat} {fs : List T} {k : Int} {t : T} (hc : cellAt s i = some (.lst (fs.map .v))) (h0 : 0 ≤ k) (h1 : k < fs.length) : putIx (.ref i) (.v (.int k)) (.v t) s = .ok () (s.set i (some (.lst ((fs.set k.toNat t).map .v)))) := by
  unfold putIx
  dsimp only
  rw [hc]
  show (match (place (fs.map D.v).length k) with | some j => Res.ok () (s.set i (some (PV.Cell.lst ((fs.map D.v).set j (.v t))))) | none => .bad) = _
  unfold place
  rw [List.length_map, if_pos h0, if_pos h1]
  dsimp only
  rw [← List.map_set]
theorem plan_tail (n : Nat) {s : Sto} {hs : List Str} {w : Int} {rs : List T} {b : Str} {o7 : Option D} {wd : D} (t : TS a r s) (pa : Pl a) (prr : Pl r) (hwd : WD ks 0 4 wd) (w0 : 0 ≤ w) (w4 : w ≤ 4) (k0 : ks ≠ []) (k4 : ks.length ≤ 4) (h4 : hs.length ≤ 4) (hr8 : rs.length ≤ 8) (hrr : ∀ t ∈ rs, IsRule ks 0 0 t) (hb : b ∈ ks) :
    ∃ (rs' : List T) (c : Int) (env' : PV.Env) (r' s' : Sto), exSs P (PV.run P LM (n + 3)) (flOf P LM (n + 3)) (P0 a (some (.v (.lst (tS ks)))) (some (.v (.lst (tS hs)))) (some (.v (.int w))) (some (.v (.lst [.lst (tS ks), .lst (tS hs), .lst rs, .str b, .int 0]))) o7 (some wd) none) (b_law_drawn_plan.drop 6) s = .ok (.rt (.ref (s' ++ r').length)) env' (s' ++ r' ++ [some (.lst ((planD ks hs rs' b c).map .v))]) ∧ TS a r s' ∧
    rs'.length ≤ 8 ∧ (∀ t ∈ rs', IsRule ks (-20) 30 t) ∧ -20 ≤ c ∧ c ≤ 30 := by
  have wayE : ∀ {r : Sto} {env : PV.Env} {k : Int}, env[5]? = some (some (.v (.int w))) → ∀ s, ev P (PV.run P LM (n + 3)) (flOf P LM (n + 3)) env (.cmp .eq (.var 5) (.int k)) s = .ok (.v (.bl (decide (w = k)))) s := fun h s => by
    refine (ev_cmp (x := .v (.int w)) (y := .v (.int _)) (s1 := s) (s2 := s) ?_ rfl).trans (c_eqi w _ s)
    show M.opt ((_ : Option (Option D)).bind id) s = _
    rw [h]; rfl
  -- worth
  obtain ⟨wd2, s1, g1, t1, hw2⟩ : ∃ (wd2 : D) (s1 : Sto), (∀ rest, exSs P (PV.run P LM (n + 3)) (flOf P LM (n + 3)) (P0 a (some (.v (.lst (tS ks)))) (some (.v (.lst (tS hs)))) (some (.v (.int w))) (some (.v (.lst [.lst (tS ks), .lst (tS hs), .lst rs, .str b, .int 0]))) o7 (some wd) none) (.ife (.cmp .eq (.var 5) (.int 4)) [.asg (.pt (.nm 8)) (.bi false .dict [(.comp false (.tup [(false, (.var 4)), (false, (.bin false .sub (.ix (.var 8) (.var 4)) (.call false 6 [(.var 0), (.int 2)] [] [])))]) [4] (.nm 4) (.it (.var 2)) none)])] [] :: rest) s = exSs P (PV.run P LM (n + 3)) (flOf P LM (n + 3)) (P0 a (some (.v (.lst (tS ks)))) (some (.v (.lst (tS hs)))) (some (.v (.int w))) (some (.v (.lst [.lst (tS ks), .lst (tS hs), .lst rs, .str b, .int 0]))) o7 (some wd2) none) rest s1) ∧ TS a r s1 ∧ WD ks (-1) 4 wd2 := by
    by_cases hw : w = 4
    · obtain ⟨d8, s6, g6, t6, w6⟩ := asgT (i := 8) (ET.worth (n := n + 3) (a := a) (r := r) (ks := ks) (i := 2) (lo := -1) (hi := 4) (env := P0 a (some (.v (.lst (tS ks)))) (some (.v (.lst (tS hs)))) (some (.v (.int w))) (some (.v (.lst [.lst (tS ks), .lst (tS hs), .lst rs, .str b, .int 0]))) o7 (some wd) none) (e := .bin false .sub (.ix (.var 8) (.var 4)) (.call false 6 [(.var 0), (.int 2)] [] [])) rfl (by simp) k4
        fun k hk => (ET.subI (ET.wget (d := wd) rfl hwd (.var rfl ⟨_, rfl, k, hk, rfl⟩)) (pickC (n := n + 2) (k := 2) rfl (by decide) (by decide))).wide (by decide) (by decide)) (by simp) t
      refine ⟨d8, s6, fun rest => ?_, t6, w6⟩
      have := wayE (r := r) (env := P0 a (some (.v (.lst (tS ks)))) (some (.v (.lst (tS hs)))) (some (.v (.int w))) (some (.v (.lst [.lst (tS ks), .lst (tS hs), .lst rs, .str b, .int 0]))) o7 (some wd) none) (k := 4) rfl s
      rw [decide_eq_true hw] at this
      rw [ex_if_t this, g6 []]
      rfl
    · refine ⟨wd, s, fun rest => ?_, t, ?_⟩
      · have := wayE (r := r) (env := P0 a (some (.v (.lst (tS ks)))) (some (.v (.lst (tS hs)))) (some (.v (.int w))) (some (.v (.lst [.lst (tS ks), .lst (tS hs), .lst rs, .str b, .int 0]))) o7 (some wd) none) (k := 4) rfl s
        rw [decide_eq_false hw] at this
        rw [ex_if_f this]
        rfl
      · obtain ⟨kvs, e, h⟩ := hwd
        exact ⟨kvs, e, fun k hk => let ⟨i, e1, e2, e3⟩ := h k hk; ⟨i, e1, by omega, e3⟩⟩
  -- rules
  obtain ⟨ys, s2, e2, t2, h2, l2⟩ := rules_comp (a := a) (r := r) (ks := ks) (n := n) (lo := -8) (hi := 17) (env := P0 a (some (.v (.lst (tS ks)))) (some (.v (.lst (tS hs)))) (some (.v (.int w))) (some (.v (.lst [.lst (tS ks), .lst (tS hs), .lst rs, .str b, .int 0]))) o7 (some wd2) none) (it := .it (.ix (.var 6) (.int 2))) (e := .bin false .sub (.bi false .sum [(.comp false (.ix (.var 8) (.var 10)) [10] (.nm 10) (.it (.var 12)) none)]) (.ix (.var 8) (.var 4))) (by simp)
    (walk_lst (s' := s1) rfl) t1 hrr hr8 (fun nm k o c hk ho hol => (ET.subI (l1 := -4) (h1 := 16) (l2 := -1) (h2 := 4) (.bi (ET.comp (X := fun t => ∃ x ∈ ks, t = .str x) (Y := fun t => ∃ i : Int, t = .int i ∧ -1 ≤ i ∧ i ≤ 4) (B := 4) (walk_ok (.var rfl ⟨tS o, .inr rfl, fun t ht => by
      obtain ⟨x, hx, rfl⟩ := mem_tS.mp ht
      exact ⟨x, ho x hx, rfl⟩, by rw [tS_len]; exact hol⟩)) fun t s ⟨x, hx, e⟩ _ => ⟨_, bind1 (by simp [wipeE]), .inl rfl, (ET.wget (d := wd2) rfl hw2 (.var rfl ⟨t, rfl, x, hx, e⟩)).imp fun d ⟨i, e, h⟩ => ⟨_, e, i, rfl, h⟩⟩) fun x s ⟨ys, e, hy, hl⟩ _ => by subst e; exact sum_ok hy hl s)
      (ET.wget (d := wd2) rfl hw2 (.var rfl ⟨_, rfl, k, hk, rfl⟩))).wide (by decide) (by decide))
  rw [t2.flen] at e2
  -- way 3
  obtain ⟨r3, fs3, s3, g3, t3, h3, l3⟩ : ∃ (r3 : Sto) (fs3 : List T) (s3 : Sto), (∀ rest, exSs P (PV.run P LM (n + 3)) (flOf P LM (n + 3)) (P0 a (some (.v (.lst (tS ks)))) (some (.v (.lst (tS hs)))) (some (.v (.int w))) (some (.v (.lst [.lst (tS ks), .lst (tS hs), .lst rs, .str b, .int 0]))) o7 (some wd2) (some (.ref (LX a r)))) (.ife (.cmp .eq (.var 5) (.int 3)) [.asg (.pt (.nm 9)) (.comp true (.tup [(false, (.var 11)), (false, (.var 4)), (false, (.var 12)), (false, (.bin false .sub (.call false 6 [(.var 0), (.int 5)] [] []) (.int 2)))]) [11, 4, 12, 13] pt4 (.it (.frz (.var 9))) none)] [] :: rest) (s2 ++ [some (.lst (ys.map .v))]) = exSs P (PV.run P LM (n + 3)) (flOf P LM (n + 3)) (P0 a (some (.v (.lst (tS ks)))) (some (.v (.lst (tS hs)))) (some (.v (.int w))) (some (.v (.lst [.lst (tS ks), .lst (tS hs), .lst rs, .str b, .int 0]))) o7 (some wd2) (some (.ref (LX a (r ++ r3))))) rest s3) ∧ TS a (RL (r ++ r3) fs3) s3 ∧ (∀ t ∈ fs3, IsRule ks (-8) 17 t) ∧ fs3.length ≤ 8 := by
    by_cases hw : w = 3
    · obtain ⟨s4, e4, t4⟩ := frz_ok (n := n + 3) (env := P0 a (some (.v (.lst (tS ks)))) (some (.v (.lst (tS hs)))) (some (.v (.int w))) (some (.v (.lst [.lst (tS ks), .lst (tS hs), .lst rs, .str b, .int 0]))) o7 (some wd2) (some (.ref (LX a r)))) (i := 9) rfl (t2.more (x := [some (.lst (ys.map .v))]))
      obtain ⟨zs, s5, e5, t5, h5, l5⟩ := rules_comp (a := a) (r := r ++ [none]) (ks := ks) (n := n) (lo := -8) (hi := 17) (env := P0 a (some (.v (.lst (tS ks)))) (some (.v (.lst (tS hs)))) (some (.v (.int w))) (some (.v (.lst [.lst (tS ks), .lst (tS hs), .lst rs, .str b, .int 0]))) o7 (some wd2) (some (.ref (LX a r)))) (it := .it (.frz (.var 9))) (e := .bin false .sub (.call false 6 [(.var 0), (.int 5)] [] []) (.int 2)) (by simp) (walk_lst e4) t4 h2 l2
        (fun nm k o c _ _ _ => (ET.subI (pickC (n := n + 2) (k := 5) rfl (by decide) (by decide)) (ET.intI (i := 2))).wide (by decide) (by decide))
      rw [t5.flen] at e5
      refine ⟨[none], zs, _, fun rest => ?_, t5.more, h5, l5⟩
      have := wayE (r := r) (env := P0 a (some (.v (.lst (tS ks)))) (some (.v (.lst (tS hs)))) (some (.v (.int w))) (some (.v (.lst [.lst (tS ks), .lst (tS hs), .lst rs, .str b, .int 0]))) o7 (some wd2) (some (.ref (LX a r)))) (k := 3) rfl (s2 ++ [some (.lst (ys.map .v))])
      rw [decide_eq_true hw] at this
      rw [ex_if_t this, ex_asg e5 (by simp)]
      rfl
    · refine ⟨[], ys, _, fun rest => ?_, by rw [List.append_nil]; exact t2.more, h2, l2⟩
      have := wayE (r := r) (env := P0 a (some (.v (.lst (tS ks)))) (some (.v (.lst (tS hs)))) (some (.v (.int w))) (some (.v (.lst [.lst (tS ks), .lst (tS hs), .lst rs, .str b, .int 0]))) o7 (some wd2) (some (.ref (LX a r)))) (k := 3) rfl (s2 ++ [some (.lst (ys.map .v))])
      rw [decide_eq_false hw] at this
      rw [ex_if_f this, List.append_nil]
      rfl
  -- way 2
  obtain ⟨R, hR⟩ : ∃ R, R = r ++ r3 := ⟨_, rfl⟩
  rw [← hR] at t3 g3
  obtain ⟨o4, o11, o12, o13, o14, fs4, s4, g4, t4, h4', l4⟩ : ∃ (o4 o11 o12 o13 o14 : Option D) (fs4 : List T) (s4 : Sto), (∀ rest, exSs P (PV.run P LM (n + 3)) (flOf P LM (n + 3)) (P0 a (some (.v (.lst (tS ks)))) (some (.v (.lst (tS hs)))) (some (.v (.int w))) (some (.v (.lst [.lst (tS ks), .lst (tS hs), .lst rs, .str b, .int 0]))) o7 (some wd2) (some (.ref (LX a R)))) (.ife (.and (.cmp .eq (.var 5) (.int 2)) (.cmp .ne (.var 9) (.lst false []))) [.asg (.pt (.nm 14)) (.call false 6 [(.var 0), (.bi false .len [(.var 9)])] [] []), .asg (.pt pt4) (.ix (.var 9) (.var 14)), .asg (.six (.var 9) (.var 14)) (.tup [(false, (.var 11)), (false, (.var 4)), (false, (.var 12)), (false, (.bin false .add (.var 13) (.call false 7 [(.var 0), (.lst false [(false, (.int 1)), (false, (.bin false .sub (.int 0) (.int 1))), (false, (.int 2))])] [] [])))])] [] :: rest) s3 =
      exSs P (PV.run P LM (n + 3)) (flOf P LM (n + 3)) (P1 a ks hs w rs b o7 wd2 (LX a R) o4 o11 o12 o13 o14) rest s4) ∧ TS a (RL R fs4) s4 ∧ (∀ t ∈ fs4, IsRule ks (-20) 30 t) ∧ fs4.length ≤ 8 := by
    have wide : ∀ {t : T}, IsRule ks (-8) 17 t → IsRule ks (-20) 30 t := fun ⟨nm, k, o, c, q1, q2, q3, q4, q5, q6, q7⟩ => ⟨nm, k, o, c, q1, q2, q3, q4, by omega, by omega, q7⟩
    have hc := t3.cell
    have shp : fs3.all (T.shape 39) = true := List.all_eq_true.mpr fun t ht => (h3 t ht).shape
    obtain ⟨E0, hE0⟩ : ∃ E0 : PV.Env, E0 = P0 a (some (.v (.lst (tS ks)))) (some (.v (.lst (tS hs)))) (some (.v (.int w))) (some (.v (.lst [.lst (tS ks), .lst (tS hs), .lst rs, .str b, .int 0]))) o7 (some wd2) (some (.ref (LX a R))) := ⟨_, rfl⟩
    have tsv : ev P (PV.run P LM (n + 3)) (flOf P LM (n + 3)) E0 (.and (.cmp .eq (.var 5) (.int 2)) (.cmp .ne (.var 9) (.lst false []))) s3 = .ok (.v (.bl (decide (w = 2) && !fs3.isEmpty))) s3 := by
      subst hE0
      refine ev_and (wayE (r := r) rfl s3) fun _ => ?_
      exact (ev_cmp (x := .ref (LX a R)) (y := .v (.lst [])) (s1 := s3) (s2 := s3) rfl rfl).trans (ne_ref hc shp)
    cases q : (decide (w = 2) && !fs3.isEmpty) with
    | false =>
      rw [q] at tsv
      refine ⟨none, none, none, none, none, fs3, s3, fun rest => ?_, t3, fun t ht => wide (h3 t ht), l3⟩
      rw [← hE0, ex_if_f tsv, hE0]
      rfl
    | true =>
      rw [q] at tsv
      have hne : fs3 ≠ [] := fun z => by rw [z] at q; simp at q
      have hpos : 0 < fs3.length := List.length_pos_iff.mpr hne
      have lenE : ET (n + 3) a (RL R fs3) E0 (.bi false .len [(.var 9)]) (isI 1 fs3.length) := fun s t => by
        refine ⟨_, s, ?_, t, (fs3.length : Int), rfl, by omega, by omega⟩
        subst hE0
        refine (ev_bi1 (x := .ref (LX a R)) (s1 := s) rfl).trans ?_
        have := len_ref (b := false) t.cell
        rw [List.length_map] at this
        exact this
      obtain ⟨d14, s5, g5, t5, i, rfl, i0, i1⟩ := asgT (i := 14) (ET.pick (n := n + 2) (k := fs3.length) (c1 := .var 0) (by subst hE0; exact .var rfl rfl) lenE (by omega)) (by subst hE0; simp) t3
      obtain ⟨u, hu, eu⟩ := item_ref (k := i) t5.cell i0 (by omega)
      obtain ⟨nm, k, o, c, q1, q2, q3, q4, q5, q6, rfl⟩ := h3 u hu
      obtain ⟨E1, hE1⟩ : ∃ E1 : PV.Env, E1 = P1 a ks hs w rs b o7 wd2 (LX a R) (some (.v (.str k))) (some (.v (.str nm))) (some (.v (.tup (tS o)))) (some (.v (.int c))) (some (.v (.int i))) := ⟨_, rfl⟩
      have st2 : ∀ rest, exSs P (PV.run P LM (n + 3)) (flOf P LM (n + 3)) (E0.set 14 (some (.v (.int i)))) (.asg (.pt pt4) (.ix (.var 9) (.var 14)) :: rest) s5 = exSs P (PV.run P LM (n + 3)) (flOf P LM (n + 3)) E1 rest s5 := fun rest => by
        subst hE0 hE1
        refine seq_nx (show withE _ (ev _ _ _ _ _ _) _ = _ from ?_)
        rw [(ev_ix (x := .ref (LX a R)) (y := .v (.int i)) (s1 := s5) (s2 := s5) rfl rfl).trans eu]
        rfl
      have val : ET (n + 3) a (RL R fs3) E1 (.tup [(false, (.var 11)), (false, (.var 4)), (false, (.var 12)), (false, (.bin false .add (.var 13) (.call false 7 [(.var 0), (.lst false [(false, (.int 1)), (false, (.bin false .sub (.int 0) (.int 1))), (false, (.int 2))])] [] [])))]) (isV (IsRule ks (-20) 30)) := by
        subst hE1
        refine ET.rule (nm := nm) (k := k) (o := o) rfl rfl rfl q1 q2 q3 q4 ?_
        refine (ET.addI (l1 := -8) (h1 := 17) (l2 := -1) (h2 := 2) (.var rfl ⟨c, rfl, q5, q6⟩) ?_).wide (by decide) (by decide)
        refine (ET.one (n := n + 1) (Y := fun t => ∃ i : Int, t = .int i ∧ -1 ≤ i ∧ i ≤ 2) (.var rfl rfl) (.of (d := .v (.lst [.int 1, .int (0 - 1), .int 2])) (fun _ => rfl) ⟨_, rfl, by simp, by decide, fun t ht => ?_⟩)).imp fun d ⟨t, e, i, e2, h⟩ => ⟨i, by rw [e, e2], h⟩
        simp at ht
        rcases ht with rfl | rfl | rfl
        · exact ⟨1, rfl, by decide, by decide⟩
        · exact ⟨-1, rfl, by decide, by decide⟩
        · exact ⟨2, rfl, by decide, by decide⟩
      obtain ⟨d9, s6, e6, t6, v, rfl, hv⟩ := val s5 t5
      have pp := put_ref (t := v) (k := i) t6.cell i0 (by omega)
      refine ⟨some (.v (.str k)), some (.v (.str nm)), some (.v (.tup (tS o))), some (.v (.int c)), some (.v (.int i)), fs3.set i.toNat v, _, fun rest => ?_, t6.setc, fun t ht => ?_, by rw [List.length_set]; exact l3⟩
      · rw [← hE0, ex_if_t tsv, g5, st2]
        have hx : exS P (PV.run P LM (n + 3)) (flOf P LM (n + 3)) E1 (.asg (.six (.var 9) (.var 14)) cTup) s5 = .ok .nx E1 (s6.set (LX a R) (some (.lst ((fs3.set i.toNat v).map .v)))) := by
          show withE E1 (ev P (PV.run P LM (n + 3)) (flOf P LM (n + 3)) E1 cTup s5) (fun d s => withE E1 ((store P (PV.run P LM (n + 3)) (flOf P LM (n + 3)) E1 (.six (.var 9) (.var 14)) d) s) fun en s => .ok .nx en s) = _
          rw [show ev P (PV.run P LM (n + 3)) (flOf P LM (n + 3)) E1 cTup s5 = _ from e6]
          show withE E1 ((store P (PV.run P LM (n + 3)) (flOf P LM (n + 3)) E1 (.six (.var 9) (.var 14)) (.v v)) s6) _ = _
          have : (store P (PV.run P LM (n + 3)) (flOf P LM (n + 3)) E1 (.six (.var 9) (.var 14)) (.v v)) s6 = .ok E1 (s6.set (LX a R) (some (.lst ((fs3.set i.toNat v).map .v)))) := by
            subst hE1
            show ((putIx (.ref (LX a R)) (.v (.int i)) (.v v) s6).bind fun _ => M.ret _) = _
            rw [pp]; rfl
          rw [this]; rfl
        have st3 : exSs P (PV.run P LM (n + 3)) (flOf P LM (n + 3)) E1 [.asg (.six (.var 9) (.var 14)) cTup] s5 = .ok .nx E1 (s6.set (LX a R) (some (.lst ((fs3.set i.toNat v).map .v)))) := (seq_nx hx).trans rfl
        rw [st3, hE1]
        rfl
      · rcases List.mem_or_eq_of_mem_set ht with h | h
        · exact wide (h3 t h)
        · rw [h]; exact hv
  -- the end
  obtain ⟨E2, hE2⟩ : ∃ E2 : PV.Env, E2 = P1 a ks hs w rs b o7 wd2 (LX a R) o4 o11 o12 o13 o14 := ⟨_, rfl⟩
  obtain ⟨s5, e5, t5⟩ := frz_ok (n := n + 3) (env := E2) (i := 9) (by subst hE2; rfl) t4
  have e3 : ∀ s, ev P (PV.run P LM (n + 3)) (flOf P LM (n + 3)) E2 (.ix (.var 6) (.int 3)) s = .ok (.v (.str b)) s := fun s => by subst hE2; rfl
  have am : ET (n + 3) a (R ++ [none]) E2 (.bin false .add (.ix (.var 8) (.ix (.var 6) (.int 3))) (.ite (.cmp .eq (.var 5) (.int 3)) (.call false 6 [(.var 0), (.int 3)] [] []) (.int 0))) (isI (-20) 30) := by
    subst hE2
    refine (ET.addI (l1 := -1) (h1 := 4) (l2 := 0) (h2 := 2) (ET.wget (d := wd2) rfl hw2 (.of e3 ⟨_, rfl, b, hb, rfl⟩)) (.ite (.of (fun s => wayE (r := r) rfl s) ⟨_, rfl⟩) ?_ ((ET.intI (i := 0)).wide (by decide) (by decide)))).wide (by decide) (by decide)
    exact (pickC (n := n + 2) (k := 3) rfl (by decide) (by decide)).wide (by decide) (by decide)
  obtain ⟨dc, s6, e6, t6, c, rfl, c0, c1⟩ := am s5 t5
  have hv2 : ev P (PV.run P LM (n + 3)) (flOf P LM (n + 3)) E2 (.var 2) s4 = .ok (.v (.lst (tS ks))) s4 := by subst hE2; rfl
  have hv3 : ev P (PV.run P LM (n + 3)) (flOf P LM (n + 3)) E2 (.var 3) s4 = .ok (.v (.lst (tS hs))) s4 := by subst hE2; rfl
  have lst := ev_lstm (evst_c hv2 (evst_c hv3 (evst_c e5 (evst_c (e3 s5) (evst_c e6 (show evst P (PV.run P LM (n + 3)) (flOf P LM (n + 3)) E2 [] s6 = .ok [] s6 from rfl)))))) rfl
  rw [hR, List.append_assoc] at t6
  obtain ⟨s7, e7, t7⟩ := t6.less
  subst e7
  refine ⟨fs4, c, E2, r3 ++ [none], s7, ?_, t7, l4, h4', c0, c1⟩
  refine (g1 _).trans ((ex_asg e2 (by simp)).trans ((g3 _).trans ((g4 _).trans ?_)))
  rw [← hE2]
  exact ex_ret lst
theorem drawn_plan (n : Nat) {s : Sto} (t : TS a r s) (pa : Pl a) (prr : Pl r) : ∃ (ks hs : List Str) (rs : List T) (b : Str) (c : Int) (s' : Sto), PV.run P LM (n + 4) false 12 [.ref a.length, .v (.int 4)] s = .ok (.ref s.length) (s' ++ [some (.lst ((planD ks hs rs b c).map .v))]) ∧ TS a r s' ∧ PlanOk ks hs rs b c := by
  obtain ⟨ks, hs, w, rs, b, o7, wd, s1, g1, t1, h1, h2, h3, h4, h5, h6, h7, h8, h9, h10, h11⟩ := plan_head n t pa prr
  obtain ⟨rs', c, env', r', s', e, t', q1, q2, q3, q4⟩ := plan_tail n t1 pa prr h1 h2 h3 h4 h5 h7 h9 h10 h11
  refine ⟨ks, hs, rs', b, c, s', ?_, t', h4, h5, h6, h7, h8, q1, q2, h11, q3, q4⟩
  rw [run_eq (d := f_law_drawn_plan) rfl rfl]
  refine (congrArg (finR false false s.length) ((g1 _).trans e)).trans ?_
  rw [List.append_assoc]
  refine fin_ref rfl (t.len t') (t'.pl pa prr) ?_ ?_
  · rw [List.length_append, t.len t']; omega
  · rw [← List.append_assoc]; exact clE
end
end K03
end
section
set_option Elab.async false
set_option linter.all false
set_option maxRecDepth 1000000
set_option maxHeartbeats 4000000
set_option exponentiation.threshold 100
/-! E14: the tape made. -/
namespace K03
open PySem PV
theorem bits_abs {z : Int} (h : Builtin.Int.intBits z ≤ 1048576) : z.natAbs < 2 ^ 1048577 := by
  by_cases e : z.natAbs = 0
  · rw [e]; exact Nat.two_pow_pos _
  · refine (Nat.log2_lt e).mp ?_
    unfold Builtin.Int.intBits at h
    split at h
    · rename_i hz
      have := eq_of_beq hz
      subst this
      exact absurd rfl e
    · omega
theorem mul_self_ok {z : Int} (h : z.natAbs < 2 ^ 1048577) : okMul z z = true := by
  unfold okMul
  rw [Bool.or_eq_true]
  right
  refine decide_eq_true ?_
  by_cases e : z.natAbs = 0
  · rw [e]; decide
  · have := (Nat.log2_lt e).mpr h
    omega
theorem mix_ok {m z : Int} (h0 : 0 ≤ m) (h1 : m < 4294967296) (h : z.natAbs < 2 ^ 1048577) : okPow (m * 30029 + z * z + 13) 2 = true := by
  refine okPow_small (k := 2) ?_ (by decide)
  have hz : z * z = ((z.natAbs * z.natAbs : Nat) : Int) := (Int.natAbs_mul_self (a := z)).symm
  have hz2 : z.natAbs * z.natAbs < 2 ^ 2097154 := by
    calc z.natAbs * z.natAbs ≤ z.natAbs * 2 ^ 1048577 := Nat.mul_le_mul_left _ (Nat.le_of_lt h)
      _ < 2 ^ 1048577 * 2 ^ 1048577 := Nat.mul_lt_mul_of_pos_right h (Nat.two_pow_pos _)
      _ = 2 ^ 2097154 := by rw [← Nat.pow_add]
  have hp : (281474976710656 : Nat) ≤ 2 ^ 2097154 := by
    calc (281474976710656 : Nat) = 2 ^ 48 := by decide
      _ ≤ 2 ^ 2097154 := Nat.pow_le_pow_right (by decide) (by decide)
  obtain ⟨q, hq⟩ : ∃ q, q = z.natAbs * z.natAbs := ⟨_, rfl⟩
  obtain ⟨w, hw⟩ : ∃ w, w = 2 ^ 2097154 := ⟨_, rfl⟩
  rw [← hq, ← hw] at hz2
  rw [← hw] at hp
  have h3 : (m * 30029 + z * z + 13).natAbs < w + w := by
    rw [hz, ← hq]; omega
  by_cases e : (m * 30029 + z * z + 13).natAbs = 0
  · rw [e]; decide
  · have h4 : (m * 30029 + z * z + 13).natAbs < 2 ^ 2097155 := by
      have : w + w = 2 ^ 2097155 := by
        rw [hw, Nat.pow_succ 2 2097154, Nat.mul_two]
      rw [← this]; exact h3
    have := (Nat.log2_lt e).mpr h4
    omega
theorem fin_dct {L : Nat} {d m : Int} {e : PV.Env} {s : Sto} (hl : L = s.length) (p : Pl s) : finR false false L (.ok (.rt (.ref L)) e (s ++ [tp d m])) = .ok (.ref L) (s ++ [tp d m]) := by
  subst hl
  have e1 : (s ++ [tp d m]).take s.length = s := by simp
  show trim s.length (.ref s.length) (s ++ [tp d m]) = _
  have cl : (Cell.dct false [(.str "digits", .v (.int d)), (.str "mixed", .v (.int m))]).closed s.length = true := rfl
  unfold trim
  rw [e1, p.closed, show (D.ref s.length).closed s.length = false from decide_eq_false (by omega)]
  dsimp only [Bool.false_and, Bool.and_true]
  rw [decide_eq_true (Nat.le_refl _), show cellAt (s ++ [tp d m]) s.length = some _ from clE]
  dsimp only
  rw [cl]
  rfl
def bitsOk (ns : List Int) : Prop := ∀ z ∈ ns, Builtin.Int.intBits z ≤ 1048576
theorem item_s {ns : List Int} {i : Int} {s : Sto} (h0 : 0 ≤ i) (h1 : i < ns.length) : ∃ z ∈ ns, item (.v (.scr ns)) (.v (.int i)) s = .ok (.v (.int z)) s := by
  have hl : i.toNat < ns.length := by omega
  refine ⟨ns[i.toNat], List.getElem_mem hl, ?_⟩
  show M.opt (((place ns.length i).bind fun j => ns[j]?).map fun i => D.v (T.int i)) s = _
  unfold place
  rw [if_pos h0, if_pos h1]
  show M.opt ((ns[i.toNat]?).map fun i => D.v (T.int i)) s = _
  rw [List.getElem?_eq_getElem hl]; rfl
abbrev bMix : List S := [.asg (.pt (.nm 2)) (.bin false .add (.bin false .mod (.bi false .int [(.bin false .pow (.bin false .add (.bin false .add (.bin false .mul (.var 2) (.int 30029)) (.bin false .mul (.var 3) (.var 3))) (.int 13)) (.int 2))]) (.int 2147483563)) (.int 2))]
theorem mix_step (n : Nat) {m z : Int} {o0 o1 : Option D} {s : Sto} (h0 : 0 ≤ m) (h1 : m < 4294967296) (hz : z.natAbs < 2 ^ 1048577) : ∃ m', exSs P (PV.run P LM n) (flOf P LM n) [o0, o1, some (.v (.int m)), some (.v (.int z)), none] bMix s = .ok .nx [o0, o1, some (.v (.int m')), some (.v (.int z)), none] s ∧ 0 ≤ m' ∧ m' < 4294967296 := by
  have k1 : okMul m 30029 = true := okMul_r (by decide) (by decide)
  have k2 := mul_self_ok hz
  have k3 := mix_ok h0 h1 hz
  obtain ⟨v, hv⟩ : ∃ v, v = (m * 30029 + z * z + 13) ^ 2 := ⟨_, rfl⟩
  have e1 : ∀ s, ev P (PV.run P LM n) (flOf P LM n) [o0, o1, some (.v (.int m)), some (.v (.int z)), none] (.bin false .pow (.bin false .add (.bin false .add (.bin false .mul (.var 2) (.int 30029)) (.bin false .mul (.var 3) (.var 3))) (.int 13)) (.int 2)) s = .ok (.v (.int v)) s := fun s => by
    have a1 : ∀ s, ev P (PV.run P LM n) (flOf P LM n) [o0, o1, some (.v (.int m)), some (.v (.int z)), none] (.bin false .mul (.var 2) (.int 30029)) s = .ok (.v (.int (m * 30029))) s := fun s => (ev_bin (x := .v (.int m)) (y := .v (.int 30029)) (s1 := s) (s2 := s) rfl rfl).trans (b_mul _ _ _ _ k1)
    have a2 : ∀ s, ev P (PV.run P LM n) (flOf P LM n) [o0, o1, some (.v (.int m)), some (.v (.int z)), none] (.bin false .mul (.var 3) (.var 3)) s = .ok (.v (.int (z * z))) s := fun s => (ev_bin (x := .v (.int z)) (y := .v (.int z)) (s1 := s) (s2 := s) rfl rfl).trans (b_mul _ _ _ _ k2)
    have a3 := (ev_bin (m := false) (o := .add) (a1 s) (a2 s)).trans (b_add _ _ _ _)
    have a4 := (ev_bin (m := false) (o := .add) a3 (show ev P (PV.run P LM n) (flOf P LM n) [o0, o1, some (.v (.int m)), some (.v (.int z)), none] (.int 13) s = .ok (.v (.int 13)) s from rfl)).trans (b_add _ _ _ _)
    have a5 := (ev_bin (m := false) (o := .pow) a4 (show ev P (PV.run P LM n) (flOf P LM n) [o0, o1, some (.v (.int m)), some (.v (.int z)), none] (.int 2) s = .ok (.v (.int 2)) s from rfl)).trans (b_pow _ _ _ _ k3)
    rw [hv]
    exact a5
  have a6 := (ev_bi1 (m := false) (bb := .int) (e1 s)).trans (bi_int _ _ _)
  have a7 := (ev_bin (m := false) (o := .mod) a6 (show ev P (PV.run P LM n) (flOf P LM n) [o0, o1, some (.v (.int m)), some (.v (.int z)), none] (.int 2147483563) s = .ok (.v (.int 2147483563)) s from rfl)).trans (b_mod _ _ _ _ (by decide))
  have a8 := (ev_bin (m := false) (o := .add) a7 (show ev P (PV.run P LM n) (flOf P LM n) [o0, o1, some (.v (.int m)), some (.v (.int z)), none] (.int 2) s = .ok (.v (.int 2)) s from rfl)).trans (b_add _ _ _ _)
  have b1 : 0 ≤ v % 2147483563 := Int.emod_nonneg _ (by decide)
  have b2 : v % 2147483563 < 2147483563 := Int.emod_lt_of_pos _ (by decide)
  exact ⟨v % 2147483563 + 2, (ex_asg a8 (by simp)).trans rfl, by omega, by omega⟩
theorem tape_made (n : Nat) {s : Sto} {ns : List Int} {i : Int} (p : Pl s) (hb : bitsOk ns) (i0 : 0 ≤ i) (i1 : i < 10) : ∃ d m, PV.run P LM (n + 1) false 5 [.v (.scr ns), .v (.int i)] s = .ok (.ref s.length) (s ++ [tp d m]) ∧ TapeOk d m := by
  obtain ⟨env', s', e, m', o3, rfl, hs', h0, h1, _⟩ := forL_inv (g := .nm 3) (body := fun e s => exSs P (PV.run P LM n) (flOf P LM n) e bMix s) (fun xs env st => ∃ (m : Int) (o3 : Option D), env = [some (.v (.scr ns)), some (.v (.int i)), some (.v (.int m)), o3, none] ∧ st = s ∧ 0 ≤ m ∧ m < 4294967296 ∧ ∀ x ∈ xs, ∃ z, x = D.v (.int z) ∧ z.natAbs < 2 ^ 1048577)
    (fun x r env st ⟨m, o3, e1, e2, h0, h1, h2⟩ => by
      subst e1 e2
      obtain ⟨z, rfl, hz⟩ := h2 x (List.mem_cons_self ..)
      obtain ⟨m2, g, k0, k1⟩ := mix_step n (o0 := some (.v (.scr ns))) (o1 := some (.v (.int i))) (s := st) h0 h1 hz
      exact ⟨_, rfl, _, st, g, m2, _, rfl, rfl, k0, k1, fun y hy => h2 y (List.mem_cons_of_mem _ hy)⟩)
    (ns.map fun i => .v (.int i)) [some (.v (.scr ns)), some (.v (.int i)), some (.v (.int (101 + i * 53))), none, none] s ⟨101 + i * 53, none, rfl, rfl, by omega, by omega, fun x hx => by
      obtain ⟨z, hz, rfl⟩ := List.mem_map.mp hx
      exact ⟨z, rfl, bits_abs (hb z hz)⟩⟩
  rw [hs'] at e
  have st1 : ∀ rest, exSs P (PV.run P LM n) (flOf P LM n) [some (.v (.scr ns)), some (.v (.int i)), none, none, none] (.asg (.pt (.nm 2)) (.bin false .add (.int 101) (.bin false .mul (.var 1) (.int 53))) :: rest) s = exSs P (PV.run P LM n) (flOf P LM n) [some (.v (.scr ns)), some (.v (.int i)), some (.v (.int (101 + i * 53))), none, none] rest s := fun rest => by
    have a1 : ev P (PV.run P LM n) (flOf P LM n) [some (.v (.scr ns)), some (.v (.int i)), none, none, none] (.bin false .mul (.var 1) (.int 53)) s = .ok (.v (.int (i * 53))) s := (ev_bin (x := .v (.int i)) (y := .v (.int 53)) (s1 := s) (s2 := s) rfl rfl).trans (b_mul _ _ _ _ (okMul_r (by decide) (by decide)))
    exact ex_asg ((ev_bin (m := false) (o := .add) (show ev P (PV.run P LM n) (flOf P LM n) [some (.v (.scr ns)), some (.v (.int i)), none, none, none] (.int 101) s = .ok (.v (.int 101)) s from rfl) a1).trans (b_add _ _ _ _)) (by simp)
  obtain ⟨E, hE⟩ : ∃ E : PV.Env, E = [some (.v (.scr ns)), some (.v (.int i)), some (.v (.int m')), o3, none] := ⟨_, rfl⟩
  have pw : ∀ s, ev P (PV.run P LM n) (flOf P LM n) E (.bin false .pow (.int 10) (.int 18)) s = .ok (.v (.int 1000000000000000000)) s := fun s => by
    refine (ev_bin (x := .v (.int 10)) (y := .v (.int 18)) (s1 := s) (s2 := s) rfl rfl).trans ?_
    exact b_pow _ _ _ _ (by decide +kernel)
  have ln : ev P (PV.run P LM n) (flOf P LM n) E (.cmp .lt (.var 1) (.bi false .len [(.var 0)])) s = .ok (.v (.bl (decide (i < ns.length)))) s := by
    subst hE
    exact (ev_cmp (x := .v (.int i)) (y := .v (.int ns.length)) (s1 := s) (s2 := s) rfl rfl).trans (c_lt _ _ _)
  have dg : ∃ d, 0 ≤ d ∧ ev P (PV.run P LM n) (flOf P LM n) E (.ite (.and (.cmp .lt (.var 1) (.bi false .len [(.var 0)])) (.cmp .ge (.ix (.var 0) (.var 1)) (.bin false .pow (.int 10) (.int 18)))) (.bin false .sub (.ix (.var 0) (.var 1)) (.bin false .pow (.int 10) (.int 18))) (.int 0)) s = .ok (.v (.int d)) s := by
    have f0 : ∀ {b : Bool} {x : C}, ev P (PV.run P LM n) (flOf P LM n) E x s = .ok (.v (.bl b)) s → ∀ y z, ev P (PV.run P LM n) (flOf P LM n) E (.ite x y z) s = if b = true then ev P (PV.run P LM n) (flOf P LM n) E y s else ev P (PV.run P LM n) (flOf P LM n) E z s := fun {b x} h y z => by
      show ((ev P (PV.run P LM n) (flOf P LM n) E x s).bind _) = _
      rw [h]
      cases b <;> rfl
    by_cases hl : i < ns.length
    · obtain ⟨z, hz, ez⟩ := item_s (s := s) i0 hl
      have ix : ev P (PV.run P LM n) (flOf P LM n) E (.ix (.var 0) (.var 1)) s = .ok (.v (.int z)) s := by
        subst hE
        exact (ev_ix (x := .v (.scr ns)) (y := .v (.int i)) (s1 := s) (s2 := s) rfl rfl).trans ez
      have ge := (ev_cmp (o := .ge) ix (pw s)).trans (c_ge _ _ _)
      rw [decide_eq_true hl] at ln
      have an := (ev_and_t (b := .cmp .ge (.ix (.var 0) (.var 1)) (.bin false .pow (.int 10) (.int 18))) ln).trans ge
      by_cases hg : 1000000000000000000 ≤ z
      · refine ⟨z - 1000000000000000000, by omega, ?_⟩
        rw [f0 an, if_pos (decide_eq_true hg)]
        exact (ev_bin (m := false) (o := .sub) ix (pw s)).trans (b_sub _ _ _ _)
      · refine ⟨0, by omega, ?_⟩
        rw [f0 an, if_neg (by simpa using hg)]
        rfl
    · rw [decide_eq_false hl] at ln
      refine ⟨0, by omega, ?_⟩
      rw [f0 (ev_and_f ln), if_neg (by simp)]
      rfl
  obtain ⟨d, d0, ed⟩ := dg
  refine ⟨d, m', ?_, d0, h0, h1⟩
  rw [run_eq (d := f_law_tape) rfl rfl]
  have iw : evi P (PV.run P LM n) (flOf P LM n) [some (.v (.scr ns)), some (.v (.int i)), some (.v (.int (101 + i * 53))), none, none] (.it (.var 0)) s = .ok (ns.map fun i => .v (.int i)) s := rfl
  refine (congrArg (finR false false s.length) ((st1 _).trans ((ex_for iw e).trans ?_))).trans (fin_dct (e := E.set 4 (some (.v (.int d)))) rfl p)
  rw [← hE]
  refine (ex_asg ed (by subst hE; simp)).trans (ex_ret ?_)
  subst hE
  rfl
end K03
end
section
set_option Elab.async false
set_option linter.all false
set_option maxRecDepth 1000000
set_option maxHeartbeats 4000000
/-! E15: rules bent. -/
namespace K03
open PySem PV
def allW : List Str := ["h", "g", "l", "m", "letterbx", "x", "A", "abcdefghi", "q", "z", "", "1", "a", "b", "c", "d", "e", "f", "i", "j", "k", "n", "o", "p"]
def leafI (i : Int) : Bool := decide (-1000 ≤ i ∧ i ≤ 1000) || decide (i = 1000000000000000000000000000000000000000)
/-- small data -/
def el : Nat → T → Bool
  | k + 1, .tup ts => decide (ts.length ≤ 10) && ts.all (el k)
  | k + 1, .lst ts => decide (ts.length ≤ 10) && ts.all (el k)
  | _, .int i => leafI i
  | _, .str x => decide (x ∈ allW)
  | _, .non => true
  | _, .bl _ => true
  | _, _ => false
theorem el_tup {k : Nat} {ts : List T} : el (k + 1) (.tup ts) = true ↔ ts.length ≤ 10 ∧ ∀ t ∈ ts, el k t = true := by
  show (decide (ts.length ≤ 10) && ts.all (el k)) = true ↔ _
  rw [Bool.and_eq_true, decide_eq_true_iff, List.all_eq_true]
theorem el_lst {k : Nat} {ts : List T} : el (k + 1) (.lst ts) = true ↔ ts.length ≤ 10 ∧ ∀ t ∈ ts, el k t = true := by
  show (decide (ts.length ≤ 10) && ts.all (el k)) = true ↔ _
  rw [Bool.and_eq_true, decide_eq_true_iff, List.all_eq_true]
theorem el_str {k : Nat} {x : Str} (h : x ∈ allW) : el k (.str x) = true := by cases k <;> exact decide_eq_true h
theorem el_up : ∀ (k : Nat) (t : T), el k t = true → el (k + 1) t = true
  | 0, t, h => by cases t <;> first | exact h | cases h
  | k + 1, .tup ts, h => by
    rw [el_tup] at h ⊢
    exact ⟨h.1, fun t ht => el_up k t (h.2 t ht)⟩
  | k + 1, .lst ts, h => by
    rw [el_lst] at h ⊢
    exact ⟨h.1, fun t ht => el_up k t (h.2 t ht)⟩
  | k + 1, .int i, h => h
  | k + 1, .str i, h => h
  | k + 1, .non, h => h
  | k + 1, .bl _, h => h
  | k + 1, .dct _ _, h => by cases h
  | k + 1, .obj _ _, h => by cases h
  | k + 1, .scr _, h => by cases h
theorem el_mono {j k : Nat} {t : T} (h : el j t = true) (hjk : j ≤ k) : el k t = true := by
  induction hjk with
  | refl => exact h
  | step _ ih => exact el_up _ t ih
theorem el_shape : ∀ (k : Nat) (t : T), el k t = true → T.shape k t = true
  | 0, t, h => by cases t <;> first | rfl | cases h
  | k + 1, .tup ts, h => List.all_eq_true.mpr fun t ht => el_shape k t ((el_tup.mp h).2 t ht)
  | k + 1, .lst ts, h => List.all_eq_true.mpr fun t ht => el_shape k t ((el_lst.mp h).2 t ht)
  | k + 1, .int i, h => rfl
  | k + 1, .str i, h => rfl
  | k + 1, .non, h => rfl
  | k + 1, .bl _, h => rfl
  | k + 1, .dct _ _, h => by cases h
  | k + 1, .obj _ _, h => by cases h
  | k + 1, .scr _, h => by cases h
theorem el_flat {k : Nat} {t : T} (h : el k t = true) (hk : k ≤ 39) : T.shape 39 t = true := el_shape 39 t (el_mono h hk)
theorem el_flat40 {k : Nat} {t : T} (h : el k t = true) (hk : k ≤ 40) : t.flat = true := el_shape 40 t (el_mono h hk)
theorem base_all {x : Str} (h : x ∈ base6) : x ∈ allW := by
  have : ∀ y ∈ base6, y ∈ allW := by decide
  exact this x h
theorem letter_all {x : Str} (h : x ∈ letters) : x ∈ allW := by
  have : ∀ y ∈ letters, y ∈ allW := by decide
  exact this x h
theorem tS_el {o : List Str} (h : ∀ x ∈ o, x ∈ allW) (hl : o.length ≤ 10) : el 1 (.tup (tS o)) = true ∧ el 1 (.lst (tS o)) = true := by
  refine ⟨el_tup.mpr ⟨by rw [tS_len]; exact hl, fun t ht => ?_⟩, el_lst.mpr ⟨by rw [tS_len]; exact hl, fun t ht => ?_⟩⟩ <;>
  · obtain ⟨x, hx, rfl⟩ := mem_tS.mp ht
    exact el_str (h x hx)
theorem leaf_small {i : Int} (h : -1000 ≤ i) (h2 : i ≤ 1000) : leafI i = true := by
  unfold leafI
  rw [decide_eq_true ⟨h, h2⟩]; rfl
theorem rule_el {ks : List Str} {t : T} (h : IsRule ks (-20) 30 t) (hk : ∀ k ∈ ks, k ∈ base6) : el 2 t = true := by
  obtain ⟨nm, k, o, c, h1, h2, h3, h4, h5, h6, rfl⟩ := h
  refine el_tup.mpr ⟨by simp, fun t ht => ?_⟩
  simp only [List.mem_cons, List.not_mem_nil, or_false] at ht
  rcases ht with rfl | rfl | rfl | rfl
  · exact el_str (letter_all h1)
  · exact el_str (base_all (hk k h2))
  · exact (tS_el (fun x hx => base_all (hk x (h3 x hx))) (by omega)).1
  · exact leaf_small (by omega) (by omega)
def tup4 : T → Bool
  | .tup ts => decide (ts.length = 4)
  | _ => false
section
variable {n : Nat} {env : PV.Env} {i : Nat}
theorem isi_t {own : List Nat} {ty : List (Sum Ty Nat)} {t : T} {k : Nat} (h : el k t = true) (hc : ty.all (clsIn own) = true) (s : Sto) : ∃ kd : Kd, kindOf s (.v t) = some kd ∧ ownIn own kd = true ∧ isiK own ty (.v t) s = .ok (.v (.bl (ty.any kd.is))) s := by
  have key : ∀ kd : Kd, kindOf s (.v t) = some kd → ownIn own kd = true → isiK own ty (.v t) s = .ok (.v (.bl (ty.any kd.is))) s := fun kd e o => by
    unfold isiK isinst
    rw [e]
    dsimp only
    unfold isaK
    rw [o, hc]; rfl
  cases t with
  | non => exact ⟨.non, rfl, rfl, key _ rfl rfl⟩
  | bl b => exact ⟨.bool, rfl, rfl, key _ rfl rfl⟩
  | int b => exact ⟨.int, rfl, rfl, key _ rfl rfl⟩
  | str b => exact ⟨.str, rfl, rfl, key _ rfl rfl⟩
  | tup b => exact ⟨.tuple, rfl, rfl, key _ rfl rfl⟩
  | lst b => exact ⟨.list, rfl, rfl, key _ rfl rfl⟩
  | dct b c => cases k <;> cases h
  | obj b c => cases k <;> cases h
  | scr b => cases k <;> cases h
theorem ev_isi {P : Pr} {F : Bool → Nat → List D → M D} {FL : Nat → PV.Env → M D} {c : C} {cs : List (Sum Ty Nat)} {s s1 : Sto} {d : D} (h : ev P F FL env c s = .ok d s1) : ev P F FL env (.isi c cs) s = isiK P.own cs d s1 := by
  show ((ev P F FL env c s).bind (isiK P.own cs)) = _
  rw [h]; rfl
theorem ev_v {P : Pr} {F : Bool → Nat → List D → M D} {FL : Nat → PV.Env → M D} {d : D} {s : Sto} (h : env[i]? = some (some d)) : ev P F FL env (.var i) s = .ok d s := by
  show M.opt ((env[i]?).bind id) s = _
  rw [h]; rfl
/-- is it a tuple of four -/
theorem tup4_ok {t : T} {k : Nat} (h : el k t = true) (hv : env[i]? = some (some (.v t))) (s : Sto) : ev P (PV.run P LM n) (flOf P LM n) env (.and (.isi (.var i) [.inl .tuple]) (.cmp .eq (.bi false .len [(.var i)]) (.int 4))) s = .ok (.v (.bl (tup4 t))) s := by
  obtain ⟨kd, e1, e2, e3⟩ := isi_t (own := P.own) (ty := [.inl .tuple]) h rfl s
  have a1 := (ev_isi (P := P) (F := PV.run P LM n) (FL := flOf P LM n) (cs := [.inl .tuple]) (ev_v hv (s := s))).trans e3
  have tl : ∀ ts, t = .tup ts → ev P (PV.run P LM n) (flOf P LM n) env (.cmp .eq (.bi false .len [(.var i)]) (.int 4)) s = .ok (.v (.bl (tup4 t))) s := fun ts e => by
    subst e
    refine (ev_cmp (o := .eq) ((ev_bi1 (m := false) (bb := .len) (ev_v hv)).trans (bi_len_t ts s false)) (show ev P (PV.run P LM n) (flOf P LM n) env (.int 4) s = .ok (.v (.int 4)) s from rfl)).trans ((c_eqi _ _ _).trans ?_)
    have : decide ((ts.length : Int) = 4) = decide (ts.length = 4) := by
      by_cases h : ts.length = 4
      · rw [decide_eq_true h, h]; rfl
      · rw [decide_eq_false h, decide_eq_false (by omega)]
    rw [this]; rfl
  cases t with
  | tup ts =>
    have : kd = .tuple := (Option.some.inj e1).symm
    subst this
    exact (ev_and_t a1).trans (tl ts rfl)
  | non => have : kd = .non := (Option.some.inj e1).symm; subst this; exact ev_and_f a1
  | bl b => have : kd = .bool := (Option.some.inj e1).symm; subst this; exact ev_and_f a1
  | int b => have : kd = .int := (Option.some.inj e1).symm; subst this; exact ev_and_f a1
  | str b => have : kd = .str := (Option.some.inj e1).symm; subst this; exact ev_and_f a1
  | lst b => have : kd = .list := (Option.some.inj e1).symm; subst this; exact ev_and_f a1
  | dct b c => cases k <;> cases h
  | obj b c => cases k <;> cases h
  | scr b => cases k <;> cases h
end
end K03
end
section
set_option Elab.async false
set_option linter.all false
set_option maxRecDepth 1000000
set_option maxHeartbeats 4000000
/-! E16: rules bent, whole. -/
namespace K03
open PySem PV
theorem b_addl {xs ys : List T} (s : Sto) (h : xs.length + ys.length ≤ 1000000) : binop false .add (.v (.lst xs)) (.v (.lst ys)) s = .ok (.v (.lst (xs ++ ys))) s := by
  show ((guardM (decide ((xs.map D.v).length + (ys.map D.v).length ≤ LIM)) s).bind fun _ => mkL false (xs.map D.v ++ ys.map D.v)) = _
  rw [decide_eq_true (by rw [List.length_map, List.length_map, show LIM = 16000000 from rfl]; omega), ← List.map_append]
  exact mkL_f _ s
theorem b_addt {xs ys : List T} (s : Sto) (h : xs.length + ys.length ≤ 1000000) : binop false .add (.v (.tup xs)) (.v (.tup ys)) s = .ok (.v (.tup (xs ++ ys))) s := by
  show ((guardM (decide ((xs.map D.v).length + (ys.map D.v).length ≤ LIM)) s).bind fun _ => M.ret (mkT (xs.map D.v ++ ys.map D.v))) = _
  rw [decide_eq_true (by rw [List.length_map, List.length_map, show LIM = 16000000 from rfl]; omega), ← List.map_append, mkT_v]
  rfl
abbrev bent1 (x0 x1 x2 x3 : T) (k : Str) : List T := [.non, .lst [x0, x1, x2, x3], .tup [x0, x1, x2], .tup [x0, x1, x2, x3, .int 0], .tup [.str "A", x1, x2, x3], .tup [.str "abcdefghi", x1, x2, x3], .tup [x0, .str "q", x2, .int 0], .tup [x0, .str k, .tup [.str "q"], .int 0], .tup [x0, .str k, .lst [.str k], .int 0]]
abbrev bent2 (x0 : T) (k : Str) (odd : T) : List T := [.tup [x0, .str k, .tup [.str k, .str "q"], .int 0], .tup [x0, .str k, .tup [.str "q", .str k], .int 0], .tup [x0, .str k, .tup [.str k], odd], .tup [.lst [], .str k, .tup [], .int 0], .tup [x0, .lst [.str k], .tup [], .int 0]]
abbrev bent3 (x0 x1 x2 x3 : T) (k : Str) : List T := [.tup [x0, .str k, .tup [.lst [.str k]], .int 0], .tup [x0, x1, x2, x3], .tup [x0, x1, x2, x3], .str "z"]
theorem bent_el {x0 x1 x2 x3 odd : T} {k : Str} (h0 : el 2 x0 = true) (h1 : el 2 x1 = true) (h2 : el 2 x2 = true) (h3 : el 2 x3 = true) (ho : el 2 odd = true) (hk : k ∈ allW) : ∀ u ∈ bent1 x0 x1 x2 x3 k ++ bent2 x0 k odd ++ bent3 x0 x1 x2 x3 k, el 3 u = true := by
  have sk : ∀ j, el j (.str k) = true := fun j => el_str hk
  have i0 : ∀ j, el j (.int 0) = true := fun j => by cases j <;> rfl
  have sq : ∀ j, el j (.str "q") = true := fun j => el_str (by decide)
  have t4 : ∀ {a b c d : T}, el 2 a = true → el 2 b = true → el 2 c = true → el 2 d = true → el 3 (.tup [a, b, c, d]) = true := fun ha hb hc hd => el_tup.mpr ⟨by simp, fun t ht => by
    simp only [List.mem_cons, List.not_mem_nil, or_false] at ht
    rcases ht with rfl | rfl | rfl | rfl <;> assumption⟩
  have l1 : ∀ {j : Nat} {a : T}, el j a = true → el (j + 1) (.lst [a]) = true := fun ha => el_lst.mpr ⟨by simp, fun t ht => by rw [List.mem_singleton.mp ht]; exact ha⟩
  have u1 : ∀ {j : Nat} {a : T}, el j a = true → el (j + 1) (.tup [a]) = true := fun ha => el_tup.mpr ⟨by simp, fun t ht => by rw [List.mem_singleton.mp ht]; exact ha⟩
  have u2 : ∀ {j : Nat} {a b : T}, el j a = true → el j b = true → el (j + 1) (.tup [a, b]) = true := fun ha hb => el_tup.mpr ⟨by simp, fun t ht => by
    simp only [List.mem_cons, List.not_mem_nil, or_false] at ht
    rcases ht with rfl | rfl <;> assumption⟩
  intro u hu
  simp only [List.mem_append, List.mem_cons, List.not_mem_nil, or_false] at hu
  rcases hu with ((rfl | rfl | rfl | rfl | rfl | rfl | rfl | rfl | rfl) | (rfl | rfl | rfl | rfl | rfl)) | (rfl | rfl | rfl | rfl)
  · rfl
  · refine el_lst.mpr ⟨by simp, fun t ht => ?_⟩
    simp only [List.mem_cons, List.not_mem_nil, or_false] at ht
    rcases ht with rfl | rfl | rfl | rfl <;> assumption
  · refine el_tup.mpr ⟨by simp, fun t ht => ?_⟩
    simp only [List.mem_cons, List.not_mem_nil, or_false] at ht
    rcases ht with rfl | rfl | rfl <;> assumption
  · refine el_tup.mpr ⟨by simp, fun t ht => ?_⟩
    simp only [List.mem_cons, List.not_mem_nil, or_false] at ht
    rcases ht with rfl | rfl | rfl | rfl | rfl <;> first | assumption | exact i0 2
  · exact t4 (el_str (by decide)) h1 h2 h3
  · exact t4 (el_str (by decide)) h1 h2 h3
  · exact t4 h0 (sq 2) h2 (i0 2)
  · exact t4 h0 (sk 2) (u1 (sq 1)) (i0 2)
  · exact t4 h0 (sk 2) (l1 (sk 1)) (i0 2)
  · exact t4 h0 (sk 2) (u2 (sk 1) (sq 1)) (i0 2)
  · exact t4 h0 (sk 2) (u2 (sq 1) (sk 1)) (i0 2)
  · exact t4 h0 (sk 2) (u1 (sk 1)) ho
  · exact t4 (el_lst.mpr ⟨by simp, fun _ h => (nomatch h)⟩) (sk 2) (el_tup.mpr ⟨by simp, fun _ h => (nomatch h)⟩) (i0 2)
  · exact t4 h0 (l1 (sk 1)) (el_tup.mpr ⟨by simp, fun _ h => (nomatch h)⟩) (i0 2)
  · exact t4 h0 (sk 2) (u1 (l1 (sk 0))) (i0 2)
  · exact t4 h0 h1 h2 h3
  · exact t4 h0 h1 h2 h3
  · exact el_str (by decide)
theorem tup4_inv {t : T} (h : tup4 t = true) : ∃ x0 x1 x2 x3, t = .tup [x0, x1, x2, x3] := by
  cases t with
  | tup ts =>
    have h : ts.length = 4 := of_decide_eq_true h
    match ts, h with
    | [x0, x1, x2, x3], _ => exact ⟨x0, x1, x2, x3, rfl⟩
  | non => cases h
  | bl b => cases h
  | int b => cases h
  | str b => cases h
  | lst b => cases h
  | dct b c => cases h
  | obj b c => cases h
  | scr b => cases h
section
variable {a r : Sto}
abbrev cSome1 : C := (.lst false [(false, .non), (false, (.bi false .list [(.var 6)])), (false, (.sl false (.var 6) none (some (.int 3)))), (false, (.bin false .add (.var 6) (.tup [(false, (.int 0))]))), (false, (.bin false .add (.tup [(false, (.str "A"))]) (.sl false (.var 6) (some (.int 1)) none))), (false, (.bin false .add (.tup [(false, (.str "abcdefghi"))]) (.sl false (.var 6) (some (.int 1)) none))), (false, (.tup [(false, (.ix (.var 6) (.int 0))), (false, (.str "q")), (false, (.ix (.var 6) (.int 2))), (false, (.int 0))])), (false, (.tup [(false, (.ix (.var 6) (.int 0))), (false, (.var 2)), (false, (.tup [(false, (.str "q"))])), (false, (.int 0))])), (false, (.tup [(false, (.ix (.var 6) (.int 0))), (false, (.var 2)), (false, (.lst false [(false, (.var 2))])), (false, (.int 0))]))])
abbrev cSome2 : C := (.bin false .add (.var 7) (.lst false [(false, (.tup [(false, (.ix (.var 6) (.int 0))), (false, (.var 2)), (false, (.tup [(false, (.var 2)), (false, (.str "q"))])), (false, (.int 0))])), (false, (.tup [(false, (.ix (.var 6) (.int 0))), (false, (.var 2)), (false, (.tup [(false, (.str "q")), (false, (.var 2))])), (false, (.int 0))])), (false, (.tup [(false, (.ix (.var 6) (.int 0))), (false, (.var 2)), (false, (.tup [(false, (.var 2))])), (false, (.var 4))])), (false, (.tup [(false, (.lst false [])), (false, (.var 2)), (false, (.tup [])), (false, (.int 0))])), (false, (.tup [(false, (.ix (.var 6) (.int 0))), (false, (.lst false [(false, (.var 2))])), (false, (.tup [])), (false, (.int 0))]))]))
abbrev cSome3 : C := (.bin false .add (.var 7) (.lst false [(false, (.tup [(false, (.ix (.var 6) (.int 0))), (false, (.var 2)), (false, (.tup [(false, (.lst false [(false, (.var 2))]))])), (false, (.int 0))])), (false, (.var 6)), (false, (.var 6)), (false, (.str "z"))]))
abbrev B (a : Sto) (rs : List T) (k : Str) (o3 o4 o5 o6 o7 : Option D) : PV.Env := [some (.ref a.length), some (.v (.lst rs)), some (.v (.str k)), o3, o4, o5, o6, o7]
theorem some1 (n : Nat) {rs : List T} {k : Str} {o3 o4 o5 o7 : Option D} {x0 x1 x2 x3 : T} (s : Sto) : ev P (PV.run P LM n) (flOf P LM n) (B a rs k o3 o4 o5 (some (.v (.tup [x0, x1, x2, x3]))) o7) cSome1 s = .ok (.v (.lst (bent1 x0 x1 x2 x3 k))) s := by
  rfl
theorem some2 (n : Nat) {rs S : List T} {k : Str} {o3 o5 : Option D} {odd x0 x1 x2 x3 : T} (hS : S.length < 100) (s : Sto) : ev P (PV.run P LM n) (flOf P LM n) (B a rs k o3 (some (.v odd)) o5 (some (.v (.tup [x0, x1, x2, x3]))) (some (.v (.lst S)))) cSome2 s = .ok (.v (.lst (S ++ bent2 x0 k odd))) s := by
  refine (ev_bin (x := .v (.lst S)) (y := .v (.lst (bent2 x0 k odd))) (s1 := s) (s2 := s) rfl rfl).trans (b_addl s ?_)
  simp; omega
theorem some3 (n : Nat) {rs S : List T} {k : Str} {o3 o4 o5 : Option D} {x0 x1 x2 x3 : T} (hS : S.length < 100) (s : Sto) : ev P (PV.run P LM n) (flOf P LM n) (B a rs k o3 o4 o5 (some (.v (.tup [x0, x1, x2, x3]))) (some (.v (.lst S)))) cSome3 s = .ok (.v (.lst (S ++ bent3 x0 x1 x2 x3 k))) s := by
  refine (ev_bin (x := .v (.lst S)) (y := .v (.lst (bent3 x0 x1 x2 x3 k))) (s1 := s) (s2 := s) rfl rfl).trans (b_addl s ?_)
  simp; omega
theorem bent (n : Nat) {s : Sto} (t : TS a r s) {rs : List T} (hr : ∀ t ∈ rs, el 3 t = true) (hl : rs.length ≤ 20) {k : Str} (hk : k ∈ allW) : ∃ us s', PV.run P LM (n + 3) false 19 [.ref a.length, .v (.lst rs), .v (.str k)] s = .ok (.v (.lst us)) s' ∧ TS a r s' ∧ (∀ u ∈ us, el 3 u = true) ∧ us.length ≤ rs.length + 1 := by
  -- at, odd
  obtain ⟨d3, s1, e1, t1, i, rfl, i0, i1⟩ := ET.pick (n := n + 1) (a := a) (r := r) (env := B a rs k none none none none none) (c1 := .var 0) (c2 := .bin false .add (.bi false .len [(.var 1)]) (.int 1)) (k := rs.length + 1) (.var rfl rfl) (ET.imp (ET.addI (l1 := 0) (h1 := rs.length) (ET.imp (ET.lenl (A := fun ts => ts = rs) (.var rfl ⟨rs, rfl, rfl⟩)) fun d ⟨ts, e, e2⟩ => by subst e2; exact ⟨_, e, by omega, Int.le_refl _⟩) (ET.intI (i := 1))) fun d ⟨j, e, h1, h2⟩ => ⟨j, e, by omega, by omega⟩) (by omega) s t
  obtain ⟨d4, s2, e2, t2, odd, rfl, ho⟩ := ET.one (n := n) (a := a) (r := r) (env := B a rs k none none none none none) (c1 := .var 0) (c2 := .lst false [(false, .non), (false, (.bl true)), (false, (.str "1")), (false, (.tup [(false, (.int 1))])), (false, (.lst false []))]) (Y := fun t => el 2 t = true) (.var rfl rfl) (.of (d := .v (.lst [.non, .bl true, .str "1", .tup [.int 1], .lst []])) (fun _ => rfl) ⟨_, rfl, by simp, by decide, by decide⟩) s1 t1
  have st1 : ∀ rest, exSs P (PV.run P LM (n + 2)) (flOf P LM (n + 2)) (B a rs k none none none none none) (.asg (.pt (.tp [(.nm 3), (.nm 4)])) (.tup [(false, (.call false 6 [(.var 0), (.bin false .add (.bi false .len [(.var 1)]) (.int 1))] [] [])), (false, (.call false 7 [(.var 0), (.lst false [(false, .non), (false, (.bl true)), (false, (.str "1")), (false, (.tup [(false, (.int 1))])), (false, (.lst false []))])] [] []))]) :: rest) s = exSs P (PV.run P LM (n + 2)) (flOf P LM (n + 2)) (B a rs k (some (.v (.int i))) (some (.v odd)) none none none) rest s2 := fun rest => by
    have ee : ev P (PV.run P LM (n + 2)) (flOf P LM (n + 2)) (B a rs k none none none none none) (.tup [(false, (.call false 6 [(.var 0), (.bin false .add (.bi false .len [(.var 1)]) (.int 1))] [] [])), (false, (.call false 7 [(.var 0), (.lst false [(false, .non), (false, (.bl true)), (false, (.str "1")), (false, (.tup [(false, (.int 1))])), (false, (.lst false []))])] [] []))]) s = .ok (.v (.tup [.int i, odd])) s2 := by
      show ((evst P (PV.run P LM (n + 2)) (flOf P LM (n + 2)) (B a rs k none none none none none) [(false, (.call false 6 [(.var 0), (.bin false .add (.bi false .len [(.var 1)]) (.int 1))] [] [])), (false, (.call false 7 [(.var 0), (.lst false [(false, .non), (false, (.bl true)), (false, (.str "1")), (false, (.tup [(false, (.int 1))])), (false, (.lst false []))])] [] []))] s).bind _) = _
      rw [evst_c e1 (evst_c e2 (show evst P (PV.run P LM (n + 2)) (flOf P LM (n + 2)) (B a rs k none none none none none) [] s2 = .ok [] s2 from rfl))]
      rfl
    refine seq_nx (show withE _ (ev P (PV.run P LM (n + 2)) (flOf P LM (n + 2)) (B a rs k none none none none none) _ s) _ = _ from ?_)
    rw [ee]; rfl
  -- good
  have gd := comp_pure (P := P) (F := PV.run P LM (n + 2)) (FL := flOf P LM (n + 2)) (env := B a rs k (some (.v (.int i))) (some (.v odd)) none none none) (own := [6]) (i := 6) (it := .it (.var 1)) (e := .var 6) (cond := some (.and (.isi (.var 6) [.inl .tuple]) (.cmp .eq (.bi false .len [(.var 6)]) (.int 4)))) (ts := rs) (m := false) (s0 := s2) (s := s2) tup4 id
    (walk_lst rfl) (by simp) (fun t ht => tst (tup4_ok (hr t ht) rfl s2)) (fun t _ _ => rfl)
  rw [mkL_f, List.map_id] at gd
  -- rule
  have hg : ∀ u ∈ (rs.filter tup4) ++ [T.tup [.str "z", .str k, .tup [.str k], .int 0]], el 3 u = true ∧ tup4 u = true := fun u hu => by
    rcases List.mem_append.mp hu with h | h
    · obtain ⟨h1, h2⟩ := List.mem_filter.mp h
      exact ⟨hr u h1, h2⟩
    · rw [List.mem_singleton.mp h]
      refine ⟨el_tup.mpr ⟨by simp, fun t ht => ?_⟩, rfl⟩
      simp only [List.mem_cons, List.not_mem_nil, or_false] at ht
      rcases ht with rfl | rfl | rfl | rfl
      · exact el_str (by decide)
      · exact el_str hk
      · exact el_tup.mpr ⟨by simp, fun t ht => by rw [List.mem_singleton.mp ht]; exact el_str hk⟩
      · rfl
  have fl : (rs.filter tup4).length ≤ 20 := Nat.le_trans (List.length_filter_le _ _) hl
  obtain ⟨d6, s3, e6, t3, ru, rfl, hru⟩ := ET.one (n := n) (a := a) (r := r) (env := B a rs k (some (.v (.int i))) (some (.v odd)) (some (.v (.lst (rs.filter tup4)))) none none) (c1 := .var 0) (c2 := .bin false .add (.var 5) (.lst false [(false, (.tup [(false, (.str "z")), (false, (.var 2)), (false, (.tup [(false, (.var 2))])), (false, (.int 0))]))])) (Y := fun u => el 3 u = true ∧ tup4 u = true) (.var rfl rfl)
    (.of (d := .v (.lst (rs.filter tup4 ++ [T.tup [.str "z", .str k, .tup [.str k], .int 0]]))) (fun s => (ev_bin (x := .v (.lst (rs.filter tup4))) (y := .v (.lst [T.tup [.str "z", .str k, .tup [.str k], .int 0]])) (s1 := s) (s2 := s) rfl rfl).trans (b_addl s (by simp; omega))) ⟨_, rfl, by simp, by simp; omega, hg⟩) s2 t2
  obtain ⟨x0, x1, x2, x3, rfl⟩ := tup4_inv hru.2
  have hx := (el_tup.mp hru.1).2
  have h0 := hx x0 (by simp)
  have h1 := hx x1 (by simp)
  have h2 := hx x2 (by simp)
  have h3 := hx x3 (by simp)
  have hS := bent_el (k := k) h0 h1 h2 h3 ho hk
  obtain ⟨S, hSd⟩ : ∃ S, S = bent1 x0 x1 x2 x3 k ++ bent2 x0 k odd ++ bent3 x0 x1 x2 x3 k := ⟨_, rfl⟩
  have hSl : S.length < 1000 := by rw [hSd]; simp
  have hSn : S ≠ [] := by rw [hSd]; simp
  rw [← hSd] at hS
  -- end
  obtain ⟨d9, s4, e9, t4, v, rfl, hv⟩ := ET.one (n := n) (a := a) (r := r) (env := B a rs k (some (.v (.int i))) (some (.v odd)) (some (.v (.lst (rs.filter tup4)))) (some (.v (.tup [x0, x1, x2, x3]))) (some (.v (.lst S)))) (c1 := .var 0) (c2 := .var 7) (Y := fun u => el 3 u = true) (.var rfl rfl) (.var rfl ⟨S, rfl, hSn, hSl, hS⟩) s3 t3
  refine ⟨cut rs none (some i) ++ [v] ++ cut rs (some i) none, s4, ?_, t4, fun u hu => ?_, ?_⟩
  · rw [run_eq (d := f_law_bent_rules) rfl rfl]
    have b1 : ev P (PV.run P LM (n + 2)) (flOf P LM (n + 2)) (B a rs k (some (.v (.int i))) (some (.v odd)) (some (.v (.lst (rs.filter tup4)))) (some (.v (.tup [x0, x1, x2, x3]))) (some (.v (.lst S)))) (.sl false (.var 1) none (some (.var 3))) s3 = .ok (.v (.lst (cut rs none (some i)))) s3 := slice_l rs none (some i) s3
    have b3 : ev P (PV.run P LM (n + 2)) (flOf P LM (n + 2)) (B a rs k (some (.v (.int i))) (some (.v odd)) (some (.v (.lst (rs.filter tup4)))) (some (.v (.tup [x0, x1, x2, x3]))) (some (.v (.lst S)))) (.sl false (.var 1) (some (.var 3)) none) s4 = .ok (.v (.lst (cut rs (some i) none))) s4 := slice_l rs (some i) none s4
    have b2 : ev P (PV.run P LM (n + 2)) (flOf P LM (n + 2)) (B a rs k (some (.v (.int i))) (some (.v odd)) (some (.v (.lst (rs.filter tup4)))) (some (.v (.tup [x0, x1, x2, x3]))) (some (.v (.lst S)))) (.lst false [(false, (.call false 7 [(.var 0), (.var 7)] [] []))]) s3 = .ok (.v (.lst [v])) s4 := by
      show ((evst P (PV.run P LM (n + 2)) (flOf P LM (n + 2)) (B a rs k (some (.v (.int i))) (some (.v odd)) (some (.v (.lst (rs.filter tup4)))) (some (.v (.tup [x0, x1, x2, x3]))) (some (.v (.lst S)))) [(false, (.call false 7 [(.var 0), (.var 7)] [] []))] s3).bind _) = _
      rw [evst_c e9 (show evst P (PV.run P LM (n + 2)) (flOf P LM (n + 2)) (B a rs k (some (.v (.int i))) (some (.v odd)) (some (.v (.lst (rs.filter tup4)))) (some (.v (.tup [x0, x1, x2, x3]))) (some (.v (.lst S)))) [] s4 = .ok [] s4 from rfl)]
      rfl
    have c1 := cut_le (xs := rs) (lo := none) (hi := some i)
    have c2 := cut_le (xs := rs) (lo := some i) (hi := none)
    have b4 := (ev_bin (m := false) (o := .add) ((ev_bin (m := false) (o := .add) b1 b2).trans (b_addl s4 (by simp; omega))) b3).trans (b_addl s4 (by simp; omega))
    have b12 : (bent1 x0 x1 x2 x3 k).length < 100 := by simp
    have b13 : (bent1 x0 x1 x2 x3 k ++ bent2 x0 k odd).length < 100 := by simp
    have F0 : ∀ (o5 o6 o7 : Option D) (st : Sto) (c : C) (j : Nat) (d : D) (rest : List PV.S), j < 8 → ev P (PV.run P LM (n + 2)) (flOf P LM (n + 2)) (B a rs k (some (.v (.int i))) (some (.v odd)) o5 o6 o7) c st = .ok d st → exSs P (PV.run P LM (n + 2)) (flOf P LM (n + 2)) (B a rs k (some (.v (.int i))) (some (.v odd)) o5 o6 o7) (.asg (.pt (.nm j)) c :: rest) st = exSs P (PV.run P LM (n + 2)) (flOf P LM (n + 2)) ((B a rs k (some (.v (.int i))) (some (.v odd)) o5 o6 o7).set j (some d)) rest st := fun o5 o6 o7 st c j d rest hj h => ex_asg h (by simpa using hj)
    have g2 : ∀ rest, exSs P (PV.run P LM (n + 2)) (flOf P LM (n + 2)) (B a rs k (some (.v (.int i))) (some (.v odd)) none none none) (.asg (.pt (.nm 5)) _ :: rest) s2 = exSs P (PV.run P LM (n + 2)) (flOf P LM (n + 2)) (B a rs k (some (.v (.int i))) (some (.v odd)) (some (.v (.lst (rs.filter tup4)))) none none) rest s2 := fun rest => F0 _ _ _ _ _ 5 _ rest (by decide) gd
    have g3 : ∀ rest, exSs P (PV.run P LM (n + 2)) (flOf P LM (n + 2)) (B a rs k (some (.v (.int i))) (some (.v odd)) (some (.v (.lst (rs.filter tup4)))) none none) (.asg (.pt (.nm 6)) _ :: rest) s2 = exSs P (PV.run P LM (n + 2)) (flOf P LM (n + 2)) (B a rs k (some (.v (.int i))) (some (.v odd)) (some (.v (.lst (rs.filter tup4)))) (some (.v (.tup [x0, x1, x2, x3]))) none) rest s3 := fun rest => ex_asg e6 (by simp)
    have g4 : ∀ rest, exSs P (PV.run P LM (n + 2)) (flOf P LM (n + 2)) (B a rs k (some (.v (.int i))) (some (.v odd)) (some (.v (.lst (rs.filter tup4)))) (some (.v (.tup [x0, x1, x2, x3]))) none) (.asg (.pt (.nm 7)) cSome1 :: rest) s3 = exSs P (PV.run P LM (n + 2)) (flOf P LM (n + 2)) (B a rs k (some (.v (.int i))) (some (.v odd)) (some (.v (.lst (rs.filter tup4)))) (some (.v (.tup [x0, x1, x2, x3]))) (some (.v (.lst (bent1 x0 x1 x2 x3 k))))) rest s3 := fun rest => F0 _ _ _ _ _ 7 _ rest (by decide) (some1 (n + 2) s3)
    have g5 : ∀ rest, exSs P (PV.run P LM (n + 2)) (flOf P LM (n + 2)) (B a rs k (some (.v (.int i))) (some (.v odd)) (some (.v (.lst (rs.filter tup4)))) (some (.v (.tup [x0, x1, x2, x3]))) (some (.v (.lst (bent1 x0 x1 x2 x3 k))))) (.asg (.pt (.nm 7)) cSome2 :: rest) s3 = exSs P (PV.run P LM (n + 2)) (flOf P LM (n + 2)) (B a rs k (some (.v (.int i))) (some (.v odd)) (some (.v (.lst (rs.filter tup4)))) (some (.v (.tup [x0, x1, x2, x3]))) (some (.v (.lst (bent1 x0 x1 x2 x3 k ++ bent2 x0 k odd))))) rest s3 := fun rest => F0 _ _ _ _ _ 7 _ rest (by decide) (some2 (n + 2) b12 s3)
    have g6 : ∀ rest, exSs P (PV.run P LM (n + 2)) (flOf P LM (n + 2)) (B a rs k (some (.v (.int i))) (some (.v odd)) (some (.v (.lst (rs.filter tup4)))) (some (.v (.tup [x0, x1, x2, x3]))) (some (.v (.lst (bent1 x0 x1 x2 x3 k ++ bent2 x0 k odd))))) (.asg (.pt (.nm 7)) cSome3 :: rest) s3 = exSs P (PV.run P LM (n + 2)) (flOf P LM (n + 2)) (B a rs k (some (.v (.int i))) (some (.v odd)) (some (.v (.lst (rs.filter tup4)))) (some (.v (.tup [x0, x1, x2, x3]))) (some (.v (.lst S)))) rest s3 := fun rest => by
      rw [hSd]
      exact F0 _ _ _ _ _ 7 _ rest (by decide) (some3 (n + 2) b13 s3)
    refine (congrArg (finR false false s.length) ((st1 _).trans ((g2 _).trans ((g3 _).trans ((g4 _).trans ((g5 _).trans ((g6 _).trans (ex_ret b4)))))))).trans (fin_v (t := .lst (cut rs none (some i) ++ [v] ++ cut rs (some i) none)) rfl (t.len t4))
  · rcases List.mem_append.mp hu with h | h
    · rcases List.mem_append.mp h with h | h
      · exact hr u (cut_mem h)
      · rw [List.mem_singleton.mp h]; exact hv
    · exact hr u (cut_mem h)
  · unfold cut cutIx
    dsimp only
    rw [if_neg (by omega)]
    simp
    omega
end
end K03
end
section
set_option Elab.async false
set_option linter.all false
set_option maxRecDepth 1000000
set_option maxHeartbeats 4000000
/-! E17: words, numbers. -/
namespace K03
open PySem PV
def nameB (x : Str) : Bool := decide (1 ≤ x.cps.size ∧ x.cps.size ≤ 8) && x.cps.toList.all (fun c => decide (97 ≤ c ∧ c ≤ 122))
def wordT : T → Bool
  | .str x => nameB x
  | _ => false
def intT : T → Bool
  | .int _ => true
  | _ => false
theorem name_str (n : Nat) (s : Sto) {x : Str} (hx : x ∈ allW) : exSs P (PV.run P LM n) (flOf P LM n) [some (.v (.str x)), none] b_is_name s = .ok (.rt (.v (.bl (nameB x)))) [some (.v (.str x)), none] s := by
  simp only [allW, List.mem_cons, List.not_mem_nil, or_false] at hx
  rcases hx with rfl | rfl | rfl | rfl | rfl | rfl | rfl | rfl | rfl | rfl | rfl | rfl | rfl | rfl | rfl | rfl | rfl | rfl | rfl | rfl | rfl | rfl | rfl | rfl <;> kernel_rfl
theorem word_str (n : Nat) (s : Sto) {x : Str} (hx : x ∈ allW) : exSs P (PV.run P LM n) (flOf P LM n) [some (.v (.str x)), none] b_law_is_word s = .ok (.rt (.v (.bl (nameB x)))) [some (.v (.str x)), none] s := by
  simp only [allW, List.mem_cons, List.not_mem_nil, or_false] at hx
  rcases hx with rfl | rfl | rfl | rfl | rfl | rfl | rfl | rfl | rfl | rfl | rfl | rfl | rfl | rfl | rfl | rfl | rfl | rfl | rfl | rfl | rfl | rfl | rfl | rfl <;> kernel_rfl
theorem is_name (n : Nat) (s : Sto) {k : Nat} {t : T} (h : el k t = true) : PV.run P LM (n + 1) false 1 [.v t] s = .ok (.v (.bl (wordT t))) s := by
  rw [run_eq (d := f_is_name) rfl rfl]
  have key : ∃ e, exSs P (PV.run P LM n) (flOf P LM n) [some (.v t), none] b_is_name s = .ok (.rt (.v (.bl (wordT t)))) e s := by
    cases t with
    | str x =>
      have hx : x ∈ allW := by cases k <;> exact of_decide_eq_true h
      exact ⟨_, name_str n s hx⟩
    | non => exact ⟨_, rfl⟩
    | bl b => exact ⟨_, rfl⟩
    | int b => exact ⟨_, rfl⟩
    | tup b => exact ⟨_, rfl⟩
    | lst b => exact ⟨_, rfl⟩
    | dct b c => cases k <;> cases h
    | obj b c => cases k <;> cases h
    | scr b => cases k <;> cases h
  obtain ⟨e, he⟩ := key
  exact (congrArg (finR false false s.length) he).trans (fin_v rfl rfl)
theorem is_word (n : Nat) (s : Sto) {k : Nat} {t : T} (h : el k t = true) : PV.run P LM (n + 1) false 15 [.v t] s = .ok (.v (.bl (wordT t))) s := by
  rw [run_eq (d := f_law_is_word) rfl rfl]
  have key : ∃ e, exSs P (PV.run P LM n) (flOf P LM n) [some (.v t), none] b_law_is_word s = .ok (.rt (.v (.bl (wordT t)))) e s := by
    cases t with
    | str x =>
      have hx : x ∈ allW := by cases k <;> exact of_decide_eq_true h
      exact ⟨_, word_str n s hx⟩
    | non => exact ⟨_, rfl⟩
    | bl b => exact ⟨_, rfl⟩
    | int b => exact ⟨_, rfl⟩
    | tup b => exact ⟨_, rfl⟩
    | lst b => exact ⟨_, rfl⟩
    | dct b c => cases k <;> cases h
    | obj b c => cases k <;> cases h
    | scr b => cases k <;> cases h
  obtain ⟨e, he⟩ := key
  exact (congrArg (finR false false s.length) he).trans (fin_v rfl rfl)
theorem is_integer (n : Nat) (s : Sto) {k : Nat} {t : T} (h : el k t = true) : PV.run P LM (n + 1) false 0 [.v t] s = .ok (.v (.bl (intT t))) s := by
  rw [run_eq (d := f_is_integer) rfl rfl]
  have key : ∃ e, exSs P (PV.run P LM n) (flOf P LM n) [some (.v t)] b_is_integer s = .ok (.rt (.v (.bl (intT t)))) e s := by
    cases t with
    | str x => exact ⟨_, rfl⟩
    | non => exact ⟨_, rfl⟩
    | bl b => exact ⟨_, rfl⟩
    | int b => exact ⟨_, rfl⟩
    | tup b => exact ⟨_, rfl⟩
    | lst b => exact ⟨_, rfl⟩
    | dct b c => cases k <;> cases h
    | obj b c => cases k <;> cases h
    | scr b => cases k <;> cases h
  obtain ⟨e, he⟩ := key
  exact (congrArg (finR false false s.length) he).trans (fin_v rfl rfl)
theorem is_number (n : Nat) (s : Sto) {k : Nat} {t : T} (h : el k t = true) : PV.run P LM (n + 1) false 13 [.v t] s = .ok (.v (.bl (intT t))) s := by
  rw [run_eq (d := f_law_is_number) rfl rfl]
  have key : ∃ e, exSs P (PV.run P LM n) (flOf P LM n) [some (.v t)] b_law_is_number s = .ok (.rt (.v (.bl (intT t)))) e s := by
    cases t with
    | str x => exact ⟨_, rfl⟩
    | non => exact ⟨_, rfl⟩
    | bl b => exact ⟨_, rfl⟩
    | int b => exact ⟨_, rfl⟩
    | tup b => exact ⟨_, rfl⟩
    | lst b => exact ⟨_, rfl⟩
    | dct b c => cases k <;> cases h
    | obj b c => cases k <;> cases h
    | scr b => cases k <;> cases h
  obtain ⟨e, he⟩ := key
  exact (congrArg (finR false false s.length) he).trans (fin_v rfl rfl)
end K03
end
section
set_option Elab.async false
set_option linter.all false
set_option maxRecDepth 1000000
set_option maxHeartbeats 4000000
/-! E18: unlike words. -/
namespace K03
open PySem PV
def seqT : T → Option (List T)
  | .lst ts => some ts
  | .tup ts => some ts
  | _ => none
/-- a part of a book: small data, or a dict -/
def isP (k : Nat) (t : T) : Prop := el k t = true ∨ ∃ kvs, t = .dct false kvs
def strsT (ts : List T) : List Str := ts.filterMap asStr
def unlB (t : T) : Bool := match seqT t with
  | some ts => ts.all wordT && decide ((uniq [] (strsT ts)).length = ts.length)
  | none => false
def subK (ks : List Str) (t : T) : Bool := match seqT t with
  | some ts => ts.all fun x => anyEq x (tS ks)
  | none => false
theorem eqv_nil (l : List T) : T.eqv (.lst l) (.lst []) = l.isEmpty := by cases l <;> rfl
theorem anyEq_tS (x : Str) (fs : List Str) : anyEq (.str x) (tS fs) = fs.any fun y => decide (y = x) := by
  induction fs with
  | nil => rfl
  | cons y r ih =>
    show (T.eqv (.str y) (.str x) || anyEq (.str x) (tS r)) = _
    rw [ih]; rfl
theorem words_str : ∀ {ts : List T}, ts.all wordT = true → ts = tS (strsT ts)
  | [], _ => rfl
  | t :: r, h => by
    rw [List.all_cons, Bool.and_eq_true] at h
    cases t with
    | str x =>
      have := words_str h.2
      show T.str x :: r = T.str x :: tS (strsT r)
      rw [← this]
    | non => cases h.1
    | bl b => cases h.1
    | int b => cases h.1
    | tup b => cases h.1
    | lst b => cases h.1
    | dct b c => cases h.1
    | obj b c => cases h.1
    | scr b => cases h.1
theorem seq_el {k : Nat} {t : T} {ts : List T} (h : isP (k + 1) t) (hs : seqT t = some ts) : ts.length ≤ 10 ∧ ∀ x ∈ ts, el k x = true := by
  rcases h with h | ⟨kvs, rfl⟩
  · cases t with
    | lst l => cases hs; exact el_lst.mp h
    | tup l => cases hs; exact el_tup.mp h
    | _ => cases hs
  · cases hs
section
variable {n : Nat} {env : PV.Env} {i : Nat} {t : T} {ts : List T}
theorem isseq {k : Nat} (h : isP k t) (hv : env[i]? = some (some (.v t))) (s : Sto) : ev P (PV.run P LM n) (flOf P LM n) env (.isi (.var i) [.inl .list, .inl .tuple]) s = .ok (.v (.bl (seqT t).isSome)) s := by
  refine (ev_isi (ev_v hv)).trans ?_
  rcases h with h | ⟨kvs, rfl⟩
  · cases t with
    | dct b c => cases k <;> cases h
    | obj b c => cases k <;> cases h
    | scr b => cases k <;> cases h
    | _ => rfl
  · rfl
theorem notseq {k : Nat} (h : isP k t) (hv : env[i]? = some (some (.v t))) (s : Sto) : ev P (PV.run P LM n) (flOf P LM n) env (.not (.isi (.var i) [.inl .list, .inl .tuple])) s = .ok (.v (.bl (!(seqT t).isSome))) s := ev_not (isseq h hv s)
theorem walk_seq (hs : seqT t = some ts) (hv : env[i]? = some (some (.v t))) (s : Sto) : evi P (PV.run P LM n) (flOf P LM n) env (.it (.var i)) s = .ok (ts.map .v) s := by
  cases t with
  | lst l => cases hs; exact walk_lst (ev_v hv)
  | tup l => cases hs; exact walk_tup (ev_v hv)
  | _ => cases hs
theorem len_seq (hs : seqT t = some ts) (hv : env[i]? = some (some (.v t))) (s : Sto) : ev P (PV.run P LM n) (flOf P LM n) env (.bi false .len [(.var i)]) s = .ok (.v (.int ts.length)) s := by
  cases t with
  | lst l => cases hs; exact (ev_bi1 (ev_v hv)).trans (bi_len_l _ _ _)
  | tup l => cases hs; exact (ev_bi1 (ev_v hv)).trans (bi_len_t _ _ _)
  | _ => cases hs
theorem list_seq (hs : seqT t = some ts) (hv : env[i]? = some (some (.v t))) (s : Sto) : ev P (PV.run P LM n) (flOf P LM n) env (.bi false .list [(.var i)]) s = .ok (.v (.lst ts)) s := by
  refine (ev_bi1 (ev_v hv)).trans ?_
  cases t with
  | lst l => cases hs; exact mkL_f _ s
  | tup l => cases hs; exact mkL_f _ s
  | _ => cases hs
theorem lenset_seq {us : List Str} (hs : seqT t = some (tS us)) (hl : us.length ≤ 4000) (hv : env[i]? = some (some (.v t))) (s : Sto) : ev P (PV.run P LM n) (flOf P LM n) env (.lenset (.var i)) s = .ok (.v (.int (uniq [] us).length)) s := by
  show ((ev P (PV.run P LM n) (flOf P LM n) env (.var i) s).bind fun x s => match ((asSeq s x).bind allD).bind fun ts => ts.mapM asStr with
    | some xs => (guardM (decide (xs.length ≤ 4000)) s).bind fun _ => M.ret (D.v (.int (uniq [] xs).length))
    | none => .bad) = _
  rw [ev_v hv]
  have e : ((asSeq s (.v t)).bind allD).bind (fun ts => ts.mapM asStr) = some us := by
    have e1 : asSeq s (.v t) = some ((tS us).map .v) := by
      cases t with
      | lst l => cases hs; rfl
      | tup l => cases hs; rfl
      | _ => cases hs
    rw [e1]
    show (allD ((tS us).map .v)).bind _ = _
    rw [allD_map]
    exact asStr_map us
  show (match ((asSeq s (.v t)).bind allD).bind fun ts => ts.mapM asStr with
    | some xs => (guardM (decide (xs.length ≤ 4000)) s).bind fun _ => M.ret (D.v (.int (uniq [] xs).length))
    | none => .bad) = _
  rw [e]
  dsimp only
  rw [decide_eq_true hl]
  rfl
end
theorem any_false (ts : List T) : anyEq (.bl false) (ts.map fun t => .bl (wordT t)) = !ts.all wordT := by
  induction ts with
  | nil => rfl
  | cons t r ih =>
    show (T.eqv (.bl (wordT t)) (.bl false) || anyEq (.bl false) (r.map fun t => .bl (wordT t))) = _
    rw [ih, List.all_cons]
    show ((wordT t == false) || _) = _
    cases wordT t <;> simp
theorem decl {a b : Nat} : decide ((a : Int) = (b : Int)) = decide (a = b) := by
  by_cases h : a = b
  · rw [decide_eq_true h, h]; simp
  · rw [decide_eq_false h, decide_eq_false (by omega)]
/-- known kinds: None, or the kinds -/
inductive Known : T → Option (List Str) → Prop
  | non : Known .non none
  | lst (ks : List Str) : Known (.lst (tS ks)) (some ks)
  | tup (ks : List Str) : Known (.tup (tS ks)) (some ks)
def subO : Option (List Str) → T → Bool
  | none, _ => true
  | some ks, t => subK ks t
theorem isEmpty_filter {α : Type} {p : α → Bool} (l : List α) : (l.filter fun x => !p x).isEmpty = l.all p := by
  induction l with
  | nil => rfl
  | cons x r ih =>
    cases h : p x with
    | true => rw [List.filter_cons_of_neg (by simp [h]), List.all_cons, h, ih]; rfl
    | false => rw [List.filter_cons_of_pos (by simp [h]), List.all_cons, h]; rfl
theorem are_unlike (n : Nat) (s : Sto) {k : Nat} (hk : k ≤ 20) {v q : T} {o : Option (List Str)} (h : isP (k + 1) v) (hq : Known q o) : PV.run P LM (n + 2) false 2 [.v v, .v q] s = .ok (.v (.bl (unlB v && subO o v))) s := by
  rw [run_eq (d := f_are_unlike) rfl rfl]
  obtain ⟨E, hE⟩ : ∃ E : PV.Env, E = [some (.v v), some (.v q), none] := ⟨_, rfl⟩
  have v0 : E[0]? = some (some (.v v)) := by subst hE; rfl
  have v1 : E[1]? = some (some (.v q)) := by subst hE; rfl
  have hl3 : 2 < E.length := by subst hE; simp
  have key : ∃ e, exSs P (PV.run P LM (n + 1)) (flOf P LM (n + 1)) E b_are_unlike s = .ok (.rt (.v (.bl (unlB v && subO o v)))) e s := by
    cases hs : seqT v with
    | none =>
      have c := notseq (n := n + 1) h v0 s
      rw [hs] at c
      have u : unlB v = false := by unfold unlB; rw [hs]
      rw [u]
      exact ⟨E, (ex_if_t (ev_or_t c)).trans rfl⟩
    | some ts =>
      obtain ⟨l10, hel⟩ := seq_el h hs
      have c := notseq (n := n + 1) h v0 s
      rw [hs] at c
      have cp := comp_pure (P := P) (F := PV.run P LM (n + 1)) (FL := flOf P LM (n + 1)) (env := E) (own := [2]) (i := 2) (it := .it (.var 0)) (e := .call false 1 [(.var 2)] [] []) (cond := none) (ts := ts) (m := false) (s0 := s) (s := s) (fun _ => true) (fun t => .bl (wordT t)) (walk_seq hs v0 s) hl3 (fun t ht => rfl)
        (fun t ht _ => (ev_call1 (ev_v (by subst hE; rfl))).trans (is_name n s (hel t ht)))
      rw [mkL_f, List.filter_eq_self.mpr (fun _ _ => rfl)] at cp
      have fl : (ts.map fun t => T.bl (wordT t)).all T.flat = true := List.all_eq_true.mpr fun t ht => by
        obtain ⟨u, _, rfl⟩ := List.mem_map.mp ht
        rfl
      have c2 := (ev_cmp (o := .isin) (show ev P (PV.run P LM (n + 1)) (flOf P LM (n + 1)) E (.bl false) s = .ok (.v (.bl false)) s from rfl) cp).trans (c_in s (.inl rfl) rfl fl)
      rw [any_false] at c2
      have c3 := ev_or (h := c) (h2 := fun _ => c2)
      cases hw : ts.all wordT with
      | false =>
        rw [hw] at c3
        have u : unlB v = false := by unfold unlB; rw [hs]; dsimp only; rw [hw]; rfl
        rw [u]
        exact ⟨E, (ex_if_t c3).trans rfl⟩
      | true =>
        rw [hw] at c3
        have ew := words_str hw
        obtain ⟨us, hus⟩ : ∃ us, us = strsT ts := ⟨_, rfl⟩
        rw [← hus] at ew
        have ul : us.length ≤ 10 := by rw [ew, tS_len] at l10; exact l10
        have c4 := (ev_cmp (o := .eq) (lenset_seq (n := n + 1) (ew ▸ hs) (by omega) v0 s) (len_seq (n := n + 1) hs v0 s)).trans (c_eqi _ _ s)
        rw [decl] at c4
        have eu : unlB v = decide ((uniq [] us).length = ts.length) := by unfold unlB; rw [hs]; dsimp only; rw [hw, ← hus]; rfl
        have c5 : ev P (PV.run P LM (n + 1)) (flOf P LM (n + 1)) E (.or (.cmp .is_ (.var 1) .non) (.cmp .eq (.comp false (.var 2) [2] (.nm 2) (.it (.var 0)) (some (.cmp .nin (.var 2) (.var 1)))) (.lst false []))) s = .ok (.v (.bl (subO o v))) s := by
          cases hq with
          | non => exact ev_or_t (show ev P (PV.run P LM (n + 1)) (flOf P LM (n + 1)) E (.cmp .is_ (.var 1) .non) s = .ok (.v (.bl true)) s by subst hE; rfl)
          | lst ks =>
            refine (ev_or_f (show ev P (PV.run P LM (n + 1)) (flOf P LM (n + 1)) E (.cmp .is_ (.var 1) .non) s = .ok (.v (.bl false)) s by subst hE; rfl)).trans ?_
            have cp2 := comp_pure (P := P) (F := PV.run P LM (n + 1)) (FL := flOf P LM (n + 1)) (env := E) (own := [2]) (i := 2) (it := .it (.var 0)) (e := .var 2) (cond := some (.cmp .nin (.var 2) (.var 1))) (ts := ts) (m := false) (s0 := s) (s := s) (fun t => !anyEq t (tS ks)) id (walk_seq hs v0 s) hl3
              (fun t ht => tst ((ev_cmp (x := .v t) (y := .v (.lst (tS ks))) (s1 := s) (s2 := s) (ev_v (by subst hE; rfl)) (ev_v (by subst hE; rfl))).trans (c_nin s (.inl rfl) (el_flat40 (hel t ht) (by omega)) (tS_flat ks)))) (fun t _ _ => ev_v (by subst hE; rfl))
            rw [mkL_f, List.map_id] at cp2
            have f2 : (T.lst (ts.filter fun t => !anyEq t (tS ks))).flat = true := lst_flat (filter_all (List.all_eq_true.mpr fun t ht => el_flat (hel t ht) (by omega)))
            refine (ev_cmp cp2 (show ev P (PV.run P LM (n + 1)) (flOf P LM (n + 1)) E (.lst false []) s = .ok (.v (.lst [])) s from rfl)).trans ((c_eq s f2 nil_flat).trans ?_)
            rw [eqv_nil, isEmpty_filter]
            show Res.ok _ s = Res.ok (D.v (T.bl (subK ks v))) s
            unfold subK
            rw [hs]
          | tup ks =>
            refine (ev_or_f (show ev P (PV.run P LM (n + 1)) (flOf P LM (n + 1)) E (.cmp .is_ (.var 1) .non) s = .ok (.v (.bl false)) s by subst hE; rfl)).trans ?_
            have cp2 := comp_pure (P := P) (F := PV.run P LM (n + 1)) (FL := flOf P LM (n + 1)) (env := E) (own := [2]) (i := 2) (it := .it (.var 0)) (e := .var 2) (cond := some (.cmp .nin (.var 2) (.var 1))) (ts := ts) (m := false) (s0 := s) (s := s) (fun t => !anyEq t (tS ks)) id (walk_seq hs v0 s) hl3
              (fun t ht => tst ((ev_cmp (x := .v t) (y := .v (.tup (tS ks))) (s1 := s) (s2 := s) (ev_v (by subst hE; rfl)) (ev_v (by subst hE; rfl))).trans (c_nin s (.inr rfl) (el_flat40 (hel t ht) (by omega)) (tS_flat ks)))) (fun t _ _ => ev_v (by subst hE; rfl))
            rw [mkL_f, List.map_id] at cp2
            have f2 : (T.lst (ts.filter fun t => !anyEq t (tS ks))).flat = true := lst_flat (filter_all (List.all_eq_true.mpr fun t ht => el_flat (hel t ht) (by omega)))
            refine (ev_cmp cp2 (show ev P (PV.run P LM (n + 1)) (flOf P LM (n + 1)) E (.lst false []) s = .ok (.v (.lst [])) s from rfl)).trans ((c_eq s f2 nil_flat).trans ?_)
            rw [eqv_nil, isEmpty_filter]
            show Res.ok _ s = Res.ok (D.v (T.bl (subK ks v))) s
            unfold subK
            rw [hs]
        have c6 := ev_and (h := c4) (h2 := fun _ => c5)
        rw [eu]
        exact ⟨E, (ex_if_f c3).trans (ex_ret c6)⟩
  obtain ⟨e, he⟩ := key
  subst hE
  exact (congrArg (finR false false s.length) he).trans (fin_v rfl rfl)
end K03
end
section
set_option Elab.async false
set_option linter.all false
set_option maxRecDepth 1000000
set_option maxHeartbeats 4000000
/-! E19: the law's words; rules. -/
namespace K03
open PySem PV
theorem unlike_loop (n : Nat) {s : Sto} {o0 : Option D} : ∀ (us fs : List Str) (o2 : Option D), fs.length + us.length ≤ 1000 → ∃ o2', forL (.nm 2) (fun e s => exSs P (PV.run P LM n) (flOf P LM n) e [.ife (.cmp .nin (.var 2) (.var 1)) [.ex (.tm false (.var 1) .append [(.var 2)])] []] s) ((tS us).map .v) [o0, some (.ref s.length), o2] (s ++ [some (.lst ((tS fs).map .v))]) =
    .ok .nx [o0, some (.ref s.length), o2'] (s ++ [some (.lst ((tS (uniq fs us)).map .v))])
  | [], fs, o2, _ => ⟨o2, rfl⟩
  | x :: us, fs, o2, hl => by
    have hc : cellAt (s ++ [some (.lst ((tS fs).map .v))]) s.length = some (.lst ((tS fs).map .v)) := clE
    have c := (ev_cmp (P := P) (F := PV.run P LM n) (FL := flOf P LM n) (env := [o0, some (.ref s.length), some (.v (.str x))]) (a := .var 2) (b := .var 1) (o := .nin) (x := .v (.str x)) (y := .ref s.length) (s := s ++ [some (.lst ((tS fs).map .v))]) (s1 := s ++ [some (.lst ((tS fs).map .v))]) (s2 := s ++ [some (.lst ((tS fs).map .v))]) rfl rfl).trans (c_nin_ref (a := .str x) hc rfl (tS_flat fs))
    rw [anyEq_tS] at c
    have un : uniq fs (x :: us) = match fs.any fun y => decide (y = x) with
      | true => uniq fs us
      | false => uniq (fs ++ [x]) us := by
      rw [uniq]
      all_goals (cases fs.any fun y => decide (y = x) <;> rfl)
    cases h : fs.any fun y => decide (y = x) with
    | true =>
      rw [h] at c un
      obtain ⟨o2', e⟩ := unlike_loop n us fs (some (.v (.str x))) (by simp at hl; omega)
      refine ⟨o2', ?_⟩
      rw [un]
      show forL (.nm 2) _ (D.v (.str x) :: (tS us).map .v) _ _ = _
      unfold forL
      rw [show bindP (s ++ [some (PV.Cell.lst ((tS fs).map .v))]) (.nm 2) (.v (.str x)) [o0, some (.ref s.length), o2] = some [o0, some (.ref s.length), some (.v (.str x))] from rfl]
      dsimp only
      rw [ex_if_f c]
      exact e
    | false =>
      rw [h] at c un
      obtain ⟨o2', e⟩ := unlike_loop n us (fs ++ [x]) (some (.v (.str x))) (by simp at hl ⊢; omega)
      refine ⟨o2', ?_⟩
      rw [un]
      have ap := append_ref (b := false) (x := .v (.str x)) hc (by rw [show LIM = 16000000 from rfl]; simp at hl ⊢; omega)
      rw [stE, tS_snoc] at ap
      show forL (.nm 2) _ (D.v (.str x) :: (tS us).map .v) _ _ = _
      unfold forL
      rw [show bindP (s ++ [some (PV.Cell.lst ((tS fs).map .v))]) (.nm 2) (.v (.str x)) [o0, some (.ref s.length), o2] = some [o0, some (.ref s.length), some (.v (.str x))] from rfl]
      dsimp only
      have k1 := kind_l hc
      have ex : exSs P (PV.run P LM n) (flOf P LM n) [o0, some (.ref s.length), some (.v (.str x))] [.ex (.tm false (.var 1) .append [(.var 2)])] (s ++ [some (.lst ((tS fs).map .v))]) = .ok .nx [o0, some (.ref s.length), some (.v (.str x))] (s ++ [some (.lst ((tS (fs ++ [x])).map .v))]) := by
        refine (ex_ex (x := .v .non) (s1 := s ++ [some (.lst ((tS (fs ++ [x])).map .v))]) ?_).trans rfl
        show ((guardM (okRecv .append (kindOf (s ++ [some (PV.Cell.lst ((tS fs).map .v))]) (.ref s.length))) (s ++ [some (PV.Cell.lst ((tS fs).map .v))])).bind fun _ => tmeth false (.ref s.length) .append [D.v (.str x)]) = _
        rw [k1]
        exact ap
      rw [ex_if_t c, ex]
      exact e
theorem law_unlike (n : Nat) {s : Sto} (p : Pl s) (us : List Str) (hl : us.length ≤ 1000) : PV.run P LM (n + 1) false 9 [.v (.lst (tS us))] s = .ok (.v (.lst (tS (uniq [] us)))) s := by
  rw [run_eq (d := f_law_unlike) rfl rfl]
  obtain ⟨o2, e⟩ := unlike_loop n (s := s) (o0 := some (.v (.lst (tS us)))) us [] none (by simpa using hl)
  have st1 : ∀ rest, exSs P (PV.run P LM n) (flOf P LM n) [some (.v (.lst (tS us))), none, none] (.asg (.pt (.nm 1)) (.lst true []) :: rest) s = exSs P (PV.run P LM n) (flOf P LM n) [some (.v (.lst (tS us))), some (.ref s.length), none] rest (s ++ [some (.lst [])]) := fun rest => ex_asg (x := .ref s.length) rfl (by simp)
  have iw : evi P (PV.run P LM n) (flOf P LM n) [some (.v (.lst (tS us))), some (.ref s.length), none] (.it (.var 0)) (s ++ [some (.lst [])]) = .ok ((tS us).map .v) (s ++ [some (.lst [])]) := walk_lst rfl
  refine (congrArg (finR true false s.length) ((st1 _).trans ((ex_for iw e).trans (ex_ret (x := .ref s.length) rfl)))).trans ?_
  exact fin_lst (i := s.length) rfl rfl p (Nat.le_refl _) clE
theorem law_are_unlike (n : Nat) {s : Sto} (p : Pl s) {k : Nat} (hk : k ≤ 20) {v : T} (h : isP (k + 1) v) : PV.run P LM (n + 2) false 16 [.v v] s = .ok (.v (.bl (unlB v))) s := by
  rw [run_eq (d := f_law_are_unlike) rfl rfl]
  obtain ⟨E, hE⟩ : ∃ E : PV.Env, E = [some (.v v), none] := ⟨_, rfl⟩
  have v0 : E[0]? = some (some (.v v)) := by subst hE; rfl
  have hl3 : 1 < E.length := by subst hE; simp
  have key : ∃ e, exSs P (PV.run P LM (n + 1)) (flOf P LM (n + 1)) E b_law_are_unlike s = .ok (.rt (.v (.bl (unlB v)))) e s := by
    cases hs : seqT v with
    | none =>
      have c := notseq (n := n + 1) h v0 s
      rw [hs] at c
      have u : unlB v = false := by unfold unlB; rw [hs]
      rw [u]
      exact ⟨E, (ex_if_t (ev_or_t c)).trans rfl⟩
    | some ts =>
      obtain ⟨l10, hel⟩ := seq_el h hs
      have c := notseq (n := n + 1) h v0 s
      rw [hs] at c
      have cp := comp_pure (P := P) (F := PV.run P LM (n + 1)) (FL := flOf P LM (n + 1)) (env := E) (own := [1]) (i := 1) (it := .it (.var 0)) (e := .var 1) (cond := some (.not (.call false 15 [(.var 1)] [] []))) (ts := ts) (m := false) (s0 := s) (s := s) (fun t => !wordT t) id (walk_seq hs v0 s) hl3 (fun t ht => tst (ev_not ((ev_call1 (ev_v (by subst hE; rfl))).trans (is_word n s (hel t ht)))))
        (fun t ht _ => ev_v (by subst hE; rfl))
      rw [mkL_f, List.map_id] at cp
      have f2 : (T.lst (ts.filter fun t => !wordT t)).flat = true := lst_flat (filter_all (List.all_eq_true.mpr fun t ht => el_flat (hel t ht) (by omega)))
      have c2 := (ev_cmp (o := .ne) cp (show ev P (PV.run P LM (n + 1)) (flOf P LM (n + 1)) E (.lst false []) s = .ok (.v (.lst [])) s from rfl)).trans (c_ne s f2 nil_flat)
      rw [eqv_nil, isEmpty_filter] at c2
      have c3 := ev_or (h := c) (h2 := fun _ => c2)
      cases hw : ts.all wordT with
      | false =>
        rw [hw] at c3
        have u : unlB v = false := by unfold unlB; rw [hs]; dsimp only; rw [hw]; rfl
        rw [u]
        exact ⟨E, (ex_if_t c3).trans rfl⟩
      | true =>
        rw [hw] at c3
        have ew := words_str hw
        obtain ⟨us, hus⟩ : ∃ us, us = strsT ts := ⟨_, rfl⟩
        rw [← hus] at ew
        have ul : us.length ≤ 10 := by rw [ew, tS_len] at l10; exact l10
        have l1 := list_seq (n := n + 1) hs v0 s
        rw [ew] at l1
        have l2 := (ev_call1 (zz := false) (f := 9) l1).trans (law_unlike n p us (by omega))
        have l3 := (ev_bi1 (m := false) (bb := .len) l2).trans (bi_len_l _ s false)
        rw [tS_len] at l3
        have c4 := (ev_cmp (o := .eq) l3 (len_seq (n := n + 1) hs v0 s)).trans (c_eqi _ _ s)
        rw [decl] at c4
        have eu : unlB v = decide ((uniq [] us).length = ts.length) := by unfold unlB; rw [hs]; dsimp only; rw [hw, ← hus]; rfl
        rw [eu]
        exact ⟨E, (ex_if_f c3).trans (ex_ret c4)⟩
  obtain ⟨e, he⟩ := key
  subst hE
  exact (congrArg (finR false false s.length) he).trans (fin_v rfl rfl)
/-! ### rules -/
def strT : T → Bool
  | .str _ => true
  | _ => false
def tupT : T → Bool
  | .tup _ => true
  | _ => false
def okK (ks : List Str) (o : T) : Bool := strT o && anyEq o (tS ks)
def ruleT (ks : List Str) : T → Bool
  | .tup [x0, x1, .tup os, x3] => wordT x0 && (x1 :: os).all (okK ks) && intT x3
  | _ => false
theorem isi_tupT {k : Nat} {t : T} (h : el k t = true) (s : Sto) : isiK P.own [.inl .tuple] (.v t) s = .ok (.v (.bl (tupT t))) s := by
  cases t with
  | dct b c => cases k <;> cases h
  | obj b c => cases k <;> cases h
  | scr b => cases k <;> cases h
  | _ => rfl
theorem isi_strT {k : Nat} {t : T} (h : el k t = true) (s : Sto) : isiK P.own [.inl .str] (.v t) s = .ok (.v (.bl (strT t))) s := by
  cases t with
  | dct b c => cases k <;> cases h
  | obj b c => cases k <;> cases h
  | scr b => cases k <;> cases h
  | _ => rfl
theorem any_false' (f : T → Bool) (ts : List T) : anyEq (.bl false) (ts.map fun t => .bl (f t)) = !ts.all f := by
  induction ts with
  | nil => rfl
  | cons t r ih =>
    show (T.eqv (.bl (f t)) (.bl false) || anyEq (.bl false) (r.map fun t => .bl (f t))) = _
    rw [ih, List.all_cons]
    show ((f t == false) || _) = _
    cases f t <;> simp
theorem known_seq {q : T} {ks : List Str} (h : Known q (some ks)) : D.v q = .v (.lst (tS ks)) ∨ D.v q = .v (.tup (tS ks)) := by
  cases h with
  | lst => exact .inl rfl
  | tup => exact .inr rfl
section
variable {n : Nat} {s : Sto} {E : PV.Env} {q v : T} {ks : List Str} {nm : Nat}
/-- the first test of a rule: no four, no name, no outcome -/
theorem rule_first {f : Nat} (hf : ∀ {k : Nat} {t : T}, el k t = true → PV.run P LM (n + 1) false f [.v t] s = .ok (.v (.bl (wordT t))) s) (v1 : E[1]? = some (some (.v v))) (h : el 3 v = true) :
    (∃ x0 x1 os x3, v = .tup [x0, x1, .tup os, x3] ∧ wordT x0 = true ∧ ev P (PV.run P LM (n + 1)) (flOf P LM (n + 1)) E (.or (.not (.isi (.var 1) [.inl .tuple])) (.or (.cmp .ne (.bi false .len [(.var 1)]) (.int 4)) (.or (.not (.call false f [(.ix (.var 1) (.int 0))] [] [])) (.not (.isi (.ix (.var 1) (.int 2)) [.inl .tuple]))))) s = .ok (.v (.bl false)) s) ∨
    (ruleT ks v = false ∧ ev P (PV.run P LM (n + 1)) (flOf P LM (n + 1)) E (.or (.not (.isi (.var 1) [.inl .tuple])) (.or (.cmp .ne (.bi false .len [(.var 1)]) (.int 4)) (.or (.not (.call false f [(.ix (.var 1) (.int 0))] [] [])) (.not (.isi (.ix (.var 1) (.int 2)) [.inl .tuple]))))) s = .ok (.v (.bl true)) s) := by
  have a1 := ev_not ((ev_isi (P := P) (F := PV.run P LM (n + 1)) (FL := flOf P LM (n + 1)) (cs := [.inl .tuple]) (ev_v v1 (s := s))).trans (isi_tupT h s))
  cases v with
  | tup ts =>
    have a2 := (ev_cmp (o := .ne) ((ev_bi1 (m := false) (bb := .len) (ev_v (P := P) (F := PV.run P LM (n + 1)) (FL := flOf P LM (n + 1)) v1 (s := s))).trans (bi_len_t ts s false)) (show ev P (PV.run P LM (n + 1)) (flOf P LM (n + 1)) E (.int 4) s = .ok (.v (.int 4)) s from rfl)).trans (c_nei _ _ s)
    by_cases h4 : ts.length = 4
    · match ts, h4, h, v1, a1, a2 with
      | [x0, x1, x2, x3], _, h, v1, a1, a2 =>
        have hx := (el_tup.mp h).2
        have i0 : ev P (PV.run P LM (n + 1)) (flOf P LM (n + 1)) E (.ix (.var 1) (.int 0)) s = .ok (.v x0) s := (ev_ix (ev_v v1) rfl).trans rfl
        have i2 : ev P (PV.run P LM (n + 1)) (flOf P LM (n + 1)) E (.ix (.var 1) (.int 2)) s = .ok (.v x2) s := (ev_ix (ev_v v1) rfl).trans rfl
        have a3 := ev_not ((ev_call1 (zz := false) (f := f) i0).trans (hf (hx x0 (by simp))))
        have a4 := ev_not ((ev_isi (cs := [.inl .tuple]) i2).trans (isi_tupT (hx x2 (by simp)) s))
        have a5 := ev_or (h := a3) (h2 := fun _ => a4)
        have a6 := (ev_or_f a2).trans a5
        have a7 := (ev_or_f a1).trans a6
        cases hw : wordT x0 with
        | false =>
          refine .inr ⟨?_, ?_⟩
          · cases x2 <;> first | rfl | (show (wordT x0 && _ && _) = false; rw [hw]; rfl)
          · rw [hw] at a7; exact a7
        | true =>
          cases x2 with
          | tup os => exact .inl ⟨x0, x1, os, x3, rfl, hw, by rw [hw] at a7; exact a7⟩
          | non => exact .inr ⟨rfl, by rw [hw] at a7; exact a7⟩
          | bl b => exact .inr ⟨rfl, by rw [hw] at a7; exact a7⟩
          | int b => exact .inr ⟨rfl, by rw [hw] at a7; exact a7⟩
          | str b => exact .inr ⟨rfl, by rw [hw] at a7; exact a7⟩
          | lst b => exact .inr ⟨rfl, by rw [hw] at a7; exact a7⟩
          | dct b c => exact .inr ⟨rfl, by rw [hw] at a7; exact a7⟩
          | obj b c => exact .inr ⟨rfl, by rw [hw] at a7; exact a7⟩
          | scr b => exact .inr ⟨rfl, by rw [hw] at a7; exact a7⟩
    · have e : decide ((ts.length : Int) = 4) = false := decide_eq_false (by omega)
      rw [e] at a2
      refine .inr ⟨?_, (ev_or_f a1).trans (ev_or_t a2)⟩
      unfold ruleT
      split
      · next e => cases e; exact absurd rfl h4
      · rfl
  | non => exact .inr ⟨rfl, ev_or_t a1⟩
  | bl b => exact .inr ⟨rfl, ev_or_t a1⟩
  | int b => exact .inr ⟨rfl, ev_or_t a1⟩
  | str b => exact .inr ⟨rfl, ev_or_t a1⟩
  | lst b => exact .inr ⟨rfl, ev_or_t a1⟩
  | dct b c => cases h
  | obj b c => cases h
  | scr b => cases h
end
theorem is_rule (n : Nat) (s : Sto) {q v : T} {ks : List Str} (hq : Known q (some ks)) (h : el 3 v = true) : PV.run P LM (n + 2) false 3 [.v q, .v v] s = .ok (.v (.bl (ruleT ks v))) s := by
  rw [run_eq (d := f_is_rule) rfl rfl]
  obtain ⟨E, hE⟩ : ∃ E : PV.Env, E = [some (.v q), some (.v v), none] := ⟨_, rfl⟩
  have v0 : E[0]? = some (some (.v q)) := by subst hE; rfl
  have v1 : E[1]? = some (some (.v v)) := by subst hE; rfl
  have key : ∃ e, exSs P (PV.run P LM (n + 1)) (flOf P LM (n + 1)) E b_is_rule s = .ok (.rt (.v (.bl (ruleT ks v)))) e s := by
    rcases rule_first (ks := ks) (f := 1) (fun h => is_name n s h) v1 h with ⟨x0, x1, os, x3, rfl, hw, c1⟩ | ⟨u, c1⟩
    · have hx := (el_tup.mp h).2
      have ho := (el_tup.mp (hx (.tup os) (by simp)))
      have h1 := hx x1 (by simp)
      have hel : ∀ t ∈ x1 :: os, el 2 t = true := fun t ht => by
        rcases List.mem_cons.mp ht with rfl | ht
        · exact h1
        · exact el_up 1 t (ho.2 t ht)
      have i1 : ev P (PV.run P LM (n + 1)) (flOf P LM (n + 1)) E (.ix (.var 1) (.int 1)) s = .ok (.v x1) s := (ev_ix (ev_v v1) rfl).trans rfl
      have i2 : ev P (PV.run P LM (n + 1)) (flOf P LM (n + 1)) E (.ix (.var 1) (.int 2)) s = .ok (.v (.tup os)) s := (ev_ix (ev_v v1) rfl).trans rfl
      have i3 : ev P (PV.run P LM (n + 1)) (flOf P LM (n + 1)) E (.ix (.var 1) (.int 3)) s = .ok (.v x3) s := (ev_ix (ev_v v1) rfl).trans rfl
      have tp_ : ev P (PV.run P LM (n + 1)) (flOf P LM (n + 1)) E (.tup [(false, (.ix (.var 1) (.int 1))), (true, (.ix (.var 1) (.int 2)))]) s = .ok (.v (.tup (x1 :: os))) s := by
        have es : evst P (PV.run P LM (n + 1)) (flOf P LM (n + 1)) E [(true, (.ix (.var 1) (.int 2)))] s = .ok (os.map .v) s := by
          show ((ev P (PV.run P LM (n + 1)) (flOf P LM (n + 1)) E (.ix (.var 1) (.int 2)) s).bind _) = _
          rw [i2]
          show Res.ok (os.map D.v ++ []) s = _
          rw [List.append_nil]
        show ((evst P (PV.run P LM (n + 1)) (flOf P LM (n + 1)) E [(false, (.ix (.var 1) (.int 1))), (true, (.ix (.var 1) (.int 2)))] s).bind _) = _
        rw [evst_c i1 es]
        show ((guardM (decide (((x1 :: os).map D.v).length ≤ LIM)) s).bind fun _ => M.ret (mkT ((x1 :: os).map D.v))) = _
        rw [decide_eq_true (by rw [List.length_map, show LIM = 16000000 from rfl, List.length_cons]; omega), mkT_v]
        rfl
      have cp := comp_pure (P := P) (F := PV.run P LM (n + 1)) (FL := flOf P LM (n + 1)) (env := E) (own := [2]) (i := 2) (it := .it (.tup [(false, (.ix (.var 1) (.int 1))), (true, (.ix (.var 1) (.int 2)))])) (e := .and (.isi (.var 2) [.inl .str]) (.cmp .isin (.var 2) (.var 0))) (cond := none) (ts := x1 :: os) (m := false) (s0 := s) (s := s) (fun _ => true) (fun t => .bl (okK ks t)) (walk_tup tp_) (by subst hE; simp) (fun t ht => rfl)
        (fun t ht _ => ev_and ((ev_isi (ev_v (d := .v t) (by subst hE; rfl))).trans (isi_strT (hel t ht) s)) fun _ => (ev_cmp (ev_v (d := .v t) (by subst hE; rfl)) (ev_v (d := .v q) (by subst hE; rfl))).trans (c_in s (known_seq hq) (el_flat40 (hel t ht) (by decide)) (tS_flat ks)))
      rw [mkL_f, List.filter_eq_self.mpr (fun _ _ => rfl)] at cp
      have fl : ((x1 :: os).map fun t => T.bl (okK ks t)).all T.flat = true := List.all_eq_true.mpr fun t ht => by
        obtain ⟨u, _, rfl⟩ := List.mem_map.mp ht
        rfl
      have c2 := (ev_cmp (o := .isin) (show ev P (PV.run P LM (n + 1)) (flOf P LM (n + 1)) E (.bl false) s = .ok (.v (.bl false)) s from rfl) cp).trans (c_in s (.inl rfl) rfl fl)
      rw [any_false'] at c2
      have er : ruleT ks (.tup [x0, x1, .tup os, x3]) = ((x1 :: os).all (okK ks) && intT x3) := by
        show (wordT x0 && (x1 :: os).all (okK ks) && intT x3) = _
        rw [hw]; rfl
      rw [er]
      cases ha : (x1 :: os).all (okK ks) with
      | false =>
        rw [ha] at c2
        exact ⟨E, (ex_if_f c1).trans ((ex_if_t c2).trans rfl)⟩
      | true =>
        rw [ha] at c2
        exact ⟨E, (ex_if_f c1).trans ((ex_if_f c2).trans (ex_ret ((ev_call1 i3).trans (is_integer n s (hx x3 (by simp))))))⟩
    · rw [u]
      exact ⟨E, (ex_if_t c1).trans rfl⟩
  obtain ⟨e, he⟩ := key
  subst hE
  exact (congrArg (finR false false s.length) he).trans (fin_v rfl rfl)
theorem law_is_rule (n : Nat) (s : Sto) {q v : T} {ks : List Str} (hq : Known q (some ks)) (h : el 3 v = true) : PV.run P LM (n + 2) false 17 [.v q, .v v] s = .ok (.v (.bl (ruleT ks v))) s := by
  rw [run_eq (d := f_law_is_rule) rfl rfl]
  obtain ⟨E, hE⟩ : ∃ E : PV.Env, E = [some (.v q), some (.v v), none] := ⟨_, rfl⟩
  have v0 : E[0]? = some (some (.v q)) := by subst hE; rfl
  have v1 : E[1]? = some (some (.v v)) := by subst hE; rfl
  have key : ∃ e, exSs P (PV.run P LM (n + 1)) (flOf P LM (n + 1)) E b_law_is_rule s = .ok (.rt (.v (.bl (ruleT ks v)))) e s := by
    rcases rule_first (ks := ks) (f := 15) (fun h => is_word n s h) v1 h with ⟨x0, x1, os, x3, rfl, hw, c1⟩ | ⟨u, c1⟩
    · have hx := (el_tup.mp h).2
      have ho := (el_tup.mp (hx (.tup os) (by simp)))
      have h1 := hx x1 (by simp)
      have hel : ∀ t ∈ x1 :: os, el 2 t = true := fun t ht => by
        rcases List.mem_cons.mp ht with rfl | ht
        · exact h1
        · exact el_up 1 t (ho.2 t ht)
      have i1 : ev P (PV.run P LM (n + 1)) (flOf P LM (n + 1)) E (.ix (.var 1) (.int 1)) s = .ok (.v x1) s := (ev_ix (ev_v v1) rfl).trans rfl
      have i2 : ev P (PV.run P LM (n + 1)) (flOf P LM (n + 1)) E (.ix (.var 1) (.int 2)) s = .ok (.v (.tup os)) s := (ev_ix (ev_v v1) rfl).trans rfl
      have i3 : ev P (PV.run P LM (n + 1)) (flOf P LM (n + 1)) E (.ix (.var 1) (.int 3)) s = .ok (.v x3) s := (ev_ix (ev_v v1) rfl).trans rfl
      have t1 : ev P (PV.run P LM (n + 1)) (flOf P LM (n + 1)) E (.tup [(false, (.ix (.var 1) (.int 1)))]) s = .ok (.v (.tup [x1])) s := by
        show ((evst P (PV.run P LM (n + 1)) (flOf P LM (n + 1)) E [(false, (.ix (.var 1) (.int 1)))] s).bind _) = _
        rw [evst_c i1 (show evst P (PV.run P LM (n + 1)) (flOf P LM (n + 1)) E [] s = .ok [] s from rfl)]
        rfl
      have tp_ : ev P (PV.run P LM (n + 1)) (flOf P LM (n + 1)) E (.bin false .add (.tup [(false, (.ix (.var 1) (.int 1)))]) (.ix (.var 1) (.int 2))) s = .ok (.v (.tup (x1 :: os))) s := (ev_bin t1 i2).trans (b_addt s (by have := ho.1; simp; omega))
      have cp := comp_pure (P := P) (F := PV.run P LM (n + 1)) (FL := flOf P LM (n + 1)) (env := E) (own := [2]) (i := 2) (it := .it (.bin false .add (.tup [(false, (.ix (.var 1) (.int 1)))]) (.ix (.var 1) (.int 2)))) (e := .var 2) (cond := some (.or (.not (.isi (.var 2) [.inl .str])) (.cmp .nin (.var 2) (.var 0)))) (ts := x1 :: os) (m := false) (s0 := s) (s := s) (fun t => !okK ks t) id (walk_tup tp_) (by subst hE; simp)
        (fun t ht => by
          have := ev_or (h := ev_not ((ev_isi (P := P) (F := PV.run P LM (n + 1)) (FL := flOf P LM (n + 1)) (env := (wipeE E [2]).set 2 (some (.v t))) (cs := [.inl .str]) (ev_v (i := 2) (d := .v t) (s := s) (by subst hE; rfl))).trans (isi_strT (hel t ht) s))) (h2 := fun _ => (ev_cmp (o := .nin) (ev_v (i := 2) (d := .v t) (by subst hE; rfl)) (ev_v (i := 0) (d := .v q) (by subst hE; rfl))).trans (c_nin s (known_seq hq) (el_flat40 (hel t ht) (by decide)) (tS_flat ks)))
          have e2 : (!okK ks t) = (!strT t || !anyEq t (tS ks)) := by unfold okK; cases strT t <;> simp
          rw [e2]
          exact tst this) (fun t _ _ => ev_v (d := .v t) (i := 2) (by subst hE; rfl))
      rw [mkL_f, List.map_id] at cp
      have f2 : (T.lst ((x1 :: os).filter fun t => !okK ks t)).flat = true := lst_flat (filter_all (List.all_eq_true.mpr fun t ht => el_flat (hel t ht) (by decide)))
      have c2 := (ev_cmp (o := .eq) cp (show ev P (PV.run P LM (n + 1)) (flOf P LM (n + 1)) E (.lst false []) s = .ok (.v (.lst [])) s from rfl)).trans (c_eq s f2 nil_flat)
      rw [eqv_nil, isEmpty_filter] at c2
      have c3 := ev_and (h := c2) (h2 := fun _ => (ev_call1 (zz := false) (f := 13) i3).trans (is_number n s (hx x3 (by simp))))
      have er : ruleT ks (.tup [x0, x1, .tup os, x3]) = ((x1 :: os).all (okK ks) && intT x3) := by
        show (wordT x0 && (x1 :: os).all (okK ks) && intT x3) = _
        rw [hw]; rfl
      rw [er]
      exact ⟨E, (ex_if_f c1).trans (ex_ret c3)⟩
    · rw [u]
      exact ⟨E, (ex_if_t c1).trans rfl⟩
  obtain ⟨e, he⟩ := key
  subst hE
  exact (congrArg (finR false false s.length) he).trans (fin_v rfl rfl)
end K03
end
section
set_option Elab.async false
set_option linter.all false
set_option maxRecDepth 1000000
set_option maxHeartbeats 4000000
/-! E20: what is due. -/
namespace K03
open PySem PV
section
variable {P : Pr} {F : Bool → Nat → List D → M D} {FL : Nat → PV.Env → M D} {env : PV.Env} {own : List Nat} {it e : C} {cond : Option C} {ts : List T} {s s0 : Sto} {m : Bool} {g : Pt}
/-- a comprehension that changes nothing, names by a pattern -/
theorem comp_pureG (p : T → Bool) (f : T → T) (hit : evi P F FL env it s0 = .ok (ts.map .v) s)
    (hc : ∀ t ∈ ts, ∃ en, bindP s g (.v t) (wipeE env own) = some en ∧ evc P F FL en cond s = .ok (p t) s ∧ (p t = true → ev P F FL en e s = .ok (.v (f t)) s)) : ev P F FL env (.comp m e own g it cond) s0 = mkL m (((ts.filter p).map f).map .v) s := by
  show ((evi P F FL env it s0).bind fun xs => (nox (turns g (wipeE env own) (fun en => evc P F FL en cond) (fun en => ev P F FL en e) xs [])).bind fun ys => mkL m ys) = _
  rw [hit]
  have z := turns_pure (g := g) (env := wipeE env own) (cond := fun en => evc P F FL en cond) (elt := fun en => ev P F FL en e) (s := s) (fun d => match d with | .v t => p t | _ => false) (fun d => match d with | .v t => .v (f t) | d => d) (ts.map .v) [] (fun x hx => by
    obtain ⟨t, ht, rfl⟩ := List.mem_map.mp hx
    exact hc t ht)
  show ((nox (turns g (wipeE env own) (fun en => evc P F FL en cond) (fun en => ev P F FL en e) (ts.map .v) []) s).bind fun ys => mkL m ys) = _
  rw [nox_ok z]
  show mkL m _ s = _
  congr 1
  rw [List.nil_append, List.filter_map, List.map_map, List.map_map]
  rfl
end
def sndT : T → T
  | .tup [_, x] => x
  | _ => .non
def fstT : T → T
  | .tup [x, _] => x
  | _ => .non
def firstBad (p : T → Bool) : Nat → List T → Option Nat
  | _, [] => none
  | i, x :: r => match p x with
    | true => firstBad p (i + 1) r
    | false => some i
theorem bad_list (p : T → Bool) : ∀ (i : Nat) (rs : List T), match firstBad p i rs with
    | none => ((enumT i rs).filter fun t => !p (sndT t)).map fstT = [] ∧ rs.all p = true
    | some j => ∃ l, ((enumT i rs).filter fun t => !p (sndT t)).map fstT = .int j :: l ∧ i ≤ j ∧ j < i + rs.length
  | i, [] => ⟨rfl, rfl⟩
  | i, x :: r => by
    have ih := bad_list p (i + 1) r
    unfold firstBad
    show match (match p x with | true => firstBad p (i + 1) r | false => some i) with
      | none => (((T.tup [.int i, x] :: enumT (i + 1) r).filter fun t => !p (sndT t)).map fstT = [] ∧ (x :: r).all p = true)
      | some j => ∃ l, ((T.tup [.int i, x] :: enumT (i + 1) r).filter fun t => !p (sndT t)).map fstT = .int j :: l ∧ i ≤ j ∧ j < i + (x :: r).length
    cases h : p x with
    | true =>
      have e : (T.tup [.int i, x] :: enumT (i + 1) r).filter (fun t => !p (sndT t)) = (enumT (i + 1) r).filter fun t => !p (sndT t) := List.filter_cons_of_neg (by show ¬(!p x) = true; rw [h]; decide)
      rw [e, List.all_cons, h]
      dsimp only
      cases q : firstBad p (i + 1) r with
      | none => rw [q] at ih; exact ⟨ih.1, by rw [ih.2]; rfl⟩
      | some j =>
        rw [q] at ih
        obtain ⟨l, h1, h2, h3⟩ := ih
        exact ⟨l, h1, by omega, by simp; omega⟩
    | false =>
      have e : (T.tup [.int i, x] :: enumT (i + 1) r).filter (fun t => !p (sndT t)) = T.tup [.int i, x] :: (enumT (i + 1) r).filter fun t => !p (sndT t) := List.filter_cons_of_pos (by show (!p x) = true; rw [h]; rfl)
      rw [e]
      exact ⟨_, rfl, Nat.le_refl _, by simp⟩
def ixT : T → T
  | .tup (x :: _) => x
  | _ => .non
theorem rule_ix {ks : List Str} {t : T} (h : ruleT ks t = true) : ∃ x0 ts, t = .tup (x0 :: ts) ∧ ixT t = x0 ∧ wordT x0 = true := by
  unfold ruleT at h
  split at h
  · rw [Bool.and_eq_true, Bool.and_eq_true] at h
    exact ⟨_, _, rfl, rfl, h.1.1⟩
  · cases h
def namesT (rs : List T) : List Str := strsT (rs.map ixT)
theorem names_eq {ks : List Str} {rs : List T} (h : rs.all (ruleT ks) = true) : rs.map ixT = tS (namesT rs) := by
  refine words_str (List.all_eq_true.mpr fun t ht => ?_)
  obtain ⟨u, hu, rfl⟩ := List.mem_map.mp ht
  obtain ⟨_, _, _, e, w⟩ := rule_ix (List.all_eq_true.mp h u hu)
  rw [e]; exact w
def firstTw : List Str → List Str → Option Str
  | _, [] => none
  | pre, x :: r => match pre.any fun y => decide (y = x) with
    | true => some x
    | false => firstTw (pre ++ [x]) r
def twB (us : List Str) (t : T) : Bool := match t with
  | .tup [.int i, x] => anyEq x (cut (tS us) none (some i))
  | _ => false
theorem cut_pre (pre r : List Str) : cut (tS (pre ++ r)) none (some (pre.length : Int)) = tS pre := by
  unfold cut cutIx
  dsimp only
  rw [if_neg (by omega)]
  simp [tS]
theorem tw_list : ∀ (rest pre us : List Str), us = pre ++ rest → match firstTw pre rest with
    | none => ((enumT pre.length (tS rest)).filter (twB us)).map sndT = []
    | some x => (∃ l, ((enumT pre.length (tS rest)).filter (twB us)).map sndT = .str x :: l) ∧ x ∈ rest
  | [], pre, us, e => rfl
  | x :: r, pre, us, e => by
    have ih := tw_list r (pre ++ [x]) us (by simp [e])
    have l1 : (pre ++ [x]).length = pre.length + 1 := by simp
    rw [l1] at ih
    have tv : twB us (.tup [.int pre.length, .str x]) = pre.any fun y => decide (y = x) := by
      show anyEq (.str x) (cut (tS us) none (some (pre.length : Int))) = _
      rw [e, cut_pre, anyEq_tS]
    unfold firstTw
    show match (match pre.any fun y => decide (y = x) with | true => some x | false => firstTw (pre ++ [x]) r) with
      | none => ((T.tup [.int pre.length, .str x] :: enumT (pre.length + 1) (tS r)).filter (twB us)).map sndT = []
      | some y => (∃ l, ((T.tup [.int pre.length, .str x] :: enumT (pre.length + 1) (tS r)).filter (twB us)).map sndT = .str y :: l) ∧ y ∈ x :: r
    cases h : pre.any fun y => decide (y = x) with
    | true =>
      rw [List.filter_cons_of_pos (by rw [tv, h])]
      exact ⟨⟨_, rfl⟩, List.mem_cons_self ..⟩
    | false =>
      rw [List.filter_cons_of_neg (by rw [tv, h]; decide)]
      dsimp only
      cases q : firstTw (pre ++ [x]) r with
      | none => rw [q] at ih; exact ih
      | some y => rw [q] at ih; exact ⟨ih.1, List.mem_cons_of_mem _ ih.2⟩
def kindsOf (t : T) : List Str := match seqT t with
  | some ts => strsT ts
  | none => []
def okKinds (k : T) : Bool := unlB k && !(kindsOf k).isEmpty
/-- what a book says of its parts -/
def dueT (k h r b c : T) : List T := match okKinds k with
  | false => [.str "kinds", k]
  | true => match unlB h && subK (kindsOf k) h with
    | false => [.str "handles", h]
    | true => match seqT r with
      | none => [.str "rules", r]
      | some rs => match firstBad (ruleT (kindsOf k)) 0 rs with
        | some i => [.str "rule", .int i]
        | none => match firstTw [] (namesT rs) with
          | some x => [.str "twice", .str x]
          | none => match strT b && anyEq b (tS (kindsOf k)) with
            | false => [.str "start", b]
            | true => match intT c with
              | false => [.str "count", c]
              | true => []
theorem kinds_known {k : T} (h : unlB k = true) : Known k (some (kindsOf k)) ∧ seqT k = some (tS (kindsOf k)) := by
  unfold unlB at h
  unfold kindsOf
  cases k with
  | lst ts =>
    have e := words_str (ts := ts) (by simp only [seqT, Bool.and_eq_true] at h; exact h.1)
    refine ⟨?_, ?_⟩
    · show Known (.lst ts) (some (strsT ts))
      have : Known (.lst (tS (strsT ts))) (some (strsT ts)) := .lst _
      rw [← e] at this; exact this
    · show some ts = some (tS (strsT ts))
      rw [← e]
  | tup ts =>
    have e := words_str (ts := ts) (by simp only [seqT, Bool.and_eq_true] at h; exact h.1)
    refine ⟨?_, ?_⟩
    · show Known (.tup ts) (some (strsT ts))
      have : Known (.tup (tS (strsT ts))) (some (strsT ts)) := .tup _
      rw [← e] at this; exact this
    · show some ts = some (tS (strsT ts))
      rw [← e]
  | _ => cases h
end K03
end
section
set_option Elab.async false
set_option linter.all false
set_option maxRecDepth 1000000
set_option maxHeartbeats 4000000
/-! E21: the law's answer. -/
namespace K03
open PySem PV
abbrev Du (i : Nat) (k h r b c : T) (o7 o10 o11 : Option D) : PV.Env := [some (.ref i), some (.v k), some (.v h), some (.v r), some (.v b), some (.v c), none, o7, none, none, o10, o11, none]
theorem walk_enum {P : Pr} {F : Bool → Nat → List D → M D} {FL : Nat → PV.Env → M D} {env : PV.Env} {i : Nat} {t : T} {ts : List T} (hs : seqT t = some ts) (hv : env[i]? = some (some (.v t))) (s : Sto) : evi P F FL env (.enum (.var i)) s = .ok ((enumT 0 ts).map .v) s := by
  have key : ∀ d, d = D.v (.lst ts) ∨ d = D.v (.tup ts) → ev P F FL env (.var i) s = .ok d s → evi P F FL env (.enum (.var i)) s = .ok ((enumT 0 ts).map .v) s := fun d hd h => by
    show ((ev P F FL env (.var i) s).bind fun x => (M.opt (walked2 x)).bind fun xs => .ret (enumD 0 xs)) = _
    rw [h]
    rcases hd with rfl | rfl <;>
    · show Res.ok (enumD 0 (ts.map .v)) s = _
      rw [enumD_v]
  cases t with
  | lst l => cases hs; exact key _ (.inl rfl) (ev_v hv)
  | tup l => cases hs; exact key _ (.inr rfl) (ev_v hv)
  | _ => cases hs
theorem ret_list {P : Pr} {F : Bool → Nat → List D → M D} {FL : Nat → PV.Env → M D} {env : PV.Env} {x : Str} {c : C} {t : T} {s : Sto} (h : ev P F FL env c s = .ok (.v t) s) : exSs P F FL env [.ret (.lst false [(false, (.str x)), (false, c)])] s = .ok (.rt (.v (.lst [.str x, t]))) env s := by
  refine ex_ret ?_
  show ((evst P F FL env [(false, (.str x)), (false, c)] s).bind _) = _
  rw [evst_c (show ev P F FL env (.str x) s = .ok (.v (.str x)) s from rfl) (evst_c h (show evst P F FL env [] s = .ok [] s from rfl))]
  rfl
theorem if_list {P : Pr} {F : Bool → Nat → List D → M D} {FL : Nat → PV.Env → M D} {env : PV.Env} {x : Str} {a c : C} {t : T} {s : Sto} {q rest : List S} (g : ev P F FL env a s = .ok (.v (.bl true)) s) (h : ev P F FL env c s = .ok (.v t) s) : exSs P F FL env (.ife a [.ret (.lst false [(false, .str x), (false, c)])] q :: rest) s = .ok (.rt (.v (.lst [.str x, t]))) env s := by
  rw [ex_if_t g, ret_list h]; rfl
theorem kinds_len {k : T} {ks : List Str} (h : seqT k = some (tS ks)) {n : Nat} {env : PV.Env} {i : Nat} (hv : env[i]? = some (some (.v k))) (s : Sto) : ev P (PV.run P LM n) (flOf P LM n) env (.cmp .eq (.bi false .len [(.var i)]) (.int 0)) s = .ok (.v (.bl ks.isEmpty)) s := by
  have c := (ev_cmp (o := .eq) (len_seq (n := n) h hv s) (show ev P (PV.run P LM n) (flOf P LM n) env (.int 0) s = .ok (.v (.int 0)) s from rfl)).trans (c_eqi _ _ s)
  rw [c, tS_len]
  cases ks with
  | nil => rfl
  | cons a r =>
    have : decide (((a :: r).length : Int) = 0) = false := decide_eq_false (by simp; omega)
    rw [this]; rfl
theorem okKinds_eq {k : T} (h : unlB k = true) : okKinds k = !(kindsOf k).isEmpty := by
  unfold okKinds; rw [h]; rfl
theorem okKinds_f {k : T} (h : unlB k = false) : okKinds k = false := by
  unfold okKinds; rw [h]; rfl
theorem strt {k : Nat} {t : T} {n : Nat} {env : PV.Env} {i j : Nat} {q : T} {ks : List Str} (h : el k t = true) (hk : k ≤ 20) (hq : Known q (some ks)) (hv : env[i]? = some (some (.v t))) (hw : env[j]? = some (some (.v q))) (s : Sto) : ev P (PV.run P LM n) (flOf P LM n) env (.or (.not (.isi (.var i) [.inl .str])) (.cmp .nin (.var i) (.var j))) s = .ok (.v (.bl (!(strT t && anyEq t (tS ks))))) s := by
  have := ev_or (h := ev_not ((ev_isi (P := P) (F := PV.run P LM n) (FL := flOf P LM n) (cs := [.inl .str]) (ev_v hv (s := s))).trans (isi_strT h s))) (h2 := fun _ => (ev_cmp (o := .nin) (ev_v hv) (ev_v hw)).trans (c_nin s (known_seq hq) (el_flat40 h (by omega)) (tS_flat ks)))
  rw [this]
  cases strT t <;> simp
structure Parts (k h r b c : T) : Prop where
  k : isP 2 k
  h : isP 2 h
  r : isP 4 r
  b : el 1 b = true
  c : el 1 c = true
theorem law_due (n : Nat) {s : Sto} (p : Pl s) {i : Nat} {k h r b c : T} (hc : cellAt s i = some (.lst ([k, h, r, b, c].map .v))) (q : Parts k h r b c) : PV.run P LM (n + 3) false 18 [.ref i] s = .ok (.v (.lst (dueT k h r b c))) s := by
  rw [run_eq (d := f_law_due) rfl rfl]
  have st1 : ∀ rest, exSs P (PV.run P LM (n + 2)) (flOf P LM (n + 2)) [some (.ref i), none, none, none, none, none, none, none, none, none, none, none, none] (.asg (.pt (.tp [(.nm 1), (.nm 2), (.nm 3), (.nm 4), (.nm 5)])) (.var 0) :: rest) s = exSs P (PV.run P LM (n + 2)) (flOf P LM (n + 2)) (Du i k h r b c none none none) rest s := fun rest => by
    refine seq_nx ?_
    show (M.opt (bindP s (.tp [(.nm 1), (.nm 2), (.nm 3), (.nm 4), (.nm 5)]) (.ref i) _) s |> fun x => withE _ x _) = _
    have e1 : asSeq s (.ref i) = some ([k, h, r, b, c].map .v) := by
      show asList s (.ref i) = _
      unfold asList; dsimp only; rw [hc]
    unfold bindP
    rw [e1]
    rfl
  have key : ∃ e, exSs P (PV.run P LM (n + 2)) (flOf P LM (n + 2)) (Du i k h r b c none none none) (b_law_due.drop 1) s = .ok (.rt (.v (.lst (dueT k h r b c)))) e s := by
    -- kinds
    have c1 := ev_not ((ev_call1 (P := P) (F := PV.run P LM (n + 2)) (FL := flOf P LM (n + 2)) (env := Du i k h r b c none none none) (a := .var 1) (zz := false) (f := 16) (s := s) rfl).trans (law_are_unlike n p (k := 1) (by decide) q.k))
    cases hk : unlB k with
    | false =>
      rw [hk] at c1
      unfold dueT
      rw [okKinds_f hk]
      exact ⟨(Du i k h r b c none none none), if_list (t := k) (ev_or_t c1) rfl⟩
    | true =>
    obtain ⟨kn, ksq⟩ := kinds_known hk
    rw [hk] at c1
    have c2 := (ev_or_f c1).trans (kinds_len ksq (n := n + 2) (env := Du i k h r b c none none none) (i := 1) rfl s)
    cases hz : (kindsOf k).isEmpty with
    | true =>
      rw [hz] at c2
      unfold dueT
      rw [okKinds_eq hk, hz]
      exact ⟨(Du i k h r b c none none none), if_list (t := k) c2 rfl⟩
    | false =>
    rw [hz] at c2
    have okk : okKinds k = true := by rw [okKinds_eq hk, hz]; rfl
    obtain ⟨ks, hks⟩ : ∃ ks, ks = kindsOf k := ⟨_, rfl⟩
    unfold dueT
    rw [okk]
    rw [← hks] at kn ksq ⊢
    have kseq := known_seq kn
    -- handles
    have d1 := ev_not ((ev_call1 (P := P) (F := PV.run P LM (n + 2)) (FL := flOf P LM (n + 2)) (env := Du i k h r b c none none none) (a := .var 2) (zz := false) (f := 16) (s := s) rfl).trans (law_are_unlike n p (k := 1) (by decide) q.h))
    have d3 : ev P (PV.run P LM (n + 2)) (flOf P LM (n + 2)) (Du i k h r b c none none none) (.or (.not (.call false 16 [(.var 2)] [] [])) (.cmp .ne (.comp false (.var 6) [6] (.nm 6) (.it (.var 2)) (some (.cmp .nin (.var 6) (.var 1)))) (.lst false []))) s = .ok (.v (.bl (!(unlB h && subK ks h)))) s := by
      cases hh : unlB h with
      | false => rw [hh] at d1; exact ev_or_t d1
      | true =>
        rw [hh] at d1
        refine (ev_or_f d1).trans ?_
        obtain ⟨_, hsq⟩ := kinds_known hh
        have hel := (seq_el q.h hsq).2
        have cp := comp_pure (P := P) (F := PV.run P LM (n + 2)) (FL := flOf P LM (n + 2)) (env := Du i k h r b c none none none) (own := [6]) (i := 6) (it := .it (.var 2)) (e := .var 6) (cond := some (.cmp .nin (.var 6) (.var 1))) (ts := tS (kindsOf h)) (m := false) (s0 := s) (s := s) (fun t => !anyEq t (tS ks)) id (walk_seq hsq rfl s) (by simp)
          (fun t ht => tst ((ev_cmp (x := .v t) (y := .v k) (s1 := s) (s2 := s) rfl rfl).trans (c_nin s kseq (el_flat40 (hel t ht) (by decide)) (tS_flat ks)))) (fun t _ _ => rfl)
        rw [mkL_f, List.map_id] at cp
        have f2 : (T.lst ((tS (kindsOf h)).filter fun t => !anyEq t (tS ks))).flat = true := lst_flat (filter_all (tS_shape _))
        refine (ev_cmp cp (show ev P (PV.run P LM (n + 2)) (flOf P LM (n + 2)) (Du i k h r b c none none none) (.lst false []) s = .ok (.v (.lst [])) s from rfl)).trans ((c_ne s f2 nil_flat).trans ?_)
        rw [eqv_nil, isEmpty_filter]
        unfold subK
        rw [hsq]; rfl
    cases hh : unlB h && subK ks h with
    | false =>
      rw [hh] at d3
      exact ⟨(Du i k h r b c none none none), (ex_if_f c2).trans (if_list (t := h) d3 rfl)⟩
    | true =>
    rw [hh] at d3
    dsimp only
    -- rules
    have e1 := notseq (n := n + 2) (env := Du i k h r b c none none none) (i := 3) q.r rfl s
    cases hr : seqT r with
    | none =>
      rw [hr] at e1
      exact ⟨(Du i k h r b c none none none), (ex_if_f c2).trans ((ex_if_f d3).trans (if_list (t := r) e1 rfl))⟩
    | some rs =>
    rw [hr] at e1
    obtain ⟨rl10, rel⟩ := seq_el q.r hr
    dsimp only
    have cp := comp_pureG (P := P) (F := PV.run P LM (n + 2)) (FL := flOf P LM (n + 2)) (env := Du i k h r b c none none none) (own := [8, 9]) (g := .tp [(.nm 8), (.nm 9)]) (it := .enum (.var 3)) (e := .var 8) (cond := some (.not (.call false 17 [(.var 1), (.var 9)] [] []))) (ts := enumT 0 rs) (m := false) (s0 := s) (s := s) (fun t => !ruleT ks (sndT t)) fstT (walk_enum hr rfl s)
      (fun t ht => by
        obtain ⟨j, x, rfl, hx, _, _⟩ := enumT_mem _ _ _ ht
        refine ⟨_, rfl, tst (ev_not ((ev_call2 (x := .v k) (y := .v x) (s1 := s) (s2 := s) rfl rfl).trans (law_is_rule n s kn (rel x hx)))), fun _ => rfl⟩)
    rw [mkL_f] at cp
    have bl := bad_list (ruleT ks) 0 rs
    have as7 := fun rest => ex_asg (r := rest) cp (show 7 < (Du i k h r b c none none none).length by simp)
    cases hb : firstBad (ruleT ks) 0 rs with
    | some j =>
      rw [hb] at bl
      obtain ⟨l, hl, _, hj⟩ := bl
      rw [hl] at as7
      have lsh : (T.lst (T.int j :: l)).flat = true := by
        rw [← hl]
        refine lst_flat (List.all_eq_true.mpr fun t ht => ?_)
        obtain ⟨u, hu, rfl⟩ := List.mem_map.mp ht
        obtain ⟨j, x, rfl, _⟩ := enumT_mem _ _ _ (List.mem_filter.mp hu).1
        rfl
      have g := (ev_cmp (o := .ne) (P := P) (F := PV.run P LM (n + 2)) (FL := flOf P LM (n + 2)) (env := Du i k h r b c (some (.v (.lst (T.int j :: l)))) none none) (a := .var 7) (b := .lst false []) (x := .v (.lst (T.int j :: l))) (y := .v (.lst [])) (s := s) (s1 := s) (s2 := s) rfl rfl).trans (c_ne s lsh nil_flat)
      exact ⟨(Du i k h r b c (some (.v (.lst (T.int j :: l)))) none none), (ex_if_f c2).trans ((ex_if_f d3).trans ((ex_if_f e1).trans ((as7 _).trans (if_list (t := .int j) g ((ev_ix (x := .v (.lst (T.int j :: l))) (y := .v (.int 0)) (s1 := s) (s2 := s) rfl rfl).trans (item_ls (ts := T.int j :: l) (i := 0) rfl))))))⟩
    | none =>
    rw [hb] at bl
    obtain ⟨hl, hall⟩ := bl
    rw [hl] at as7
    dsimp only
    have g := (ev_cmp (o := .ne) (P := P) (F := PV.run P LM (n + 2)) (FL := flOf P LM (n + 2)) (env := Du i k h r b c (some (.v (.lst []))) none none) (a := .var 7) (b := .lst false []) (x := .v (.lst [])) (y := .v (.lst [])) (s := s) (s1 := s) (s2 := s) rfl rfl).trans (c_ne s nil_flat nil_flat)
    -- names
    have cn := comp_pure (P := P) (F := PV.run P LM (n + 2)) (FL := flOf P LM (n + 2)) (env := Du i k h r b c (some (.v (.lst []))) none none) (own := [9]) (i := 9) (it := .it (.var 3)) (e := .ix (.var 9) (.int 0)) (cond := none) (ts := rs) (m := false) (s0 := s) (s := s) (fun _ => true) ixT (walk_seq hr rfl s) (by simp) (fun _ _ => rfl)
      (fun t ht _ => by
        obtain ⟨x0, ts, rfl, e, _⟩ := rule_ix (List.all_eq_true.mp hall t ht)
        rw [e]
        exact (ev_ix (x := .v (.tup (x0 :: ts))) (y := .v (.int 0)) (s1 := s) (s2 := s) rfl rfl).trans (item_t (ts := x0 :: ts) (i := 0) rfl))
    rw [mkL_f, List.filter_eq_self.mpr (fun _ _ => rfl), names_eq hall] at cn
    obtain ⟨us, hus⟩ : ∃ us, us = namesT rs := ⟨_, rfl⟩
    rw [← hus] at cn ⊢
    have as10 := fun rest => ex_asg (r := rest) cn (show 10 < (Du i k h r b c (some (.v (.lst []))) none none).length by simp)
    have ct := comp_pureG (P := P) (F := PV.run P LM (n + 2)) (FL := flOf P LM (n + 2)) (env := Du i k h r b c (some (.v (.lst []))) (some (.v (.lst (tS us)))) none) (own := [8, 12]) (g := .tp [(.nm 8), (.nm 12)]) (it := .enum (.var 10)) (e := .var 12) (cond := some (.cmp .isin (.var 12) (.sl false (.var 10) none (some (.var 8))))) (ts := enumT 0 (tS us)) (m := false) (s0 := s) (s := s) (twB us) sndT (walk_enum (t := .lst (tS us)) rfl rfl s)
      (fun t ht => by
        obtain ⟨j, x, rfl, hx, _, _⟩ := enumT_mem _ _ _ ht
        obtain ⟨y, hy, rfl⟩ := mem_tS.mp hx
        have sl : ev P (PV.run P LM (n + 2)) (flOf P LM (n + 2)) [some (.ref i), some (.v k), some (.v h), some (.v r), some (.v b), some (.v c), none, some (.v (.lst [])), some (.v (.int j)), none, some (.v (.lst (tS us))), none, some (.v (.str y))] (.sl false (.var 10) none (some (.var 8))) s = .ok (.v (.lst (cut (tS us) none (some (j : Int))))) s := slice_l (tS us) none (some (j : Int)) s
        refine ⟨_, rfl, tst ((ev_cmp (x := .v (.str y)) (s1 := s) (s2 := s) rfl sl).trans (c_in s (.inl rfl) rfl (List.all_eq_true.mpr fun u hu => List.all_eq_true.mp (tS_flat us) u (cut_mem hu)))), fun _ => rfl⟩)
    rw [mkL_f] at ct
    have as11 := fun rest => ex_asg (r := rest) ct (show 11 < (Du i k h r b c (some (.v (.lst []))) (some (.v (.lst (tS us)))) none).length by simp)
    have tw := tw_list us [] us rfl
    cases ht : firstTw [] us with
    | some x =>
      rw [ht] at tw
      obtain ⟨⟨l, hl⟩, _⟩ := tw
      have hl : ((enumT 0 (tS us)).filter (twB us)).map sndT = .str x :: l := hl
      rw [hl] at as11
      have lsh : (T.lst (T.str x :: l)).flat = true := by
        rw [← hl]
        refine lst_flat (List.all_eq_true.mpr fun t ht => ?_)
        obtain ⟨u, hu, rfl⟩ := List.mem_map.mp ht
        obtain ⟨j, x, rfl, hx, _⟩ := enumT_mem _ _ _ (List.mem_filter.mp hu).1
        obtain ⟨y, hy, rfl⟩ := mem_tS.mp hx
        rfl
      have g2 := (ev_cmp (o := .ne) (P := P) (F := PV.run P LM (n + 2)) (FL := flOf P LM (n + 2)) (env := Du i k h r b c (some (.v (.lst []))) (some (.v (.lst (tS us)))) (some (.v (.lst (T.str x :: l))))) (a := .var 11) (b := .lst false []) (x := .v (.lst (T.str x :: l))) (y := .v (.lst [])) (s := s) (s1 := s) (s2 := s) rfl rfl).trans (c_ne s lsh nil_flat)
      exact ⟨(Du i k h r b c (some (.v (.lst []))) (some (.v (.lst (tS us)))) (some (.v (.lst (T.str x :: l))))), (ex_if_f c2).trans ((ex_if_f d3).trans ((ex_if_f e1).trans ((as7 _).trans ((ex_if_f g).trans ((as10 _).trans ((as11 _).trans (if_list (t := .str x) g2 ((ev_ix (x := .v (.lst (T.str x :: l))) (y := .v (.int 0)) (s1 := s) (s2 := s) rfl rfl).trans (item_ls (ts := T.str x :: l) (i := 0) rfl)))))))))⟩
    | none =>
    rw [ht] at tw
    have hl : ((enumT 0 (tS us)).filter (twB us)).map sndT = [] := tw
    rw [hl] at as11
    dsimp only
    have g2 := (ev_cmp (o := .ne) (P := P) (F := PV.run P LM (n + 2)) (FL := flOf P LM (n + 2)) (env := Du i k h r b c (some (.v (.lst []))) (some (.v (.lst (tS us)))) (some (.v (.lst [])))) (a := .var 11) (b := .lst false []) (x := .v (.lst [])) (y := .v (.lst [])) (s := s) (s1 := s) (s2 := s) rfl rfl).trans (c_ne s nil_flat nil_flat)
    have sb := strt (n := n + 2) (env := Du i k h r b c (some (.v (.lst []))) (some (.v (.lst (tS us)))) (some (.v (.lst [])))) (i := 4) (j := 1) q.b (by decide) kn rfl rfl s
    cases hb : strT b && anyEq b (tS ks) with
    | false =>
      rw [hb] at sb
      exact ⟨(Du i k h r b c (some (.v (.lst []))) (some (.v (.lst (tS us)))) (some (.v (.lst [])))), (ex_if_f c2).trans ((ex_if_f d3).trans ((ex_if_f e1).trans ((as7 _).trans ((ex_if_f g).trans ((as10 _).trans ((as11 _).trans ((ex_if_f g2).trans (if_list (t := b) sb rfl))))))))⟩
    | true =>
    rw [hb] at sb
    dsimp only
    have ci := (ev_call1 (P := P) (F := PV.run P LM (n + 2)) (FL := flOf P LM (n + 2)) (env := Du i k h r b c (some (.v (.lst []))) (some (.v (.lst (tS us)))) (some (.v (.lst [])))) (a := .var 5) (x := .v c) (zz := false) (f := 13) (s := s) (s1 := s) rfl).trans (is_number (n + 1) s q.c)
    refine ⟨(Du i k h r b c (some (.v (.lst []))) (some (.v (.lst (tS us)))) (some (.v (.lst [])))), (ex_if_f c2).trans ((ex_if_f d3).trans ((ex_if_f e1).trans ((as7 _).trans ((ex_if_f g).trans ((as10 _).trans ((as11 _).trans ((ex_if_f g2).trans ((ex_if_f sb).trans (ex_ret (x := .v (.lst (match intT c with | false => [.str "count", c] | true => []))) ?_)))))))))⟩
    show ((ev P (PV.run P LM (n + 2)) (flOf P LM (n + 2)) (Du i k h r b c (some (.v (.lst []))) (some (.v (.lst (tS us)))) (some (.v (.lst [])))) (.call false 13 [(.var 5)] [] []) s).bind _) = _
    rw [ci]
    cases intT c <;> rfl
  obtain ⟨e, he⟩ := key
  exact (congrArg (finR false false s.length) ((st1 _).trans he)).trans (fin_v rfl rfl)
end K03
end
section
set_option Elab.async false
set_option linter.all false
set_option maxRecDepth 1000000
set_option maxHeartbeats 4000000
/-! E22: a book made. -/
namespace K03
open PySem PV
abbrev Ei (L : Nat) (k h r b c : T) (o6 o7 o8 o9 : Option D) : PV.Env := [some (.ref L), some (.v k), some (.v h), some (.v r), some (.v b), some (.v c), o6, o7, o8, o9]
theorem if_raise {F : Bool → Nat → List D → M D} {FL : Nat → PV.Env → M D} {env : PV.Env} {a e : C} {c : Nat} {f : Str} {d : D} {s : Sto} {q rest : List S} (hf : (P.cl c).bind Cl.exc = some (some f)) (g : ev P F FL env a s = .ok (.v (.bl true)) s) (h : ev P F FL env e s = .ok d s) : exSs P F FL env (.ife a [.raise c [e]] q :: rest) s = .ex c [(f, d)] env s := by
  rw [ex_if_t g]
  have : exS P F FL env (.raise c [e]) s = .ex c [(f, d)] env s := by
    show withE env (((ev P F FL env e s).bind fun x => (M.ret []).bind fun xs => .ret (x :: xs))) _ = _
    rw [h]
    show (match excFs P c [d] with | some fs => SRes.ex c fs env s | none => .bad) = _
    unfold excFs
    rw [hf]
  rw [seq_ex this]; rfl
theorem ex_for_ex {F : Bool → Nat → List D → M D} {FL : Nat → PV.Env → M D} {env env' : PV.Env} {s s1 s2 : Sto} {r p : List S} {g : Pt} {it : C} {ds : List D} {c : Nat} {fs : List (Str × D)} (h : evi P F FL env it s = .ok ds s1) (h2 : forL g (fun e s => exSs P F FL e p s) ds env s1 = .ex c fs env' s2) : exSs P F FL env (.for_ g it p :: r) s = .ex c fs env' s2 := by
  refine seq_ex (show withE env (evi P F FL env it s) _ = _ from ?_)
  rw [h]; exact h2
theorem forL_nx {g : Pt} {body : PV.Env → Sto → SRes} {x : D} {r : List D} {env e e' : PV.Env} {s s' : Sto} (h : bindP s g x env = some e) (h2 : body e s = .ok .nx e' s') : forL g body (x :: r) env s = forL g body r e' s' := by
  show (match bindP s g x env with | some e => _ | none => _) = _
  rw [h]; dsimp only; rw [h2]
theorem forL_exc {g : Pt} {body : PV.Env → Sto → SRes} {x : D} {r : List D} {env e e' : PV.Env} {s s' : Sto} {c : Nat} {fs : List (Str × D)} (h : bindP s g x env = some e) (h2 : body e s = .ex c fs e' s') : forL g body (x :: r) env s = .ex c fs e' s' := by
  show (match bindP s g x env with | some e => _ | none => _) = _
  rw [h]; dsimp only; rw [h2]
section
variable {L : Nat} {k h r b c : T} {ks : List Str}
theorem rules_loop (n : Nat) (S : Sto) (kn : Known k (some ks)) (o8 o9 : Option D) : ∀ (rs : List T) (i : Nat) (o6 o7 : Option D), (∀ x ∈ rs, el 3 x = true) → match firstBad (ruleT ks) i rs with
    | none => ∃ o6' o7', forL (.tp [(.nm 6), (.nm 7)]) (fun e s => exSs P (PV.run P LM (n + 2)) (flOf P LM (n + 2)) e [.ife (.not (.call false 3 [(.var 1), (.var 7)] [] [])) [.raise 4 [(.var 6)]] []] s) ((enumT i rs).map .v) (Ei L k h r b c o6 o7 o8 o9) S = .ok .nx (Ei L k h r b c o6' o7' o8 o9) S
    | some j => ∃ o6' o7', forL (.tp [(.nm 6), (.nm 7)]) (fun e s => exSs P (PV.run P LM (n + 2)) (flOf P LM (n + 2)) e [.ife (.not (.call false 3 [(.var 1), (.var 7)] [] [])) [.raise 4 [(.var 6)]] []] s) ((enumT i rs).map .v) (Ei L k h r b c o6 o7 o8 o9) S = .ex 4 [("number", .v (.int j))] (Ei L k h r b c o6' o7' o8 o9) S
  | [], i, o6, o7, _ => ⟨o6, o7, rfl⟩
  | x :: rs, i, o6, o7, hx => by
    have ih := rules_loop n S kn o8 o9 rs (i + 1) (some (.v (.int i))) (some (.v x)) fun y hy => hx y (List.mem_cons_of_mem _ hy)
    have c1 := ev_not ((ev_call2 (P := P) (F := PV.run P LM (n + 2)) (FL := flOf P LM (n + 2)) (env := Ei L k h r b c (some (.v (.int i))) (some (.v x)) o8 o9) (a := .var 1) (b := .var 7) (zz := false) (f := 3) (x := .v k) (y := .v x) (s := S) (s1 := S) (s2 := S) rfl rfl).trans (is_rule n S kn (hx x (List.mem_cons_self ..))))
    have bp : bindP S (.tp [(.nm 6), (.nm 7)]) (.v (.tup [.int i, x])) (Ei L k h r b c o6 o7 o8 o9) = some (Ei L k h r b c (some (.v (.int i))) (some (.v x)) o8 o9) := rfl
    unfold firstBad
    cases q : ruleT ks x with
    | true =>
      rw [q] at c1
      have bd := (ex_if_f (p := [.raise 4 [(.var 6)]]) (q := []) (r := []) c1).trans (show _ = SRes.ok .nx (Ei L k h r b c (some (.v (.int i))) (some (.v x)) o8 o9) S from rfl)
      dsimp only
      cases w : firstBad (ruleT ks) (i + 1) rs with
      | none =>
        rw [w] at ih
        obtain ⟨a1, a2, e⟩ := ih
        exact ⟨a1, a2, (forL_nx bp bd).trans e⟩
      | some j =>
        rw [w] at ih
        obtain ⟨a1, a2, e⟩ := ih
        exact ⟨a1, a2, (forL_nx bp bd).trans e⟩
    | false =>
      rw [q] at c1
      exact ⟨_, _, forL_exc bp (if_raise (f := "number") (d := .v (.int i)) rfl c1 rfl)⟩
theorem names_loop (n : Nat) (S : Sto) (us : List Str) (o7 : Option D) : ∀ (rest pre : List Str) (o6 o9 : Option D), us = pre ++ rest → match firstTw pre rest with
    | none => ∃ o6' o9', forL (.tp [(.nm 6), (.nm 9)]) (fun e s => exSs P (PV.run P LM n) (flOf P LM n) e [.ife (.cmp .isin (.var 9) (.sl false (.var 8) none (some (.var 6)))) [.raise 5 [(.var 9)]] []] s) ((enumT pre.length (tS rest)).map .v) (Ei L k h r b c o6 o7 (some (.v (.lst (tS us)))) o9) S = .ok .nx (Ei L k h r b c o6' o7 (some (.v (.lst (tS us)))) o9') S
    | some x => ∃ o6' o9', forL (.tp [(.nm 6), (.nm 9)]) (fun e s => exSs P (PV.run P LM n) (flOf P LM n) e [.ife (.cmp .isin (.var 9) (.sl false (.var 8) none (some (.var 6)))) [.raise 5 [(.var 9)]] []] s) ((enumT pre.length (tS rest)).map .v) (Ei L k h r b c o6 o7 (some (.v (.lst (tS us)))) o9) S = .ex 5 [("name", .v (.str x))] (Ei L k h r b c o6' o7 (some (.v (.lst (tS us)))) o9') S
  | [], pre, o6, o9, _ => ⟨o6, o9, rfl⟩
  | x :: rest, pre, o6, o9, hu => by
    have ih := names_loop n S us o7 rest (pre ++ [x]) (some (.v (.int pre.length))) (some (.v (.str x))) (by simp [hu])
    have l1 : (pre ++ [x]).length = pre.length + 1 := by simp
    rw [l1] at ih
    have sl : ev P (PV.run P LM n) (flOf P LM n) (Ei L k h r b c (some (.v (.int pre.length))) o7 (some (.v (.lst (tS us)))) (some (.v (.str x)))) (.sl false (.var 8) none (some (.var 6))) S = .ok (.v (.lst (cut (tS us) none (some (pre.length : Int))))) S := slice_l (tS us) none (some (pre.length : Int)) S
    rw [hu, cut_pre, ← hu] at sl
    have c1 := (ev_cmp (P := P) (F := PV.run P LM n) (FL := flOf P LM n) (env := Ei L k h r b c (some (.v (.int pre.length))) o7 (some (.v (.lst (tS us)))) (some (.v (.str x)))) (a := .var 9) (o := .isin) (x := .v (.str x)) (s := S) (s1 := S) (s2 := S) rfl sl).trans (c_in S (.inl rfl) rfl (tS_flat pre))
    rw [anyEq_tS] at c1
    have bp : bindP S (.tp [(.nm 6), (.nm 9)]) (.v (.tup [.int pre.length, .str x])) (Ei L k h r b c o6 o7 (some (.v (.lst (tS us)))) o9) = some (Ei L k h r b c (some (.v (.int pre.length))) o7 (some (.v (.lst (tS us)))) (some (.v (.str x)))) := rfl
    unfold firstTw
    cases q : pre.any fun y => decide (y = x) with
    | false =>
      rw [q] at c1
      have bd := (ex_if_f (p := [.raise 5 [(.var 9)]]) (q := []) (r := []) c1).trans (show _ = SRes.ok .nx (Ei L k h r b c (some (.v (.int pre.length))) o7 (some (.v (.lst (tS us)))) (some (.v (.str x)))) S from rfl)
      dsimp only
      cases w : firstTw (pre ++ [x]) rest with
      | none =>
        rw [w] at ih
        obtain ⟨a1, a2, e⟩ := ih
        exact ⟨a1, a2, (forL_nx bp bd).trans e⟩
      | some j =>
        rw [w] at ih
        obtain ⟨a1, a2, e⟩ := ih
        exact ⟨a1, a2, (forL_nx bp bd).trans e⟩
    | true =>
      rw [q] at c1
      exact ⟨_, _, forL_exc bp (if_raise (f := "name") (d := .v (.str x)) rfl c1 rfl)⟩
end
/-- the exceptions: number, field, word -/
def excL : List (Nat × Str × Str) := [(1, "value", "kinds"), (2, "value", "handles"), (3, "value", "rules"), (4, "number", "rule"), (5, "name", "twice"), (6, "value", "start"), (7, "value", "count")]
theorem tup_seq {n : Nat} {env : PV.Env} {i : Nat} {t : T} {ts : List T} (hs : seqT t = some ts) (hv : env[i]? = some (some (.v t))) (s : Sto) : ev P (PV.run P LM n) (flOf P LM n) env (.bi false .tuple [(.var i)]) s = .ok (.v (.tup ts)) s := by
  refine (ev_bi1 (ev_v hv)).trans ?_
  cases t with
  | lst l => cases hs; exact tuple_l _ s
  | tup l => cases hs; rfl
  | _ => cases hs
theorem put_fld {s : Sto} {fs : List (Str × D)} {f : Str} {d : D} (h : fs.length < 900) : putFld P.own (.ref s.length) f d (s ++ [some (.ins 0 fs)]) = .ok () (s ++ [some (.ins 0 (fset f d fs))]) := by
  unfold putFld
  dsimp only
  rw [clE]
  dsimp only
  rw [decide_eq_true h]
  show Res.ok () ((s ++ [some (PV.Cell.ins 0 fs)]).set s.length (some (.ins 0 (fset f d fs)))) = _
  rw [stE]
theorem fset_len {α : Type} (f : Str) (d : α) : ∀ fs : List (Str × α), (fset f d fs).length ≤ fs.length + 1
  | [] => by simp [fset]
  | (g, y) :: r => by
    unfold fset
    split
    · simp
    · simp only [List.length_cons]; have := fset_len f d r; omega
theorem fset1 {α : Type} {f : Str} {d : α} {fs : List (Str × α)} {n : Nat} (h : fs.length < n) : (fset f d fs).length < n + 1 := by
  have := fset_len f d fs; omega
theorem store_fld {n : Nat} {env : PV.Env} {s : Sto} {fs : List (Str × D)} {f : Str} {d : D} (hv : env[0]? = some (some (.ref s.length))) (h : fs.length < 900) : store P (PV.run P LM n) (flOf P LM n) env (.fld (.var 0) f) d (s ++ [some (.ins 0 fs)]) = .ok env (s ++ [some (.ins 0 (fset f d fs))]) := by
  show ((ev P (PV.run P LM n) (flOf P LM n) env (.var 0) (s ++ [some (.ins 0 fs)])).bind fun x => (putFld P.own x f d).bind fun _ => .ret env) = _
  rw [ev_v hv]
  show ((putFld P.own (.ref s.length) f d (s ++ [some (.ins 0 fs)])).bind fun _ => .ret env) = _
  rw [put_fld h]; rfl
theorem stores_c {n : Nat} {env : PV.Env} {s s1 s2 : Sto} {t : Tg} {ts : List Tg} {d : D} {ds : List D} (h : store P (PV.run P LM n) (flOf P LM n) env t d s = .ok env s1) (h2 : stores P (PV.run P LM n) (flOf P LM n) env ts ds s1 = .ok env s2) : stores P (PV.run P LM n) (flOf P LM n) env (t :: ts) (d :: ds) s = .ok env s2 := by
  show ((store P (PV.run P LM n) (flOf P LM n) env t d s).bind fun e => stores P (PV.run P LM n) (flOf P LM n) e ts ds) = _
  rw [h]; exact h2
theorem asg_tpl {n : Nat} {env : PV.Env} {s s1 s2 : Sto} {ts : List Tg} {e : C} {us : List T} {rest : List S} (h : ev P (PV.run P LM n) (flOf P LM n) env e s = .ok (.v (.tup us)) s1) (h2 : stores P (PV.run P LM n) (flOf P LM n) env ts (us.map .v) s1 = .ok env s2) : exSs P (PV.run P LM n) (flOf P LM n) env (.asg (.tpl ts) e :: rest) s = exSs P (PV.run P LM n) (flOf P LM n) env rest s2 := by
  refine seq_nx ?_
  show withE env (ev P (PV.run P LM n) (flOf P LM n) env e s) _ = _
  rw [h]
  show withE env (nox (stores P (PV.run P LM n) (flOf P LM n) env ts (us.map .v)) s1) _ = _
  rw [nox_ok h2]; rfl
theorem tup_v {n : Nat} {env : PV.Env} {s : Sto} {es : List (Bool × C)} {us : List T} (h : evst P (PV.run P LM n) (flOf P LM n) env es s = .ok (us.map .v) s) (hs : (es.any fun p => p.1) = false) : ev P (PV.run P LM n) (flOf P LM n) env (.tup es) s = .ok (.v (.tup us)) s := by
  show ((evst P (PV.run P LM n) (flOf P LM n) env es s).bind fun ds => (guardM (fewS es ds)).bind fun _ => .ret (mkT ds)) = _
  rw [h]
  show ((guardM (fewS es (us.map .v)) s).bind fun _ => .ret (mkT (us.map .v))) = _
  rw [show fewS es (us.map .v) = true by unfold fewS; rw [hs]; rfl, mkT_v]; rfl
theorem init_body (n : Nat) (s : Sto) {k h r b c : T} (q : Parts k h r b c) :
    (dueT k h r b c = [] ∧ ∃ (fs : List (Str × T)) (e : PV.Env), exSs P (PV.run P LM (n + 2)) (flOf P LM (n + 2)) (Ei s.length k h r b c none none none none) b_Booku_initu (s ++ [some (.ins 0 [])]) = .ok .nx e (s ++ [some (.ins 0 (fs.map fun p => (p.1, D.v p.2)))])) ∨
    ∃ x ∈ excL, ∃ (t : T) (e : PV.Env), dueT k h r b c = [.str x.2.2, t] ∧ exSs P (PV.run P LM (n + 2)) (flOf P LM (n + 2)) (Ei s.length k h r b c none none none none) b_Booku_initu (s ++ [some (.ins 0 [])]) = .ex x.1 [(x.2.1, .v t)] e (s ++ [some (.ins 0 [])]) := by
  obtain ⟨S, hS⟩ : ∃ S : Sto, S = s ++ [some (.ins 0 [])] := ⟨_, rfl⟩
  rw [← hS]
  obtain ⟨L, hL⟩ : ∃ L, L = s.length := ⟨_, rfl⟩
  rw [← hL]
  -- kinds
  have c1 := ev_not ((ev_call2 (P := P) (F := PV.run P LM (n + 2)) (FL := flOf P LM (n + 2)) (env := Ei L k h r b c none none none none) (a := .var 1) (b := .non) (zz := false) (f := 2) (s := S) rfl rfl).trans (are_unlike n S (k := 1) (by decide) q.k .non))
  cases hk : unlB k with
  | false =>
    rw [hk] at c1
    refine .inr ⟨(1, "value", "kinds"), by decide, k, Ei L k h r b c none none none none, ?_, if_raise rfl (ev_or_t c1) rfl⟩
    unfold dueT
    rw [okKinds_f hk]
  | true =>
  obtain ⟨kn, ksq⟩ := kinds_known hk
  rw [hk] at c1
  have c2 := (ev_or_f c1).trans (kinds_len ksq (n := n + 2) (env := Ei L k h r b c none none none none) (i := 1) rfl S)
  cases hz : (kindsOf k).isEmpty with
  | true =>
    rw [hz] at c2
    refine .inr ⟨(1, "value", "kinds"), by decide, k, Ei L k h r b c none none none none, ?_, if_raise rfl c2 rfl⟩
    unfold dueT
    rw [okKinds_eq hk, hz]; rfl
  | false =>
  rw [hz] at c2
  have okk : okKinds k = true := by rw [okKinds_eq hk, hz]; rfl
  obtain ⟨ks, hks⟩ : ∃ ks, ks = kindsOf k := ⟨_, rfl⟩
  unfold dueT
  rw [okk]
  rw [← hks] at kn ksq ⊢
  have kseq := known_seq kn
  -- handles
  have d3 := ev_not ((ev_call2 (P := P) (F := PV.run P LM (n + 2)) (FL := flOf P LM (n + 2)) (env := Ei L k h r b c none none none none) (a := .var 2) (b := .var 1) (zz := false) (f := 2) (s := S) rfl rfl).trans (are_unlike n S (k := 1) (by decide) q.h kn))
  have d3' : (unlB h && subO (some ks) h) = (unlB h && subK ks h) := rfl
  rw [d3'] at d3
  cases hh : unlB h && subK ks h with
  | false =>
    rw [hh] at d3
    exact .inr ⟨(2, "value", "handles"), by decide, h, Ei L k h r b c none none none none, rfl, (ex_if_f c2).trans (if_raise rfl d3 rfl)⟩
  | true =>
  rw [hh] at d3
  dsimp only
  -- rules
  have e1 := notseq (n := n + 2) (env := Ei L k h r b c none none none none) (i := 3) q.r rfl S
  cases hr : seqT r with
  | none =>
    rw [hr] at e1
    exact .inr ⟨(3, "value", "rules"), by decide, r, Ei L k h r b c none none none none, rfl, (ex_if_f c2).trans ((ex_if_f d3).trans (if_raise rfl e1 rfl))⟩
  | some rs =>
  rw [hr] at e1
  obtain ⟨rl10, rel⟩ := seq_el q.r hr
  dsimp only
  have rlp := rules_loop (L := L) (k := k) (h := h) (r := r) (b := b) (c := c) n S kn none none rs 0 none none rel
  have we := walk_enum (P := P) (F := PV.run P LM (n + 2)) (FL := flOf P LM (n + 2)) (env := Ei L k h r b c none none none none) (i := 3) hr rfl S
  have bl := bad_list (ruleT ks) 0 rs
  cases hb : firstBad (ruleT ks) 0 rs with
  | some j =>
    rw [hb] at rlp
    obtain ⟨o6, o7, e⟩ := rlp
    exact .inr ⟨(4, "number", "rule"), by decide, .int j, _, rfl, (ex_if_f c2).trans ((ex_if_f d3).trans ((ex_if_f e1).trans (ex_for_ex we e)))⟩
  | none =>
  rw [hb] at rlp bl
  obtain ⟨o6, o7, e2⟩ := rlp
  obtain ⟨_, hall⟩ := bl
  dsimp only
  have cn := comp_pure (P := P) (F := PV.run P LM (n + 2)) (FL := flOf P LM (n + 2)) (env := Ei L k h r b c o6 o7 none none) (own := [7]) (i := 7) (it := .it (.var 3)) (e := .ix (.var 7) (.int 0)) (cond := none) (ts := rs) (m := false) (s0 := S) (s := S) (fun _ => true) ixT (walk_seq hr rfl S) (by simp) (fun _ _ => rfl)
    (fun t ht _ => by
      obtain ⟨x0, ts, rfl, e, _⟩ := rule_ix (List.all_eq_true.mp hall t ht)
      rw [e]
      exact (ev_ix (x := .v (.tup (x0 :: ts))) (y := .v (.int 0)) (s1 := S) (s2 := S) rfl rfl).trans (item_t (ts := x0 :: ts) (i := 0) rfl))
  rw [mkL_f, List.filter_eq_self.mpr (fun _ _ => rfl), names_eq hall] at cn
  obtain ⟨us, hus⟩ : ∃ us, us = namesT rs := ⟨_, rfl⟩
  rw [← hus] at cn ⊢
  have as8 := fun rest => ex_asg (r := rest) cn (show 8 < (Ei L k h r b c o6 o7 none none).length by simp)
  have nlp := names_loop (L := L) (k := k) (h := h) (r := r) (b := b) (c := c) (n + 2) S us o7 us [] o6 none rfl
  have we2 := walk_enum (P := P) (F := PV.run P LM (n + 2)) (FL := flOf P LM (n + 2)) (env := Ei L k h r b c o6 o7 (some (.v (.lst (tS us)))) none) (i := 8) (t := .lst (tS us)) rfl rfl S
  cases ht : firstTw [] us with
  | some x =>
    rw [ht] at nlp
    obtain ⟨p6, p9, e⟩ := nlp
    exact .inr ⟨(5, "name", "twice"), by decide, .str x, _, rfl, (ex_if_f c2).trans ((ex_if_f d3).trans ((ex_if_f e1).trans ((ex_for we e2).trans ((as8 _).trans (ex_for_ex we2 e)))))⟩
  | none =>
  rw [ht] at nlp
  obtain ⟨p6, p9, e3⟩ := nlp
  dsimp only
  have sb := strt (n := n + 2) (env := Ei L k h r b c p6 o7 (some (.v (.lst (tS us)))) p9) (i := 4) (j := 1) q.b (by decide) kn rfl rfl S
  cases hb : strT b && anyEq b (tS ks) with
  | false =>
    rw [hb] at sb
    exact .inr ⟨(6, "value", "start"), by decide, b, _, rfl, (ex_if_f c2).trans ((ex_if_f d3).trans ((ex_if_f e1).trans ((ex_for we e2).trans ((as8 _).trans ((ex_for we2 e3).trans (if_raise rfl sb rfl))))))⟩
  | true =>
  rw [hb] at sb
  dsimp only
  have ci := ev_not ((ev_call1 (P := P) (F := PV.run P LM (n + 2)) (FL := flOf P LM (n + 2)) (env := Ei L k h r b c p6 o7 (some (.v (.lst (tS us)))) p9) (a := .var 5) (x := .v c) (zz := false) (f := 0) (s := S) (s1 := S) rfl).trans (is_integer (n + 1) S q.c))
  cases hc : intT c with
  | false =>
    rw [hc] at ci
    exact .inr ⟨(7, "value", "count"), by decide, c, _, rfl, (ex_if_f c2).trans ((ex_if_f d3).trans ((ex_if_f e1).trans ((ex_for we e2).trans ((as8 _).trans ((ex_for we2 e3).trans ((ex_if_f sb).trans (if_raise rfl ci rfl)))))))⟩
  | true =>
  rw [hc] at ci
  obtain ⟨_, hsq⟩ : Known h (some (kindsOf h)) ∧ seqT h = some (tS (kindsOf h)) := kinds_known (by rw [Bool.and_eq_true] at hh; exact hh.1)
  have tv := tup_v (n := n + 2) (env := Ei L k h r b c p6 o7 (some (.v (.lst (tS us)))) p9) (s := S) (es := [(false, (.bi false .tuple [(.var 1)])), (false, (.bi false .tuple [(.var 2)])), (false, (.bi false .tuple [(.var 3)]))]) (us := [.tup (tS ks), .tup (tS (kindsOf h)), .tup rs])
    (evst_c (tup_seq ksq rfl S) (evst_c (tup_seq hsq rfl S) (evst_c (tup_seq hr rfl S) rfl))) rfl
  have tv2 : ev P (PV.run P LM (n + 2)) (flOf P LM (n + 2)) (Ei L k h r b c p6 o7 (some (.v (.lst (tS us)))) p9) (.tup [(false, (.var 4)), (false, (.var 5))]) (s ++ [some (.ins 0 [("all_kinds", .v (.tup (tS ks))), ("all_handles", .v (.tup (tS (kindsOf h)))), ("all_rules", .v (.tup rs))])]) = .ok (.v (.tup [b, c])) (s ++ [some (.ins 0 [("all_kinds", .v (.tup (tS ks))), ("all_handles", .v (.tup (tS (kindsOf h)))), ("all_rules", .v (.tup rs))])]) := rfl
  refine .inl ⟨rfl, [("all_kinds", .tup (tS ks)), ("all_handles", .tup (tS (kindsOf h))), ("all_rules", .tup rs), ("begin", b), ("first", c)], Ei L k h r b c p6 o7 (some (.v (.lst (tS us)))) p9, ?_⟩
  refine (ex_if_f c2).trans ((ex_if_f d3).trans ((ex_if_f e1).trans ((ex_for we e2).trans ((as8 _).trans ((ex_for we2 e3).trans ((ex_if_f sb).trans ((ex_if_f ci).trans ?_)))))))
  subst hS hL
  refine (asg_tpl (s2 := s ++ [some (.ins 0 [("all_kinds", .v (.tup (tS ks))), ("all_handles", .v (.tup (tS (kindsOf h)))), ("all_rules", .v (.tup rs))])]) tv ?_).trans ((asg_tpl (s2 := s ++ [some (.ins 0 [("all_kinds", .v (.tup (tS ks))), ("all_handles", .v (.tup (tS (kindsOf h)))), ("all_rules", .v (.tup rs)), ("begin", .v b), ("first", .v c)])]) tv2 ?_).trans rfl)
  · exact stores_c (store_fld rfl (by simp)) (stores_c (store_fld rfl (fset1 (n := 899) (by simp))) (stores_c (store_fld rfl (fset1 (n := 899) (fset1 (n := 898) (by simp)))) rfl))
  · exact stores_c (store_fld rfl (by simp)) (stores_c (store_fld rfl (fset1 (n := 899) (by simp))) rfl)
end K03
end
section
set_option Elab.async false
set_option linter.all false
set_option maxRecDepth 1000000
set_option maxHeartbeats 4000000
/-! E23: the book's answer. -/
namespace K03
open PySem PV
theorem fin_nx {dz z : Bool} {L : Nat} {e : PV.Env} {s : Sto} (hl : L = s.length) : finR dz z L (.ok .nx e s) = .ok (.v .non) s := by
  subst hl
  exact trim_v
theorem fin_ex {dz z : Bool} {L : Nat} {c : Nat} {fs : List (Str × D)} {e : PV.Env} {s : Sto} (hl : L = s.length) : finR dz z L (.ex c fs e s) = .ex c fs s := by
  subst hl
  show trimX s.length c fs s = _
  unfold trimX
  rw [show s.take s.length = s from List.take_length]
  cases (fs.all fun p => p.2.closed s.length) && Sto.closed s.length s <;> rfl
theorem init_run (n : Nat) (s : Sto) {k h r b c : T} (q : Parts k h r b c) :
    (dueT k h r b c = [] ∧ ∃ fs : List (Str × T), PV.run P LM (n + 3) false 4 [.ref s.length, .v k, .v h, .v r, .v b, .v c] (s ++ [some (.ins 0 [])]) = .ok (.v .non) (s ++ [some (.ins 0 (fs.map fun p => (p.1, D.v p.2)))])) ∨
    ∃ x ∈ excL, ∃ t : T, dueT k h r b c = [.str x.2.2, t] ∧ PV.run P LM (n + 3) false 4 [.ref s.length, .v k, .v h, .v r, .v b, .v c] (s ++ [some (.ins 0 [])]) = .ex x.1 [(x.2.1, .v t)] (s ++ [some (.ins 0 [])]) := by
  rcases init_body n s q with ⟨h1, fs, e, h2⟩ | ⟨x, hx, t, e, h1, h2⟩
  · refine .inl ⟨h1, fs, ?_⟩
    rw [run_eq (d := f_Booku_initu) rfl rfl]
    exact (congrArg (finR false false (s ++ [some (PV.Cell.ins 0 [])]).length) h2).trans (fin_nx (by simp))
  · refine .inr ⟨x, hx, t, h1, ?_⟩
    rw [run_eq (d := f_Booku_initu) rfl rfl]
    exact (congrArg (finR false false (s ++ [some (PV.Cell.ins 0 [])]).length) h2).trans (fin_ex rfl)
theorem make_ok (n : Nat) {s : Sto} (p : Pl s) {k h r b c : T} (q : Parts k h r b c) :
    (dueT k h r b c = [] ∧ ∃ t, makeI P (PV.run P LM (n + 3)) 0 [.v k, .v h, .v r, .v b, .v c] s = .ok (.v t) s) ∨
    ∃ x ∈ excL, ∃ t : T, dueT k h r b c = [.str x.2.2, t] ∧ makeI P (PV.run P LM (n + 3)) 0 [.v k, .v h, .v r, .v b, .v c] s = .ex x.1 [(x.2.1, .v t)] (s ++ [some (.ins 0 [])]) := by
  have e0 : makeI P (PV.run P LM (n + 3)) 0 [.v k, .v h, .v r, .v b, .v c] s = ((PV.run P LM (n + 3) false 4 [.ref s.length, .v k, .v h, .v r, .v b, .v c]) (s ++ [some (.ins 0 [])])).bind fun r s' => match r with
    | .v .non => trimZ s.length (.ref s.length) s'
    | _ => .bad := rfl
  rcases init_run n s q with ⟨h1, fs, h2⟩ | ⟨x, hx, t, h1, h2⟩
  · refine .inl ⟨h1, .obj 0 fs, ?_⟩
    rw [e0, h2]
    show trimZ s.length (.ref s.length) (s ++ [some (.ins 0 (fs.map fun p => (p.1, D.v p.2)))]) = _
    unfold trimZ
    have e1 : (s ++ [some (PV.Cell.ins 0 (fs.map fun p => (p.1, D.v p.2)))]).take s.length = s := by simp
    have e2 : freshAbove (s ++ [some (PV.Cell.ins 0 (fs.map fun p => (p.1, D.v p.2)))]) s.length DEEP (.ref s.length) = true := by
      unfold freshAbove
      rw [clE, decide_eq_true (Nat.le_refl _)]
      show (fs.map fun p => (p.1, D.v p.2)).all _ = true
      rw [List.all_map, List.all_eq_true]
      intro p _
      rfl
    have e3 : rd (s ++ [some (PV.Cell.ins 0 (fs.map fun p => (p.1, D.v p.2)))]) DEEP (.ref s.length) = some (.obj 0 fs) := by
      unfold rd
      rw [clE]
      have gen : ∀ (st : Sto) (gs : List (Str × T)), (gs.map fun p : Str × T => (p.1, D.v p.2)).mapM (fun p : Str × D => (rd st 5 p.2).map fun t => (p.1, t)) = some gs := by
        intro st gs
        induction gs with
        | nil => rfl
        | cons g r ih => rw [List.map_cons, List.mapM_cons, ih]; rfl
      exact congrArg (Option.map (T.obj 0)) (gen _ fs)
    rw [e1, e2, e3, p.closed]; rfl
  · exact .inr ⟨x, hx, t, h1, by rw [e0, h2]; rfl⟩
theorem item_rx {s : Sto} {i j : Nat} {fs : List T} {t : T} (hc : cellAt s i = some (.lst (fs.map .v))) (ht : fs[j]? = some t) : item (.ref i) (.v (.int j)) s = .ok (.v t) s := by
  have hl := (List.getElem?_eq_some_iff.mp ht).1
  have e0 : asDct s (.ref i) = none := by unfold asDct; dsimp only; rw [hc]
  have e1 : asSeq s (.ref i) = some (fs.map .v) := by
    show asList s (.ref i) = _
    unfold asList; dsimp only; rw [hc]
  unfold item
  rw [e0]
  dsimp only
  rw [e1]
  show M.opt ((place (fs.map D.v).length (j : Int)).bind fun j => (fs.map D.v)[j]?) s = _
  unfold place
  rw [List.length_map, if_pos (by omega), if_pos (by omega)]
  show M.opt ((fs.map D.v)[((j : Nat) : Int).toNat]?) s = _
  rw [Int.toNat_natCast, List.getElem?_map, ht]; rfl
theorem ev_make5 {F : Bool → Nat → List D → M D} {FL : Nat → PV.Env → M D} {env : PV.Env} {c1 c2 c3 c4 c5 : C} {c : Nat} {s : Sto} {d1 d2 d3 d4 d5 : D} (h1 : ev P F FL env c1 s = .ok d1 s) (h2 : ev P F FL env c2 s = .ok d2 s) (h3 : ev P F FL env c3 s = .ok d3 s) (h4 : ev P F FL env c4 s = .ok d4 s) (h5 : ev P F FL env c5 s = .ok d5 s) : ev P F FL env (.make c [c1, c2, c3, c4, c5] [] []) s = makeI P F c [d1, d2, d3, d4, d5] s := by
  simp only [ev, evs, M.bind, h1, h2, h3, h4, h5, bind_ok_, mret_ap]
  rfl
abbrev hsR : List (Nat × Option Nat × List S) := [(1, some 2, [.asg (.pt (.nm 1)) (.lst false [(false, (.str "kinds")), (false, (.attr (.var 2) "value"))])]), (2, some 2, [.asg (.pt (.nm 1)) (.lst false [(false, (.str "handles")), (false, (.attr (.var 2) "value"))])]), (3, some 2, [.asg (.pt (.nm 1)) (.lst false [(false, (.str "rules")), (false, (.attr (.var 2) "value"))])]), (4, some 2, [.asg (.pt (.nm 1)) (.lst false [(false, (.str "rule")), (false, (.attr (.var 2) "number"))])]), (5, some 2, [.asg (.pt (.nm 1)) (.lst false [(false, (.str "twice")), (false, (.attr (.var 2) "name"))])]), (6, some 2, [.asg (.pt (.nm 1)) (.lst false [(false, (.str "start")), (false, (.attr (.var 2) "value"))])]), (7, some 2, [.asg (.pt (.nm 1)) (.lst false [(false, (.str "count")), (false, (.attr (.var 2) "value"))])])]
theorem exh (n : Nat) {s : Sto} {o0 o1 : Option D} {t : T} {x : Nat × Str × Str} (hx : x ∈ excL) : exH P (PV.run P LM n) (flOf P LM n) x.1 [(x.2.1, .v t)] [o0, o1, none] hsR s = .ok .nx [o0, some (.v (.lst [.str x.2.2, t])), none] s := by
  simp only [excL, List.mem_cons, List.not_mem_nil, or_false] at hx
  rcases hx with rfl | rfl | rfl | rfl | rfl | rfl | rfl <;> rfl
theorem law_refused (n : Nat) {s : Sto} (p : Pl s) {i : Nat} {k h r b c : T} (hc : cellAt s i = some (.lst ([k, h, r, b, c].map .v))) (q : Parts k h r b c) : PV.run P LM (n + 4) false 14 [.ref i] s = .ok (.v (.lst (dueT k h r b c))) s := by
  rw [run_eq (d := f_law_refused) rfl rfl]
  have ix : ∀ (j : Nat) (t : T), [k, h, r, b, c][j]? = some t → ev P (PV.run P LM (n + 3)) (flOf P LM (n + 3)) [some (.ref i), some (.v (.lst [])), none] (.ix (.var 0) (.int j)) s = .ok (.v t) s := fun j t e => (ev_ix (x := .ref i) (y := .v (.int j)) (s1 := s) (s2 := s) rfl rfl).trans (item_rx hc e)
  have mk : ev P (PV.run P LM (n + 3)) (flOf P LM (n + 3)) [some (.ref i), some (.v (.lst [])), none] (.make 0 [(.ix (.var 0) (.int 0)), (.ix (.var 0) (.int 1)), (.ix (.var 0) (.int 2)), (.ix (.var 0) (.int 3)), (.ix (.var 0) (.int 4))] [] []) s = makeI P (PV.run P LM (n + 3)) 0 [.v k, .v h, .v r, .v b, .v c] s := ev_make5 (F := PV.run P LM (n + 3)) (FL := flOf P LM (n + 3)) (c := 0) (ix 0 k rfl) (ix 1 h rfl) (ix 2 r rfl) (ix 3 b rfl) (ix 4 c rfl)
  have st1 : ∀ rest, exSs P (PV.run P LM (n + 3)) (flOf P LM (n + 3)) [some (.ref i), none, none] (.asg (.pt (.nm 1)) (.lst false []) :: rest) s = exSs P (PV.run P LM (n + 3)) (flOf P LM (n + 3)) [some (.ref i), some (.v (.lst [])), none] rest s := fun rest => ex_asg (x := .v (.lst [])) rfl (by simp)
  rcases make_ok n p q with ⟨h1, t, h2⟩ | ⟨x, hx, t, h1, h2⟩
  · rw [h1]
    have tr : exS P (PV.run P LM (n + 3)) (flOf P LM (n + 3)) [some (.ref i), some (.v (.lst [])), none] (.try_ [.ex (.make 0 [(.ix (.var 0) (.int 0)), (.ix (.var 0) (.int 1)), (.ix (.var 0) (.int 2)), (.ix (.var 0) (.int 3)), (.ix (.var 0) (.int 4))] [] [])] hsR) s = .ok .nx [some (.ref i), some (.v (.lst [])), none] s := by
      show (match exSs P (PV.run P LM (n + 3)) (flOf P LM (n + 3)) [some (.ref i), some (.v (.lst [])), none] [.ex (.make 0 [(.ix (.var 0) (.int 0)), (.ix (.var 0) (.int 1)), (.ix (.var 0) (.int 2)), (.ix (.var 0) (.int 3)), (.ix (.var 0) (.int 4))] [] [])] s with
        | .ex c fs e s => exH P (PV.run P LM (n + 3)) (flOf P LM (n + 3)) c fs e hsR s
        | r => r) = _
      rw [ex_ex (mk.trans h2)]
      rfl
    exact (congrArg (finR false false s.length) ((st1 _).trans ((seq_nx tr).trans (ex_ret (x := .v (.lst [])) rfl)))).trans (fin_v rfl rfl)
  · rw [h1]
    have tr : exS P (PV.run P LM (n + 3)) (flOf P LM (n + 3)) [some (.ref i), some (.v (.lst [])), none] (.try_ [.ex (.make 0 [(.ix (.var 0) (.int 0)), (.ix (.var 0) (.int 1)), (.ix (.var 0) (.int 2)), (.ix (.var 0) (.int 3)), (.ix (.var 0) (.int 4))] [] [])] hsR) s = .ok .nx [some (.ref i), some (.v (.lst [.str x.2.2, t])), none] (s ++ [some (.ins 0 [])]) := by
      have e1 : exSs P (PV.run P LM (n + 3)) (flOf P LM (n + 3)) [some (.ref i), some (.v (.lst [])), none] [.ex (.make 0 [(.ix (.var 0) (.int 0)), (.ix (.var 0) (.int 1)), (.ix (.var 0) (.int 2)), (.ix (.var 0) (.int 3)), (.ix (.var 0) (.int 4))] [] [])] s = .ex x.1 [(x.2.1, .v t)] [some (.ref i), some (.v (.lst [])), none] (s ++ [some (.ins 0 [])]) := by
        refine seq_ex ?_
        show withE _ (ev P (PV.run P LM (n + 3)) (flOf P LM (n + 3)) _ _ s) _ = _
        rw [mk, h2]; rfl
      show (match exSs P (PV.run P LM (n + 3)) (flOf P LM (n + 3)) [some (.ref i), some (.v (.lst [])), none] [.ex (.make 0 [(.ix (.var 0) (.int 0)), (.ix (.var 0) (.int 1)), (.ix (.var 0) (.int 2)), (.ix (.var 0) (.int 3)), (.ix (.var 0) (.int 4))] [] [])] s with
        | .ex c fs e s => exH P (PV.run P LM (n + 3)) (flOf P LM (n + 3)) c fs e hsR s
        | r => r) = _
      rw [e1]
      exact exh (n + 3) hx
    exact (congrArg (finR false false s.length) ((st1 _).trans ((seq_nx tr).trans (ex_ret (x := .v (.lst [.str x.2.2, t])) rfl)))).trans (fin_cut rfl p)
end K03
end
section
set_option Elab.async false
set_option linter.all false
set_option maxRecDepth 1000000
set_option maxHeartbeats 4000000
/-! E24: what is displayed. -/
namespace K03
open PySem PV
abbrev okT (x : Str) : Prop := PyData.strOk x = true
theorem okT_app {a b : Str} (h : okT a) (h2 : okT b) : okT (a ++ b) := by
  show ((a.cps ++ b.cps).all (· < 0x110000)) = true
  rw [Array.all_append]
  have h : a.cps.all (· < 0x110000) = true := h
  have h2 : b.cps.all (· < 0x110000) = true := h2
  rw [h, h2]; rfl
theorem okT_of (s : String) : okT (Str.ofString s) := by
  show ((Str.ofString s).cps.all (· < 0x110000)) = true
  rw [Str.ofString_eq_toList]
  show ((s.toList.map Char.toNat).toArray.all (· < 0x110000)) = true
  rw [List.all_toArray, List.all_map, List.all_eq_true]
  intro c _
  have hc : c.toNat < 1114112 := by
    have h := c.valid
    simp only [UInt32.isValidChar, Nat.isValidChar] at h
    show c.val.toNat < 1114112
    omega
  exact decide_eq_true hc
theorem okT_from : ∀ (ts : List Str) (k : Nat) (acc : Str), okT acc → (∀ t ∈ ts, okT t) → okT (textFrom k acc ts)
  | [], _, _, h, _ => h
  | t :: r, k, acc, h, h2 => okT_from r (k + 1) _ (okT_app (okT_app h (okT_of _)) (h2 t (List.mem_cons_self ..))) fun u hu => h2 u (List.mem_cons_of_mem _ hu)
theorem okT_join {sep : Str} (hs : okT sep) : ∀ ts : List Str, (∀ t ∈ ts, okT t) → okT (Str.join sep ts)
  | [], _ => by show ((#[] : Array Nat).all (· < 0x110000)) = true; simp
  | [x], h => h x (List.mem_cons_self ..)
  | x :: y :: r, h => okT_app (okT_app (h x (List.mem_cons_self ..)) hs) (okT_join hs (y :: r) fun u hu => h u (List.mem_cons_of_mem _ hu))
/-- what is displayed is small -/
def Sh (k B : Nat) (t : T) : Prop := ∃ p, t.py = some p ∧ p.showable = true ∧ okT p.shown ∧ p.shown.length ≤ B ∧ p.depth ≤ k
def Shs (k B : Nat) (ts : List T) : Prop := ∃ ps, T.pys ts = some ps ∧ PyData.showableAll ps = true ∧ (∀ x ∈ PyData.shownAll ps, okT x) ∧ ((PyData.shownAll ps).map (·.length)).sum ≤ B * ts.length ∧ (PyData.shownAll ps).length = ts.length ∧ PyData.depthAll ps ≤ k
theorem Shs.of {k B : Nat} : ∀ {ts : List T}, (∀ t ∈ ts, Sh k B t) → Shs k B ts
  | [], _ => ⟨[], rfl, rfl, fun _ h => (nomatch h), Nat.le_refl _, rfl, Nat.zero_le _⟩
  | t :: r, h => by
    obtain ⟨p, h1, h2, h3, h4, h5⟩ := h t (List.mem_cons_self ..)
    obtain ⟨ps, g1, g2, g3, g4, g5, g6⟩ := Shs.of fun u hu => h u (List.mem_cons_of_mem _ hu)
    refine ⟨p :: ps, ?_, ?_, fun x hx => ?_, ?_, ?_, ?_⟩
    · show (match t.py, T.pys r with | some a, some b => some (a :: b) | _, _ => none) = _
      rw [h1, g1]
    · show (p.showable && PyData.showableAll ps) = true
      rw [h2, g2]; rfl
    · rcases List.mem_cons.mp (show x ∈ p.shown :: PyData.shownAll ps from hx) with rfl | hx
      · exact h3
      · exact g3 x hx
    · show (p.shown.length + ((PyData.shownAll ps).map (·.length)).sum) ≤ B * (r.length + 1)
      rw [Nat.mul_add]; omega
    · show (PyData.shownAll ps).length + 1 = r.length + 1
      omega
    · show max p.depth (PyData.depthAll ps) ≤ k
      omega
theorem Sh.lst {k B C : Nat} {ts : List T} (h : Shs k B ts) (hl : ts.length ≤ 10) (hC : 10 * (B + 2) + 3 ≤ C) : Sh (k + 1) C (.lst ts) := by
  obtain ⟨ps, g1, g2, g3, g4, g5, g6⟩ := h
  refine ⟨.list ps, ?_, g2, okT_app (okT_from _ 0 _ (okT_of "[") g3) (okT_of "]"), ?_, ?_⟩
  · show (T.pys ts).map PyData.list = _
    rw [g1]; rfl
  · have := listText_len_le (PyData.shownAll ps)
    have e : B * ts.length ≤ B * 10 := Nat.mul_le_mul_left _ hl
    show (listText (PyData.shownAll ps)).length ≤ C
    omega
  · show PyData.depthAll ps + 1 ≤ k + 1
    omega
theorem Sh.tup {k B C : Nat} {ts : List T} (h : Shs k B ts) (hl : ts.length ≤ 10) (hC : 10 * (B + 2) + 3 ≤ C) : Sh (k + 1) C (.tup ts) := by
  obtain ⟨ps, g1, g2, g3, g4, g5, g6⟩ := h
  refine ⟨.tuple ps, ?_, g2, ?_, ?_, ?_⟩
  · show (T.pys ts).map PyData.tuple = _
    rw [g1]; rfl
  · show okT (tupleText (PyData.shownAll ps))
    unfold tupleText
    refine okT_app (okT_app (okT_of "(") (okT_join (okT_of ", ") _ g3)) ?_
    split <;> exact okT_of _
  · have := tupleText_len_le (PyData.shownAll ps)
    have e : B * ts.length ≤ B * 10 := Nat.mul_le_mul_left _ hl
    show (tupleText (PyData.shownAll ps)).length ≤ C
    omega
  · show PyData.depthAll ps + 1 ≤ k + 1
    omega
theorem Sh.mono {k B k' B' : Nat} {t : T} (h : Sh k B t) (hk : k ≤ k') (hB : B ≤ B') : Sh k' B' t := by
  obtain ⟨p, h1, h2, h3, h4, h5⟩ := h
  exact ⟨p, h1, h2, h3, by omega, by omega⟩
theorem int_small {i : Int} (h : i.natAbs < 10 ^ 40) : Sh 0 64 (.int i) := by
  refine ⟨.int i, rfl, ?_, okT_of _, ?_, Nat.le_refl _⟩
  · show decide (i.natAbs.log2 < 1920) = true
    refine decide_eq_true ?_
    by_cases e : i.natAbs = 0
    · rw [e]; decide
    · have : i.natAbs.log2 < 133 := (Nat.log2_lt e).mpr (Nat.lt_trans h (by decide))
      omega
  · show (Str.ofString (toString i)).length ≤ 64
    rw [ofString_length]
    have := int_text_length_le10 (k := 40) (by decide) h
    omega
theorem leaf_nat {i : Int} (h : leafI i = true) : i.natAbs < 10 ^ 40 := by
  unfold leafI at h
  rw [Bool.or_eq_true, decide_eq_true_iff, decide_eq_true_iff] at h
  have e : (1000 : Nat) < 10 ^ 40 := by decide
  rcases h with ⟨h1, h2⟩ | h
  · have : i.natAbs ≤ 1000 := by omega
    exact Nat.lt_of_le_of_lt this e
  · subst h; decide
theorem str_small {x : Str} (h : x ∈ allW) : Sh 0 64 (.str x) := by
  have key : (allW.all fun x => PyData.strOk (reprText x) && decide ((reprText x).length ≤ 64)) = true := by kernel_rfl
  have := List.all_eq_true.mp key x h
  rw [Bool.and_eq_true, decide_eq_true_iff] at this
  exact ⟨.str x, rfl, rfl, this.1, this.2, Nat.le_refl _⟩
theorem non_small : Sh 0 64 .non := ⟨.none, rfl, rfl, okT_of _, by show (Str.ofString "None").length ≤ 64; rw [ofString_length]; decide, Nat.le_refl _⟩
theorem bl_small (b : Bool) : Sh 0 64 (.bl b) := by
  cases b
  · exact ⟨.bool false, rfl, rfl, okT_of _, by show (Str.ofString "False").length ≤ 64; rw [ofString_length]; decide, Nat.le_refl _⟩
  · exact ⟨.bool true, rfl, rfl, okT_of _, by show (Str.ofString "True").length ≤ 64; rw [ofString_length]; decide, Nat.le_refl _⟩
def shB : Nat → Nat
  | 0 => 64
  | k + 1 => 10 * (shB k + 2) + 3
theorem shB_le : ∀ k, 64 ≤ shB k
  | 0 => Nat.le_refl _
  | k + 1 => by have := shB_le k; show 64 ≤ 10 * (shB k + 2) + 3; omega
theorem el_small : ∀ (k : Nat) (t : T), el k t = true → Sh k (shB k) t
  | k, .non, _ => non_small.mono (Nat.zero_le _) (shB_le k)
  | k, .bl b, _ => (bl_small b).mono (Nat.zero_le _) (shB_le k)
  | k, .int i, h => (int_small (leaf_nat (by cases k <;> exact h))).mono (Nat.zero_le _) (shB_le k)
  | k, .str x, h => (str_small (by cases k <;> exact of_decide_eq_true h)).mono (Nat.zero_le _) (shB_le k)
  | 0, .tup _, h => by cases h
  | 0, .lst _, h => by cases h
  | k + 1, .tup ts, h => Sh.tup (Shs.of fun t ht => el_small k t ((el_tup.mp h).2 t ht)) (el_tup.mp h).1 (Nat.le_refl _)
  | k + 1, .lst ts, h => Sh.lst (Shs.of fun t ht => el_small k t ((el_lst.mp h).2 t ht)) (el_lst.mp h).1 (Nat.le_refl _)
  | k, .dct _ _, h => by cases k <;> cases h
  | k, .obj _ _, h => by cases k <;> cases h
  | k, .scr _, h => by cases k <;> cases h
/-- small data, or one of two dicts -/
def smD (k : Nat) (t : T) : Prop := el k t = true ∨ t = .dct false [] ∨ ∃ x ∈ allW, t = .dct false [(.str x, .int 0)]
theorem smD.isP {k : Nat} {t : T} (h : smD k t) : isP k t := by
  rcases h with h | rfl | ⟨x, _, rfl⟩
  · exact .inl h
  · exact .inr ⟨_, rfl⟩
  · exact .inr ⟨_, rfl⟩
theorem smD.sh {k : Nat} {t : T} (h : smD k t) : Sh (k + 1) (shB k) t := by
  have h2 := shB_le k
  rcases h with h | rfl | ⟨x, hx, rfl⟩
  · exact (el_small k t h).mono (Nat.le_succ _) (Nat.le_refl _)
  · exact Sh.mono (k := 1) (B := 64) ⟨.dict [], rfl, rfl, okT_app (okT_app (okT_of "{") (okT_join (okT_of ", ") _ fun _ h => (nomatch h))) (okT_of "}"), by decide +kernel, Nat.le_refl _⟩ (by omega) h2
  · have key : (allW.all fun x => PyData.strOk (PyData.shown (.dict [(.str x, .int 0)])) && decide ((PyData.shown (.dict [(.str x, .int 0)])).length ≤ 64)) = true := by kernel_rfl
    have := List.all_eq_true.mp key x hx
    rw [Bool.and_eq_true, decide_eq_true_iff] at this
    exact Sh.mono (k := 1) (B := 64) ⟨.dict [(.str x, .int 0)], rfl, rfl, this.1, this.2, Nat.le_refl _⟩ (by omega) h2
def reprS (t : T) : Str := match t.py with
  | some p => p.shown
  | none => ⟨#[]⟩
theorem repr_ok {k B : Nat} {t : T} {d : D} {s : Sto} {m : Bool} (h : Sh k B t) (hk : k ≤ 50) (hB : B ≤ 16777216) (hr : rd s DEEP d = some t) : builtin m .repr [d] s = .ok (.v (.str (reprS t))) s := by
  obtain ⟨p, h1, h2, h3, h4, h5⟩ := h
  show biRepr d s = _
  unfold biRepr
  rw [hr]
  show (match t.py with
    | some p => (guardM (p.showable && okS p.shown && decide (p.depth ≤ 50)) s).bind fun _ => M.ret (D.v (.str p.shown))
    | none => .bad) = _
  unfold reprS
  rw [h1]
  dsimp only
  have ok : okS p.shown = true := by
    unfold okS
    rw [h3, decide_eq_true (show p.shown.cps.size ≤ 16777216 from Nat.le_trans h4 hB)]; rfl
  rw [h2, ok, decide_eq_true (by omega)]
  rfl
theorem letter_known {ks : List Str} {t : T} (h : ruleT ks t = true) (he : el 3 t = true) : ∃ x ∈ allW, ixT t = .str x := by
  obtain ⟨x0, ts, rfl, e, w⟩ := rule_ix h
  have h0 := (el_tup.mp he).2 x0 (List.mem_cons_self ..)
  rw [e]
  cases x0 with
  | str x => exact ⟨x, of_decide_eq_true h0, rfl⟩
  | non => cases w
  | bl b => cases w
  | int b => cases w
  | tup b => cases w
  | lst b => cases w
  | dct b c => cases w
  | obj b c => cases w
  | scr b => cases w
structure Parts2 (k h r b c : T) : Prop where
  k : smD 2 k
  h : smD 2 h
  r : smD 4 r
  b : el 1 b = true
  c : el 1 c = true
theorem Parts2.p {k h r b c : T} (q : Parts2 k h r b c) : Parts k h r b c := ⟨q.k.isP, q.h.isP, q.r.isP, q.b, q.c⟩
theorem shB_mono {i j : Nat} (hij : i ≤ j) : shB i ≤ shB j := by
  induction hij with
  | refl => exact Nat.le_refl _
  | step _ ih => exact Nat.le_trans ih (by show shB _ ≤ 10 * (shB _ + 2) + 3; omega)
theorem sh4 {k : Nat} {t : T} (h : smD k t) (hk : k ≤ 4) : Sh 5 (shB 4) t := h.sh.mono (by omega) (shB_mono hk)
theorem firstBad_some {p : T → Bool} {rs : List T} {i j : Nat} (h : firstBad p i rs = some j) : j < i + rs.length := by
  have := bad_list p i rs
  rw [h] at this
  obtain ⟨_, _, _, h3⟩ := this
  exact h3
theorem due_sh {k h r b c : T} (q : Parts2 k h r b c) : Sh 6 (shB 5) (.lst (dueT k h r b c)) := by
  have word : ∀ (w : Str) (t : T), (w ∈ [("kinds" : Str), "handles", "rules", "rule", "twice", "start", "count"]) → Sh 5 (shB 4) t → Sh 6 (shB 5) (.lst [.str w, t]) := fun w t hw ht => by
    refine Sh.lst (k := 5) (B := shB 4) (Shs.of fun u hu => ?_) (by simp) (by decide)
    simp only [List.mem_cons, List.not_mem_nil, or_false] at hu
    rcases hu with rfl | rfl
    · have key : ([("kinds" : Str), "handles", "rules", "rule", "twice", "start", "count"].all fun x => PyData.strOk (reprText x) && decide ((reprText x).length ≤ 64)) = true := by kernel_rfl
      have := List.all_eq_true.mp key w hw
      rw [Bool.and_eq_true, decide_eq_true_iff] at this
      exact Sh.mono (k := 0) (B := 64) ⟨.str w, rfl, rfl, this.1, this.2, Nat.le_refl _⟩ (by decide) (by decide)
    · exact ht
  unfold dueT
  split
  · exact word _ _ (by decide) (sh4 q.k (by decide))
  split
  · exact word _ _ (by decide) (sh4 q.h (by decide))
  split
  · exact word _ _ (by decide) (sh4 q.r (by decide))
  next rs hr =>
  obtain ⟨rl10, rel⟩ := seq_el q.r.isP hr
  split
  next i hi =>
    refine word _ _ (by decide) ((int_small ?_).mono (by decide) (by decide))
    have hj := firstBad_some hi
    have e : (20 : Nat) < 10 ^ 40 := by decide
    have : (i : Int).natAbs = i := Int.natAbs_natCast i
    omega
  next hi =>
  have bl := bad_list (ruleT (kindsOf k)) 0 rs
  rw [hi] at bl
  obtain ⟨_, hall⟩ := bl
  split
  next x hx =>
    refine word _ _ (by decide) ((str_small ?_).mono (by decide) (by decide))
    have tw := tw_list (namesT rs) [] _ rfl
    rw [hx] at tw
    have hm : T.str x ∈ tS (namesT rs) := mem_tS.mpr ⟨x, tw.2, rfl⟩
    rw [← names_eq hall] at hm
    obtain ⟨u, hu, e⟩ := List.mem_map.mp hm
    obtain ⟨y, hy, e2⟩ := letter_known (List.all_eq_true.mp hall u hu) (rel u hu)
    rw [e2] at e
    cases e
    exact hy
  split
  · exact word _ _ (by decide) ((el_small 1 _ q.b).mono (by decide) (by decide))
  split
  · exact word _ _ (by decide) ((el_small 1 _ q.c).mono (by decide) (by decide))
  · exact Sh.lst (k := 5) (B := shB 4) (Shs.of fun _ h => (nomatch h)) (by simp) (by decide)
theorem parts_sh {k h r b c : T} (q : Parts2 k h r b c) : Sh 6 (shB 5) (.lst [k, h, r, b, c]) := by
  refine Sh.lst (k := 5) (B := shB 4) (Shs.of fun u hu => ?_) (by simp) (by decide)
  simp only [List.mem_cons, List.not_mem_nil, or_false] at hu
  rcases hu with rfl | rfl | rfl | rfl | rfl
  · exact sh4 q.k (by decide)
  · exact sh4 q.h (by decide)
  · exact sh4 q.r (by decide)
  · exact (el_small 1 _ q.b).mono (by decide) (by decide)
  · exact (el_small 1 _ q.c).mono (by decide) (by decide)
theorem shB5 : shB 5 ≤ 16777216 := by decide
end K03
end
section
set_option Elab.async false
set_option linter.all false
set_option maxRecDepth 1000000
set_option maxHeartbeats 4000000
/-! E25: a turn of the law. -/
namespace K03
open PySem PV
abbrev bt0 : S := .asg (.pt (.nm 4)) (.call false 12 [(.var 2), (.int 4)] [] [])
abbrev bt1 : S := .asg (.pt (.nm 5)) (.ix (.ix (.var 4) (.int 0)) (.int 0))
abbrev bt2 : S := .asg (.six (.var 4) (.int 0)) (.call false 7 [(.var 2), (.lst false [(false, (.ix (.var 4) (.int 0))), (false, (.ix (.var 4) (.int 0))), (false, (.ix (.var 4) (.int 0))), (false, (.ix (.var 4) (.int 0))), (false, (.lst false [])), (false, (.tup [])), (false, (.bin false .add (.ix (.var 4) (.int 0)) (.lst false [(false, (.var 5))]))), (false, (.bin false .add (.ix (.var 4) (.int 0)) (.lst false [(false, (.str "A"))]))), (false, (.bin false .add (.ix (.var 4) (.int 0)) (.lst false [(false, (.str "abcdefghi"))]))), (false, (.bin false .add (.lst false [(false, .non)]) (.ix (.var 4) (.int 0)))), (false, (.var 5)), (false, .non), (false, (.bin false .add (.ix (.var 4) (.int 0)) (.lst false [(false, (.lst false [(false, (.str "h"))]))]))), (false, (.dct false false [((.var 5), (.int 0))]))])] [] [])
abbrev bt3 : S := .asg (.six (.var 4) (.int 1)) (.call false 7 [(.var 2), (.lst false [(false, (.ix (.var 4) (.int 1))), (false, (.ix (.var 4) (.int 1))), (false, (.ix (.var 4) (.int 1))), (false, (.bi false .tuple [(.ix (.var 4) (.int 1))])), (false, (.lst false [(false, (.var 5)), (false, (.var 5))])), (false, (.lst false [(false, (.str "q"))])), (false, (.lst false [(false, (.var 5)), (false, (.str "q"))])), (false, (.tup [(false, (.var 5)), (false, (.var 5))])), (false, (.tup [(false, (.var 5)), (false, (.str "q"))])), (false, (.lst false [(false, (.var 5)), (false, .non)])), (false, (.lst false [(false, (.str "abcdefghi"))])), (false, (.lst false [(false, .non)])), (false, (.lst false [(false, (.lst false [(false, (.str "h"))]))])), (false, (.var 5)), (false, .non), (false, (.dct false false []))])] [] [])
abbrev bt4 : S := .asg (.six (.var 4) (.int 2)) (.call false 7 [(.var 2), (.lst false [(false, (.ix (.var 4) (.int 2))), (false, (.bi false .tuple [(.ix (.var 4) (.int 2))])), (false, (.call false 19 [(.var 2), (.ix (.var 4) (.int 2)), (.var 5)] [] [])), (false, (.call false 19 [(.var 2), (.call false 19 [(.var 2), (.ix (.var 4) (.int 2)), (.var 5)] [] []), (.var 5)] [] [])), (false, .non), (false, (.dct false false [])), (false, (.str "a"))])] [] [])
abbrev bt5 : S := .asg (.six (.var 4) (.int 3)) (.call false 7 [(.var 2), (.lst false [(false, (.ix (.var 4) (.int 3))), (false, (.ix (.var 4) (.int 3))), (false, (.ix (.var 4) (.int 3))), (false, (.str "q")), (false, (.str "")), (false, .non), (false, (.lst false [(false, (.var 5))])), (false, (.int 0))])] [] [])
abbrev bt6 : S := .asg (.six (.var 4) (.int 4)) (.call false 7 [(.var 2), (.lst false [(false, (.ix (.var 4) (.int 4))), (false, (.ix (.var 4) (.int 4))), (false, (.ix (.var 4) (.int 4))), (false, (.bin false .sub (.int 0) (.int 7))), (false, (.bin false .pow (.int 10) (.int 39))), (false, (.bl true)), (false, (.bl false)), (false, .non), (false, (.str "1")), (false, (.tup [(false, (.int 1))]))])] [] [])
abbrev bt7 : S := .asg (.pt (.tp [(.nm 6), (.nm 7)])) (.tup [(false, (.bi false .repr [(.var 4)])), (false, (.call false 18 [(.var 4)] [] []))])
abbrev bt8 : S := .ife (.or (.cmp .ne (.bi false .repr [(.call false 14 [(.var 4)] [] [])]) (.bi false .repr [(.var 7)])) (.cmp .ne (.bi false .repr [(.var 4)]) (.var 6))) [.ret (.bl false)] []
abbrev bTurn : List S := [bt0, bt1, bt2, bt3, bt4, bt5, bt6, bt7, bt8]

def AllZ (Z : T → Prop) (k : Nat) (ds : List D) : Prop := ∃ ts : List T, ds = ts.map .v ∧ ts.length = k ∧ ∀ t ∈ ts, Z t
section
variable {n : Nat} {a r : Sto} {env : PV.Env} {c c1 c2 : C} {es : List (Bool × C)} {Z : T → Prop} {k : Nat} {fs : List T}
theorem ETs.z0 : ETs n a r env [] (AllZ Z 0) := fun s t => ⟨[], s, rfl, t, [], rfl, rfl, fun _ h => (nomatch h)⟩
theorem ETs.z (h : ET n a r env c (isV Z)) (h2 : ETs n a r env es (AllZ Z k)) : ETs n a r env ((false, c) :: es) (AllZ Z (k + 1)) := .cons h fun d ⟨t, e, z⟩ s ts => by
  subst e
  obtain ⟨ds, s', e2, t2, us, rfl, hl, hz⟩ := h2 s ts
  exact ⟨_, s', e2, t2, t :: us, rfl, by simp [hl], fun u hu => by
    rcases List.mem_cons.mp hu with rfl | hu
    · exact z
    · exact hz u hu⟩
theorem ET.oneZ (h2 : env[2]? = some (some (.ref a.length))) (h : ETs (n + 2) a r env es (AllZ Z k)) (hs : (es.any fun p => p.1) = false) (k0 : 0 < k) (k1 : k < 1000) : ET (n + 2) a r env (.call false 7 [(.var 2), (.lst false es)] [] []) (isV Z) :=
  .one (.var h2 rfl) (.lst (fun s t => by
    obtain ⟨ds, s', e, t', us, rfl, hl, hz⟩ := h s t
    exact ⟨_, s', e, t', us, rfl, us, rfl, fun z => by subst z; simp at hl; omega, by omega, hz⟩) hs)
theorem ET.ixp {j : Nat} {t : T} (h4 : env[4]? = some (some (.ref (LX a r)))) (e : fs[j]? = some t) (y : Z t) : ET n a (RL r fs) env (.ix (.var 4) (.int j)) (isV Z) := fun s ts => ⟨.v t, s, (ev_ix (x := .ref (LX a r)) (y := .v (.int j)) (s1 := s) (s2 := s) (ev_v h4) rfl).trans (item_rx ts.cell e), ts, t, rfl, y⟩
theorem ET.lit {t : T} (h : ∀ s, ev P (PV.run P LM n) (flOf P LM n) env c s = .ok (.v t) s) (y : Z t) : ET n a r env c (isV Z) := .of h ⟨t, rfl, y⟩
theorem ET.addL {xs ys : List T} (h1 : ET n a r env c1 (isV (· = .lst xs))) (h2 : ET n a r env c2 (isV (· = .lst ys))) (hl : xs.length + ys.length ≤ 1000) (y : Z (.lst (xs ++ ys))) : ET n a r env (.bin false .add c1 c2) (isV Z) :=
  .bin h1 h2 fun x y' s ⟨t1, e1, q1⟩ ⟨t2, e2, q2⟩ _ => by
    subst e1 e2 q1 q2
    exact ⟨_, b_addl s (by omega), _, rfl, y⟩
theorem ET.tupl {xs : List T} (h1 : ET n a r env c1 (isV (· = .lst xs))) (y : Z (.tup xs)) : ET n a r env (.bi false .tuple [c1]) (isV Z) :=
  .bi h1 fun x s ⟨t1, e1, q1⟩ _ => by
    subst e1 q1
    exact ⟨_, tuple_l xs s, _, rfl, y⟩
theorem ET.bnt {L : Nat} {kd : Str} {W : T → Prop} (h2 : env[2]? = some (some (.ref a.length))) (h5 : env[5]? = some (some (.v (.str kd)))) (hk : kd ∈ allW) (hL : L ≤ 20) (h : ET (n + 3) a r env c (isV fun t => ∃ rs, t = .lst rs ∧ (∀ t ∈ rs, el 3 t = true) ∧ rs.length ≤ L)) (hw : ∀ us : List T, (∀ t ∈ us, el 3 t = true) → us.length ≤ L + 1 → W (.lst us)) : ET (n + 3) a r env (.call false 19 [(.var 2), c, (.var 5)] [] []) (isV W) := fun s t => by
  obtain ⟨d, s1, e1, t1, x, rfl, rs, rfl, hr, hl⟩ := h s t
  obtain ⟨us, s2, e2, t2, hu, hul⟩ := bent n t1 hr (by omega) hk
  exact ⟨_, s2, (ev_call3 (ev_v h2) e1 (ev_v h5)).trans e2, t2, .lst us, rfl, hw us hu (by omega)⟩
theorem put_ok {j : Nat} (h4 : env[4]? = some (some (.ref (LX a r)))) (h : ET n a (RL r fs) env c (isV Z)) (hj : j < fs.length) {s : Sto} (t : TS a (RL r fs) s) : ∃ x s', (∀ rest, exSs P (PV.run P LM n) (flOf P LM n) env (.asg (.six (.var 4) (.int j)) c :: rest) s = exSs P (PV.run P LM n) (flOf P LM n) env rest s') ∧ TS a (RL r (fs.set j x)) s' ∧ Z x := by
  obtain ⟨d, s1, e1, t1, x, rfl, z⟩ := h s t
  have p1 := put_ref (t := x) (k := (j : Int)) t1.cell (by omega) (by omega)
  rw [Int.toNat_natCast] at p1
  refine ⟨x, _, fun rest => seq_nx ?_, t1.setc, z⟩
  show withE env (ev P (PV.run P LM n) (flOf P LM n) env c s) _ = _
  rw [e1]
  show withE env (((ev P (PV.run P LM n) (flOf P LM n) env (.var 4) s1).bind fun x' => (ev P (PV.run P LM n) (flOf P LM n) env (.int j)).bind fun y => (putIx x' y (.v x)).bind fun _ => M.ret env)) _ = _
  rw [ev_v h4]
  show withE env (((putIx (.ref (LX a r)) (.v (.int j)) (.v x) s1).bind fun _ => M.ret env)) _ = _
  rw [p1]
  rfl
end
theorem elL {k : Nat} {ts : List T} (h : ∀ t ∈ ts, el k t = true) (hl : ts.length ≤ 10) : el (k + 1) (.lst ts) = true := el_lst.mpr ⟨hl, h⟩
theorem elT {k : Nat} {ts : List T} (h : ∀ t ∈ ts, el k t = true) (hl : ts.length ≤ 10) : el (k + 1) (.tup ts) = true := el_tup.mpr ⟨hl, h⟩
theorem all1 {p : T → Prop} {x : T} (h : p x) : ∀ t ∈ [x], p t := fun t ht => by rw [List.mem_singleton.mp ht]; exact h
theorem all2 {p : T → Prop} {x y : T} (h : p x) (h2 : p y) : ∀ t ∈ [x, y], p t := fun t ht => by
  rcases List.mem_cons.mp ht with rfl | ht
  · exact h
  · rw [List.mem_singleton.mp ht]; exact h2
theorem allA {p : T → Prop} {xs ys : List T} (h : ∀ t ∈ xs, p t) (h2 : ∀ t ∈ ys, p t) : ∀ t ∈ xs ++ ys, p t := fun t ht => by
  rcases List.mem_append.mp ht with ht | ht
  · exact h t ht
  · exact h2 t ht
theorem tS_els {o : List Str} (h : ∀ x ∈ o, x ∈ allW) {k : Nat} : ∀ t ∈ tS o, el k t = true := fun t ht => by
  obtain ⟨x, hx, rfl⟩ := mem_tS.mp ht
  exact el_str (h x hx)

abbrev Et (a r : Sto) (ns : List Int) (i : Int) (tn : D) (o5 o6 o7 : Option D) : PV.Env := [some (.v (.scr ns)), some (.v (.int i)), some (.ref a.length), some tn, some (.ref (LX a r)), o5, o6, o7]
section
variable {n : Nat} {a r : Sto} {ns : List Int} {i : Int} {tn : D} {ks hs : List Str} {rs : List T} {b kd : Str} {c : Int}
theorem t0 {fs : List T} {o6 o7 : Option D} (f0 : fs[0]? = some (.lst (tS ks))) (k4 : ks.length ≤ 4) (kb : ∀ k ∈ ks, k ∈ allW) (hk : kd ∈ allW) (hj : 0 < fs.length) {s : Sto} (t : TS a (RL r fs) s) :
    ∃ x s', (∀ rest, exSs P (PV.run P LM (n + 2)) (flOf P LM (n + 2)) (Et a r ns i tn (some (.v (.str kd))) o6 o7) (bt2 :: rest) s = exSs P (PV.run P LM (n + 2)) (flOf P LM (n + 2)) (Et a r ns i tn (some (.v (.str kd))) o6 o7) rest s') ∧ TS a (RL r (fs.set 0 x)) s' ∧ smD 2 x := by
  have ks1 := tS_els kb (k := 1)
  have kl : (tS ks).length ≤ 4 := by rw [tS_len]; exact k4
  have z0 : smD 2 (.lst (tS ks)) := .inl (elL ks1 (by omega))
  have ix : ET (n + 2) a (RL r fs) (Et a r ns i tn (some (.v (.str kd))) o6 o7) (.ix (.var 4) (.int 0)) (isV (· = .lst (tS ks))) := .ixp (j := 0) rfl f0 rfl
  have ixz : ET (n + 2) a (RL r fs) (Et a r ns i tn (some (.v (.str kd))) o6 o7) (.ix (.var 4) (.int 0)) (isV (smD 2)) := .ixp (j := 0) rfl f0 z0
  have plus : ∀ (e : C) (t : T), (∀ s, ev P (PV.run P LM (n + 2)) (flOf P LM (n + 2)) (Et a r ns i tn (some (.v (.str kd))) o6 o7) e s = .ok (.v (.lst [t])) s) → el 1 t = true → ET (n + 2) a (RL r fs) (Et a r ns i tn (some (.v (.str kd))) o6 o7) (.bin false .add (.ix (.var 4) (.int 0)) e) (isV (smD 2)) := fun e t h1 h2 =>
    .addL ix (.lit h1 rfl) (by simp; omega) (.inl (elL (allA ks1 (all1 h2)) (by simp; omega)))
  exact put_ok (j := 0) rfl (ET.oneZ rfl
    (.z ixz (.z ixz (.z ixz (.z ixz (.z (.lit (t := .lst []) (fun _ => rfl) (.inl rfl)) (.z (.lit (t := .tup []) (fun _ => rfl) (.inl rfl)) (.z (plus _ (.str kd) (fun _ => rfl) (el_str hk)) (.z (plus _ (.str "A") (fun _ => rfl) (el_str (by decide)))
      (.z (plus _ (.str "abcdefghi") (fun _ => rfl) (el_str (by decide))) (.z (.addL (xs := [.non]) (.lit (fun _ => rfl) rfl) ix (by simp; omega) (.inl (elL (allA (all1 rfl) ks1) (by simp; omega)))) (.z (.lit (t := .str kd) (fun _ => rfl) (.inl (el_str hk))) (.z (.lit (t := .non) (fun _ => rfl) (.inl rfl))
      (.z (plus _ (.lst [.str "h"]) (fun _ => rfl) (elL (all1 (el_str (by decide))) (by simp))) (.z (.lit (t := .dct false [(.str kd, .int 0)]) (fun _ => rfl) (.inr (.inr ⟨kd, hk, rfl⟩))) .z0)))))))))))))) rfl (by decide) (by decide)) hj t
theorem t1 {fs : List T} {o6 o7 : Option D} (f0 : fs[1]? = some (.lst (tS hs))) (k4 : hs.length ≤ 4) (kb : ∀ k ∈ hs, k ∈ allW) (hk : kd ∈ allW) (hj : 1 < fs.length) {s : Sto} (t : TS a (RL r fs) s) :
    ∃ x s', (∀ rest, exSs P (PV.run P LM (n + 2)) (flOf P LM (n + 2)) (Et a r ns i tn (some (.v (.str kd))) o6 o7) (bt3 :: rest) s = exSs P (PV.run P LM (n + 2)) (flOf P LM (n + 2)) (Et a r ns i tn (some (.v (.str kd))) o6 o7) rest s') ∧ TS a (RL r (fs.set 1 x)) s' ∧ smD 2 x := by
  have ks1 := tS_els kb (k := 1)
  have kl : (tS hs).length ≤ 4 := by rw [tS_len]; exact k4
  have z0 : smD 2 (.lst (tS hs)) := .inl (elL ks1 (by omega))
  have ix : ET (n + 2) a (RL r fs) (Et a r ns i tn (some (.v (.str kd))) o6 o7) (.ix (.var 4) (.int 1)) (isV (· = .lst (tS hs))) := .ixp (j := 1) rfl f0 rfl
  have ixz : ET (n + 2) a (RL r fs) (Et a r ns i tn (some (.v (.str kd))) o6 o7) (.ix (.var 4) (.int 1)) (isV (smD 2)) := .ixp (j := 1) rfl f0 z0
  have q1 : el 1 (.str "q") = true := el_str (by decide)
  have k1 : el 1 (.str kd) = true := el_str hk
  exact put_ok (j := 1) rfl (ET.oneZ rfl
    (.z ixz (.z ixz (.z ixz (.z (.tupl ix (.inl (elT ks1 (by omega)))) (.z (.lit (t := .lst [.str kd, .str kd]) (fun _ => rfl) (.inl (elL (all2 k1 k1) (by simp)))) (.z (.lit (t := .lst [.str "q"]) (fun _ => rfl) (.inl (elL (all1 q1) (by simp)))) (.z (.lit (t := .lst [.str kd, .str "q"]) (fun _ => rfl) (.inl (elL (all2 k1 q1) (by simp))))
      (.z (.lit (t := .tup [.str kd, .str kd]) (fun _ => rfl) (.inl (elT (all2 k1 k1) (by simp)))) (.z (.lit (t := .tup [.str kd, .str "q"]) (fun _ => rfl) (.inl (elT (all2 k1 q1) (by simp)))) (.z (.lit (t := .lst [.str kd, .non]) (fun _ => rfl) (.inl (elL (all2 k1 rfl) (by simp)))) (.z (.lit (t := .lst [.str "abcdefghi"]) (fun _ => rfl) (.inl (elL (all1 (el_str (by decide))) (by simp))))
      (.z (.lit (t := .lst [.non]) (fun _ => rfl) (.inl rfl)) (.z (.lit (t := .lst [.lst [.str "h"]]) (fun _ => rfl) (.inl (elL (all1 (elL (all1 (el_str (by decide))) (by simp))) (by simp)))) (.z (.lit (t := .str kd) (fun _ => rfl) (.inl (el_str hk))) (.z (.lit (t := .non) (fun _ => rfl) (.inl rfl)) (.z (.lit (t := .dct false []) (fun _ => rfl) (.inr (.inl rfl))) .z0)))))))))))))))) rfl (by decide) (by decide)) hj t
theorem t2 {fs : List T} {o6 o7 : Option D} (f0 : fs[2]? = some (.lst rs)) (k8 : rs.length ≤ 8) (kb : ∀ t ∈ rs, el 3 t = true) (hk : kd ∈ allW) (hj : 2 < fs.length) {s : Sto} (t : TS a (RL r fs) s) :
    ∃ x s', (∀ rest, exSs P (PV.run P LM (n + 3)) (flOf P LM (n + 3)) (Et a r ns i tn (some (.v (.str kd))) o6 o7) (bt4 :: rest) s = exSs P (PV.run P LM (n + 3)) (flOf P LM (n + 3)) (Et a r ns i tn (some (.v (.str kd))) o6 o7) rest s') ∧ TS a (RL r (fs.set 2 x)) s' ∧ smD 4 x := by
  have z0 : smD 4 (.lst rs) := .inl (elL kb (by omega))
  have ix : ET (n + 3) a (RL r fs) (Et a r ns i tn (some (.v (.str kd))) o6 o7) (.ix (.var 4) (.int 2)) (isV (· = .lst rs)) := .ixp (j := 2) rfl f0 rfl
  have ixz : ET (n + 3) a (RL r fs) (Et a r ns i tn (some (.v (.str kd))) o6 o7) (.ix (.var 4) (.int 2)) (isV (smD 4)) := .ixp (j := 2) rfl f0 z0
  have ixb : ET (n + 3) a (RL r fs) (Et a r ns i tn (some (.v (.str kd))) o6 o7) (.ix (.var 4) (.int 2)) (isV fun t => ∃ rs, t = .lst rs ∧ (∀ t ∈ rs, el 3 t = true) ∧ rs.length ≤ 8) := .ixp (j := 2) rfl f0 ⟨rs, rfl, kb, k8⟩
  exact put_ok (j := 2) rfl (ET.oneZ (n := n + 1) rfl
    (.z ixz (.z (.tupl ix (.inl (elT kb (by omega)))) (.z (.bnt (L := 8) rfl rfl hk (by decide) ixb fun us h1 h2 => .inl (elL h1 (by omega))) (.z (.bnt (L := 9) rfl rfl hk (by decide) (.bnt (L := 8) rfl rfl hk (by decide) ixb fun us h1 h2 => ⟨us, rfl, h1, h2⟩) fun us h1 h2 => .inl (elL h1 h2))
      (.z (.lit (t := .non) (fun _ => rfl) (.inl rfl)) (.z (.lit (t := .dct false []) (fun _ => rfl) (.inr (.inl rfl))) (.z (.lit (t := .str "a") (fun _ => rfl) (.inl (el_str (by decide)))) .z0))))))) rfl (by decide) (by decide)) hj t
theorem t3 {fs : List T} {o6 o7 : Option D} (f0 : fs[3]? = some (.str b)) (hb : b ∈ allW) (hk : kd ∈ allW) (hj : 3 < fs.length) {s : Sto} (t : TS a (RL r fs) s) :
    ∃ x s', (∀ rest, exSs P (PV.run P LM (n + 2)) (flOf P LM (n + 2)) (Et a r ns i tn (some (.v (.str kd))) o6 o7) (bt5 :: rest) s = exSs P (PV.run P LM (n + 2)) (flOf P LM (n + 2)) (Et a r ns i tn (some (.v (.str kd))) o6 o7) rest s') ∧ TS a (RL r (fs.set 3 x)) s' ∧ el 1 x = true := by
  have ixz : ET (n + 2) a (RL r fs) (Et a r ns i tn (some (.v (.str kd))) o6 o7) (.ix (.var 4) (.int 3)) (isV fun x => el 1 x = true) := .ixp (j := 3) rfl f0 (el_str hb)
  exact put_ok (j := 3) rfl (ET.oneZ rfl
    (.z ixz (.z ixz (.z ixz (.z (.lit (t := .str "q") (fun _ => rfl) (el_str (by decide))) (.z (.lit (t := .str "") (fun _ => rfl) (el_str (by decide))) (.z (.lit (t := .non) (fun _ => rfl) rfl) (.z (.lit (t := .lst [.str kd]) (fun _ => rfl) (elL (all1 (el_str hk)) (by simp))) (.z (.lit (t := .int 0) (fun _ => rfl) rfl) .z0)))))))) rfl (by decide) (by decide)) hj t
theorem t4 {fs : List T} {o6 o7 : Option D} (f0 : fs[4]? = some (.int c)) (hc : leafI c = true) (hk : kd ∈ allW) (hj : 4 < fs.length) {s : Sto} (t : TS a (RL r fs) s) :
    ∃ x s', (∀ rest, exSs P (PV.run P LM (n + 2)) (flOf P LM (n + 2)) (Et a r ns i tn (some (.v (.str kd))) o6 o7) (bt6 :: rest) s = exSs P (PV.run P LM (n + 2)) (flOf P LM (n + 2)) (Et a r ns i tn (some (.v (.str kd))) o6 o7) rest s') ∧ TS a (RL r (fs.set 4 x)) s' ∧ el 1 x = true := by
  have ixz : ET (n + 2) a (RL r fs) (Et a r ns i tn (some (.v (.str kd))) o6 o7) (.ix (.var 4) (.int 4)) (isV fun x => el 1 x = true) := .ixp (j := 4) rfl f0 hc
  have pw : ∀ s, ev P (PV.run P LM (n + 2)) (flOf P LM (n + 2)) (Et a r ns i tn (some (.v (.str kd))) o6 o7) (.bin false .pow (.int 10) (.int 39)) s = .ok (.v (.int 1000000000000000000000000000000000000000)) s := fun s => by
    refine (ev_bin (x := .v (.int 10)) (y := .v (.int 39)) (s1 := s) (s2 := s) rfl rfl).trans ((b_pow false 10 39 s (by decide)).trans ?_)
    rw [show ((10 : Int) ^ (39 : Int).toNat) = 1000000000000000000000000000000000000000 by decide]
  exact put_ok (j := 4) rfl (ET.oneZ rfl
    (.z ixz (.z ixz (.z ixz (.z (.lit (t := .int (0 - 7)) (fun _ => rfl) rfl) (.z (.lit (t := .int 1000000000000000000000000000000000000000) pw rfl) (.z (.lit (t := .bl true) (fun _ => rfl) rfl) (.z (.lit (t := .bl false) (fun _ => rfl) rfl) (.z (.lit (t := .non) (fun _ => rfl) rfl) (.z (.lit (t := .str "1") (fun _ => rfl) (el_str (by decide))) (.z (.lit (t := .tup [.int 1]) (fun _ => rfl) rfl) .z0)))))))))) rfl (by decide) (by decide)) hj t
end
end K03
end
section
set_option Elab.async false
set_option linter.all false
set_option maxRecDepth 1000000
set_option maxHeartbeats 4000000
/-! E26: the law. -/
namespace K03
open PySem PV
/-- the parts' answer, whatever holds them -/
theorem law_refused' (n : Nat) {s : Sto} (p : Pl s) {d : D} {k h r b c : T} (hc : ∀ (j : Nat) (t : T), [k, h, r, b, c][j]? = some t → item d (.v (.int j)) s = .ok (.v t) s) (q : Parts k h r b c) : PV.run P LM (n + 4) false 14 [d] s = .ok (.v (.lst (dueT k h r b c))) s := by
  rw [run_eq (d := f_law_refused) rfl rfl]
  have ix : ∀ (j : Nat) (t : T), [k, h, r, b, c][j]? = some t → ev P (PV.run P LM (n + 3)) (flOf P LM (n + 3)) [some d, some (.v (.lst [])), none] (.ix (.var 0) (.int j)) s = .ok (.v t) s := fun j t e => (ev_ix (x := d) (y := .v (.int j)) (s1 := s) (s2 := s) rfl rfl).trans (hc j t e)
  have mk : ev P (PV.run P LM (n + 3)) (flOf P LM (n + 3)) [some d, some (.v (.lst [])), none] (.make 0 [(.ix (.var 0) (.int 0)), (.ix (.var 0) (.int 1)), (.ix (.var 0) (.int 2)), (.ix (.var 0) (.int 3)), (.ix (.var 0) (.int 4))] [] []) s = makeI P (PV.run P LM (n + 3)) 0 [.v k, .v h, .v r, .v b, .v c] s := ev_make5 (F := PV.run P LM (n + 3)) (FL := flOf P LM (n + 3)) (c := 0) (ix 0 k rfl) (ix 1 h rfl) (ix 2 r rfl) (ix 3 b rfl) (ix 4 c rfl)
  have st1 : ∀ rest, exSs P (PV.run P LM (n + 3)) (flOf P LM (n + 3)) [some d, none, none] (.asg (.pt (.nm 1)) (.lst false []) :: rest) s = exSs P (PV.run P LM (n + 3)) (flOf P LM (n + 3)) [some d, some (.v (.lst [])), none] rest s := fun rest => ex_asg (x := .v (.lst [])) rfl (by simp)
  rcases make_ok n p q with ⟨h1, t, h2⟩ | ⟨x, hx, t, h1, h2⟩
  · rw [h1]
    have tr : exS P (PV.run P LM (n + 3)) (flOf P LM (n + 3)) [some d, some (.v (.lst [])), none] (.try_ [.ex (.make 0 [(.ix (.var 0) (.int 0)), (.ix (.var 0) (.int 1)), (.ix (.var 0) (.int 2)), (.ix (.var 0) (.int 3)), (.ix (.var 0) (.int 4))] [] [])] hsR) s = .ok .nx [some d, some (.v (.lst [])), none] s := by
      show (match exSs P (PV.run P LM (n + 3)) (flOf P LM (n + 3)) [some d, some (.v (.lst [])), none] [.ex (.make 0 [(.ix (.var 0) (.int 0)), (.ix (.var 0) (.int 1)), (.ix (.var 0) (.int 2)), (.ix (.var 0) (.int 3)), (.ix (.var 0) (.int 4))] [] [])] s with
        | .ex c fs e s => exH P (PV.run P LM (n + 3)) (flOf P LM (n + 3)) c fs e hsR s
        | r => r) = _
      rw [ex_ex (mk.trans h2)]
      rfl
    exact (congrArg (finR false false s.length) ((st1 _).trans ((seq_nx tr).trans (ex_ret (x := .v (.lst [])) rfl)))).trans (fin_v rfl rfl)
  · rw [h1]
    have tr : exS P (PV.run P LM (n + 3)) (flOf P LM (n + 3)) [some d, some (.v (.lst [])), none] (.try_ [.ex (.make 0 [(.ix (.var 0) (.int 0)), (.ix (.var 0) (.int 1)), (.ix (.var 0) (.int 2)), (.ix (.var 0) (.int 3)), (.ix (.var 0) (.int 4))] [] [])] hsR) s = .ok .nx [some d, some (.v (.lst [.str x.2.2, t])), none] (s ++ [some (.ins 0 [])]) := by
      have e1 : exSs P (PV.run P LM (n + 3)) (flOf P LM (n + 3)) [some d, some (.v (.lst [])), none] [.ex (.make 0 [(.ix (.var 0) (.int 0)), (.ix (.var 0) (.int 1)), (.ix (.var 0) (.int 2)), (.ix (.var 0) (.int 3)), (.ix (.var 0) (.int 4))] [] [])] s = .ex x.1 [(x.2.1, .v t)] [some d, some (.v (.lst [])), none] (s ++ [some (.ins 0 [])]) := by
        refine seq_ex ?_
        show withE _ (ev P (PV.run P LM (n + 3)) (flOf P LM (n + 3)) _ _ s) _ = _
        rw [mk, h2]; rfl
      show (match exSs P (PV.run P LM (n + 3)) (flOf P LM (n + 3)) [some d, some (.v (.lst [])), none] [.ex (.make 0 [(.ix (.var 0) (.int 0)), (.ix (.var 0) (.int 1)), (.ix (.var 0) (.int 2)), (.ix (.var 0) (.int 3)), (.ix (.var 0) (.int 4))] [] [])] s with
        | .ex c fs e s => exH P (PV.run P LM (n + 3)) (flOf P LM (n + 3)) c fs e hsR s
        | r => r) = _
      rw [e1]
      exact exh (n + 3) hx
    exact (congrArg (finR false false s.length) ((st1 _).trans ((seq_nx tr).trans (ex_ret (x := .v (.lst [.str x.2.2, t])) rfl)))).trans (fin_cut rfl p)
theorem Pl_cell {r : Sto} {fs : List T} (h : Pl r) : Pl (RL r fs) := Pl.app.mpr ⟨h, by
  show (D.closeds 0 (fs.map .v) && true) = true
  rw [vs_closed]; rfl⟩
abbrev Ev8 (a : Sto) (ns : List Int) (i : Int) (tn : D) (o4 o5 o6 o7 : Option D) : PV.Env := [some (.v (.scr ns)), some (.v (.int i)), some (.ref a.length), some tn, o4, o5, o6, o7]
theorem turn_ok (n : Nat) {a r s : Sto} {ns : List Int} {i : Int} {tn : D} {o4 o5 o6 o7 : Option D} (t : TS a r s) (pa : Pl a) (prr : Pl r) : ∃ (fs : List T) (p4 p5 p6 p7 : Option D) (s' : Sto), exSs P (PV.run P LM (n + 4)) (flOf P LM (n + 4)) (Ev8 a ns i tn o4 o5 o6 o7) bTurn s = .ok .nx (Ev8 a ns i tn p4 p5 p6 p7) s' ∧ TS a (RL r fs) s' := by
  obtain ⟨ks, hs, rs, b, c, s0, e0, u0, ok⟩ := drawn_plan n t pa prr
  rw [t.flen] at e0
  have g0 : ∀ rest, exSs P (PV.run P LM (n + 4)) (flOf P LM (n + 4)) (Ev8 a ns i tn o4 o5 o6 o7) (bt0 :: rest) s = exSs P (PV.run P LM (n + 4)) (flOf P LM (n + 4)) (Et a r ns i tn o5 o6 o7) rest (s0 ++ [some (.lst ((planD ks hs rs b c).map .v))]) := fun rest => ex_asg ((ev_call2 (x := .ref a.length) (y := .v (.int 4)) (s1 := s) (s2 := s) rfl rfl).trans e0) (by simp)
  have u1 : TS a (RL r (planD ks hs rs b c)) (s0 ++ [some (.lst ((planD ks hs rs b c).map .v))]) := u0.more
  obtain ⟨s1, hs1⟩ : ∃ s1, s1 = s0 ++ [some (PV.Cell.lst ((planD ks hs rs b c).map D.v))] := ⟨_, rfl⟩
  rw [← hs1] at g0 u1
  -- kind
  obtain ⟨kd, kr, hkd⟩ : ∃ kd kr, ks = kd :: kr := by
    cases ks with
    | nil => exact absurd rfl ok.k0
    | cons x y => exact ⟨x, y, rfl⟩
  have kball : ∀ k ∈ ks, k ∈ allW := fun k hk => base_all (ok.kb k hk)
  have hkA : kd ∈ allW := kball kd (by rw [hkd]; exact List.mem_cons_self ..)
  have ixk : ev P (PV.run P LM (n + 4)) (flOf P LM (n + 4)) (Et a r ns i tn o5 o6 o7) (.ix (.ix (.var 4) (.int 0)) (.int 0)) s1 = .ok (.v (.str kd)) s1 :=
    (ev_ix ((ev_ix (x := .ref (LX a r)) (y := .v (.int 0)) (s1 := s1) (s2 := s1) rfl rfl).trans (item_rx (j := 0) (t := .lst (tS ks)) u1.cell rfl)) (show ev P (PV.run P LM (n + 4)) (flOf P LM (n + 4)) (Et a r ns i tn o5 o6 o7) (.int 0) s1 = .ok (.v (.int 0)) s1 from rfl)).trans (item_ls (ts := tS ks) (i := 0) (by rw [hkd]; rfl))
  have g1 : ∀ rest, exSs P (PV.run P LM (n + 4)) (flOf P LM (n + 4)) (Et a r ns i tn o5 o6 o7) (bt1 :: rest) s1 = exSs P (PV.run P LM (n + 4)) (flOf P LM (n + 4)) (Et a r ns i tn (some (.v (.str kd))) o6 o7) rest s1 := fun rest => ex_asg ixk (by simp)
  obtain ⟨x0, s2, g2, u2, z0⟩ := t0 (n := n + 2) (ns := ns) (i := i) (tn := tn) (kd := kd) (o6 := o6) (o7 := o7) (ks := ks) rfl ok.k4 kball hkA (by simp) u1
  obtain ⟨x1, s3, g3, u3, z1⟩ := t1 (n := n + 2) (ns := ns) (i := i) (tn := tn) (kd := kd) (o6 := o6) (o7 := o7) (hs := hs) rfl ok.h4 (fun h hh => kball h (ok.hk h hh)) hkA (by simp) u2
  obtain ⟨x2, s4, g4, u4, z2⟩ := t2 (n := n + 1) (ns := ns) (i := i) (tn := tn) (kd := kd) (o6 := o6) (o7 := o7) (rs := rs) rfl ok.r8 (fun t ht => el_up 2 t (rule_el (ok.rr t ht) ok.kb)) hkA (by simp) u3
  obtain ⟨x3, s5, g5, u5, z3⟩ := t3 (n := n + 2) (ns := ns) (i := i) (tn := tn) (kd := kd) (o6 := o6) (o7 := o7) (b := b) rfl (kball b ok.bk) hkA (by simp) u4
  obtain ⟨x4, s6, g6, u6, z4⟩ := t4 (n := n + 2) (ns := ns) (i := i) (tn := tn) (kd := kd) (o6 := o6) (o7 := o7) (c := c) rfl (leaf_small (by have := ok.c0; omega) (by have := ok.c1; omega)) hkA (by simp) u5
  have q : Parts2 x0 x1 x2 x3 x4 := ⟨z0, z1, z2, z3, z4⟩
  have u6 : TS a (RL r [x0, x1, x2, x3, x4]) s6 := u6
  have pl : Pl s6 := u6.pl pa (Pl_cell prr)
  have hc := u6.cell
  obtain ⟨due, hdue⟩ : ∃ due, due = dueT x0 x1 x2 x3 x4 := ⟨_, rfl⟩
  have dsh := due_sh q
  have ld := law_due (n + 1) pl hc q.p
  have lr := law_refused' n pl (d := .ref (LX a r)) (fun j t e => item_rx hc e) q.p
  rw [← hdue] at dsh ld lr
  have rdp : rd s6 DEEP (.ref (LX a r)) = some (.lst [x0, x1, x2, x3, x4]) := by
    unfold rd
    rw [hc]
    exact congrArg (Option.map T.lst) (mapM_rd s6 _ [x0, x1, x2, x3, x4])
  have rp := fun m => repr_ok (m := m) (parts_sh q) (by decide) shB5 rdp
  have rdu := fun m => repr_ok (m := m) (d := .v (.lst due)) (s := s6) dsh (by decide) shB5 (rd_v _ _ _)
  obtain ⟨R, hR⟩ : ∃ R, R = reprS (.lst [x0, x1, x2, x3, x4]) := ⟨_, rfl⟩
  obtain ⟨R2, hR2⟩ : ∃ R2, R2 = reprS (.lst due) := ⟨_, rfl⟩
  rw [← hR] at rp
  rw [← hR2] at rdu
  have e7 : ev P (PV.run P LM (n + 4)) (flOf P LM (n + 4)) (Et a r ns i tn (some (.v (.str kd))) o6 o7) (.tup [(false, (.bi false .repr [(.var 4)])), (false, (.call false 18 [(.var 4)] [] []))]) s6 = .ok (.v (.tup [.str R, .lst due])) s6 :=
    tup_v (us := [.str R, .lst due]) (evst_c ((ev_bi1 (x := .ref (LX a r)) (s1 := s6) rfl).trans (rp false)) (evst_c ((ev_call1 (x := .ref (LX a r)) (s1 := s6) rfl).trans ld) rfl)) rfl
  have g7 : ∀ rest, exSs P (PV.run P LM (n + 4)) (flOf P LM (n + 4)) (Et a r ns i tn (some (.v (.str kd))) o6 o7) (bt7 :: rest) s6 = exSs P (PV.run P LM (n + 4)) (flOf P LM (n + 4)) (Et a r ns i tn (some (.v (.str kd))) (some (.v (.str R))) (some (.v (.lst due)))) rest s6 := fun rest => by
    refine seq_nx ?_
    show withE _ (ev P (PV.run P LM (n + 4)) (flOf P LM (n + 4)) _ _ s6) _ = _
    rw [e7]; rfl
  have sf : ∀ x : Str, (T.str x).flat = true := fun _ => rfl
  have ee : ∀ x : Str, (!T.eqv (.str x) (.str x)) = false := fun x => by
    show (!decide (x = x)) = false
    rw [decide_eq_true rfl]; rfl
  have w1 : ev P (PV.run P LM (n + 4)) (flOf P LM (n + 4)) (Et a r ns i tn (some (.v (.str kd))) (some (.v (.str R))) (some (.v (.lst due)))) (.cmp .ne (.bi false .repr [(.call false 14 [(.var 4)] [] [])]) (.bi false .repr [(.var 7)])) s6 = .ok (.v (.bl false)) s6 := by
    refine (ev_cmp ((ev_bi1 ((ev_call1 (x := .ref (LX a r)) (s1 := s6) rfl).trans lr)).trans (rdu false)) ((ev_bi1 (x := .v (.lst due)) (s1 := s6) rfl).trans (rdu false))).trans ((c_ne s6 (sf R2) (sf R2)).trans ?_)
    rw [ee]
  have w2 : ev P (PV.run P LM (n + 4)) (flOf P LM (n + 4)) (Et a r ns i tn (some (.v (.str kd))) (some (.v (.str R))) (some (.v (.lst due)))) (.cmp .ne (.bi false .repr [(.var 4)]) (.var 6)) s6 = .ok (.v (.bl false)) s6 := by
    refine (ev_cmp ((ev_bi1 (x := .ref (LX a r)) (s1 := s6) rfl).trans (rp false)) (show ev P (PV.run P LM (n + 4)) (flOf P LM (n + 4)) _ (.var 6) s6 = .ok (.v (.str R)) s6 from rfl)).trans ((c_ne s6 (sf R) (sf R)).trans ?_)
    rw [ee]
  refine ⟨[x0, x1, x2, x3, x4], some (.ref (LX a r)), some (.v (.str kd)), some (.v (.str R)), some (.v (.lst due)), s6, ?_, u6⟩
  exact (g0 _).trans ((g1 _).trans ((g2 _).trans ((g3 _).trans ((g4 _).trans ((g5 _).trans ((g6 _).trans ((g7 _).trans ((ex_if_f ((ev_or_f w1).trans w2)).trans rfl))))))))
theorem iota_mem : ∀ (k : Nat) (lo : Int) (x : D), x ∈ iotaD lo k → ∃ i, x = .v (.int i) ∧ lo ≤ i ∧ i < lo + k
  | 0, _, _, h => by cases h
  | k + 1, lo, x, h => by
    rcases List.mem_cons.mp h with rfl | h
    · exact ⟨lo, rfl, by omega, by omega⟩
    · obtain ⟨i, e, h1, h2⟩ := iota_mem k (lo + 1) x h
      exact ⟨i, e, by omega, by omega⟩
abbrev bStart : List S := [.asg (.pt (.nm 2)) (.call false 5 [(.var 0), (.var 1)] [] []), .for_ (.nm 3) (.rng [(.int 10)]) bTurn]
theorem start_ok (n : Nat) {s : Sto} {ns : List Int} {i : Int} {o2 o3 o4 o5 o6 o7 : Option D} (p : Pl s) (hb : bitsOk ns) (i0 : 0 ≤ i) (i1 : i < 10) : ∃ (p2 p3 p4 p5 p6 p7 : Option D) (s' : Sto), exSs P (PV.run P LM (n + 4)) (flOf P LM (n + 4)) [some (.v (.scr ns)), some (.v (.int i)), o2, o3, o4, o5, o6, o7] bStart s = .ok .nx [some (.v (.scr ns)), some (.v (.int i)), p2, p3, p4, p5, p6, p7] s' ∧ Pl s' := by
  obtain ⟨d, m, e0, tk⟩ := tape_made (n + 3) p hb i0 i1
  have g0 : ∀ rest, exSs P (PV.run P LM (n + 4)) (flOf P LM (n + 4)) [some (.v (.scr ns)), some (.v (.int i)), o2, o3, o4, o5, o6, o7] (.asg (.pt (.nm 2)) (.call false 5 [(.var 0), (.var 1)] [] []) :: rest) s = exSs P (PV.run P LM (n + 4)) (flOf P LM (n + 4)) [some (.v (.scr ns)), some (.v (.int i)), some (.ref s.length), o3, o4, o5, o6, o7] rest (s ++ [tp d m]) := fun rest => ex_asg ((ev_call2 (x := .v (.scr ns)) (y := .v (.int i)) (s1 := s) (s2 := s) rfl rfl).trans e0) (by simp)
  obtain ⟨env', s', e, p3, p4, p5, p6, p7, r, rfl, u, pr'⟩ := forL_inv (g := .nm 3) (body := fun e s => exSs P (PV.run P LM (n + 4)) (flOf P LM (n + 4)) e bTurn s) (fun _ env st => ∃ (p3 p4 p5 p6 p7 : Option D) (r : Sto), env = [some (.v (.scr ns)), some (.v (.int i)), some (.ref s.length), p3, p4, p5, p6, p7] ∧ TS s r st ∧ Pl r)
    (fun x xs env st ⟨p3, p4, p5, p6, p7, r, e1, u, pr'⟩ => by
      subst e1
      obtain ⟨fs, q4, q5, q6, q7, s2, e2, u2⟩ := turn_ok n (ns := ns) (i := i) (tn := x) (o4 := p4) (o5 := p5) (o6 := p6) (o7 := p7) u p pr'
      exact ⟨_, rfl, _, s2, e2, _, _, _, _, _, _, rfl, u2, Pl_cell pr'⟩)
    (iotaD 0 10) [some (.v (.scr ns)), some (.v (.int i)), some (.ref s.length), o3, o4, o5, o6, o7] (s ++ [tp d m]) ⟨o3, o4, o5, o6, o7, [], rfl, ⟨d, m, tk, rfl⟩, rfl⟩
  have iw : evi P (PV.run P LM (n + 4)) (flOf P LM (n + 4)) [some (.v (.scr ns)), some (.v (.int i)), some (.ref s.length), o3, o4, o5, o6, o7] (.rng [(.int 10)]) (s ++ [tp d m]) = .ok (iotaD 0 10) (s ++ [tp d m]) := rfl
  exact ⟨_, _, _, _, _, _, s', (g0 _).trans ((ex_for iw e).trans rfl), u.pl p pr'⟩
theorem fin_any {dz z : Bool} {L : Nat} {t : T} {e : PV.Env} {s : Sto} (hz : (dz || z) = false) : ∃ st', finR dz z L (.ok (.rt (.v t)) e s) = .ok (.v t) st' := by
  unfold finR
  rw [hz]
  show ∃ st', trim L (.v t) s = .ok (.v t) st'
  unfold trim
  cases (D.v t).closed L && Sto.closed L (s.take L) with
  | true => exact ⟨_, rfl⟩
  | false => exact ⟨_, rfl⟩
theorem pure_law (ns : List Int) (hl : ns.length ≤ 63) (hb : ∀ z ∈ ns, Builtin.Int.intBits z ≤ 1048576) : ∃ st', PV.run P LM 14 false 20 [.v (.scr ns)] [] = .ok (.v (.bl true)) st' := by
  obtain ⟨j, j0, j1, ej⟩ : ∃ j : Int, 1 ≤ j ∧ j ≤ 3 ∧ evi P (PV.run P LM 13) (flOf P LM 13) [some (.v (.scr ns)), none, none, none, none, none, none, none] (.rng [(.bi false .max [(.int 1), (.bi false .min [(.int 3), (.bi false .len [(.var 0)])])])]) [] = .ok (iotaD 0 j.toNat) [] := by
    obtain ⟨j, hj⟩ : ∃ j : Int, j = (if (1 : Int) < (if (ns.length : Int) < 3 then (ns.length : Int) else 3) then (if (ns.length : Int) < 3 then (ns.length : Int) else 3) else 1) := ⟨_, rfl⟩
    have b1 : 1 ≤ j ∧ j ≤ 3 := by rw [hj]; split <;> split <;> omega
    refine ⟨j, b1.1, b1.2, ?_⟩
    show (M.opt (ranged [.v (.int (if (1 : Int) < (if (ns.length : Int) < 3 then (ns.length : Int) else 3) then (if (ns.length : Int) < 3 then (ns.length : Int) else 3) else 1))]) []) = _
    rw [← hj]
    show M.opt (if -(LIM : Int) ≤ j ∧ j ≤ LIM then some (iotaD 0 j.toNat) else none) [] = _
    rw [if_pos (by rw [show LIM = 16000000 from rfl]; constructor <;> omega)]
    rfl
  obtain ⟨env', s', e, o1, p2, p3, p4, p5, p6, p7, rfl, pl, _⟩ := forL_inv (g := .nm 1) (body := fun e s => exSs P (PV.run P LM 13) (flOf P LM 13) e bStart s) (fun xs env st => ∃ (o1 p2 p3 p4 p5 p6 p7 : Option D), env = [some (.v (.scr ns)), o1, p2, p3, p4, p5, p6, p7] ∧ Pl st ∧ ∀ x ∈ xs, ∃ i, x = D.v (.int i) ∧ 0 ≤ i ∧ i < 10)
    (fun x xs env st ⟨o1, p2, p3, p4, p5, p6, p7, e1, p, hx⟩ => by
      subst e1
      obtain ⟨i, rfl, i0, i1⟩ := hx x (List.mem_cons_self ..)
      obtain ⟨q2, q3, q4, q5, q6, q7, s2, e2, u2⟩ := start_ok 9 (o2 := p2) (o3 := p3) (o4 := p4) (o5 := p5) (o6 := p6) (o7 := p7) p hb i0 i1
      exact ⟨_, rfl, _, s2, e2, _, _, _, _, _, _, _, rfl, u2, fun y hy => hx y (List.mem_cons_of_mem _ hy)⟩)
    (iotaD 0 j.toNat) [some (.v (.scr ns)), none, none, none, none, none, none, none] [] ⟨none, none, none, none, none, none, none, rfl, rfl, fun x hx => by
      obtain ⟨i, e, h1, h2⟩ := iota_mem _ _ _ hx
      exact ⟨i, e, h1, by omega⟩⟩
  have lr := law_refused' 9 pl (d := .v (.lst [.lst [.str "h"], .lst [], .lst [], .str "h", .int 0])) (k := .lst [.str "h"]) (h := .lst []) (r := .lst []) (b := .str "h") (c := .int 0) (fun j t e => item_ls e) ⟨.inl (elL (all1 (el_str (by decide))) (by simp)), .inl rfl, .inl rfl, el_str (by decide), rfl⟩
  have d0 : dueT (.lst [.str "h"]) (.lst []) (.lst []) (.str "h") (.int 0) = [] := by kernel_rfl
  rw [d0] at lr
  have c1 := (ev_cmp (P := P) (F := PV.run P LM 13) (FL := flOf P LM 13) (env := [some (.v (.scr ns)), o1, p2, p3, p4, p5, p6, p7]) (o := .eq) (b := .lst false []) (y := .v (.lst [])) (s2 := s') ((ev_call1 (a := .lst false [(false, (.lst false [(false, (.str "h"))])), (false, (.lst false [])), (false, (.lst false [])), (false, (.str "h")), (false, (.int 0))]) (x := .v (.lst [.lst [.str "h"], .lst [], .lst [], .str "h", .int 0])) (zz := false) (f := 14) (s := s') (s1 := s') rfl).trans lr) rfl).trans (c_eq s' nil_flat nil_flat)
  rw [eqv_nil] at c1
  rw [run_eq (d := f_law) rfl rfl]
  obtain ⟨st', hst⟩ := fin_any (dz := false) (z := false) (L := 0) (t := .bl true) (e := [some (.v (.scr ns)), o1, p2, p3, p4, p5, p6, p7]) (s := s') rfl
  exact ⟨st', (congrArg (finR false false 0) ((ex_for ej e).trans (ex_ret c1))).trans hst⟩
end K03
end
section
set_option Elab.async false
set_option linter.all false
set_option maxRecDepth 1000000
set_option maxHeartbeats 4000000
/-! the core text of the law, checked against its text; the head -/
namespace K03
open PySem PySem.Spec PyProof.Rows L2 PV


abbrev pw : Program := PySem.Challenge.pw_farhandles_k03_books_refused
def top (i : Nat) : Stmt := pw.main.body.getD i (.Pass ⟨0, 0, 0, 0⟩)
def inCls (s : Stmt) (i : Nat) : Stmt := match s with
  | .ClassDef _ _ _ body _ _ _ _ _ _ _ => body.getD i (.Pass ⟨0, 0, 0, 0⟩)
  | s => s
abbrev s_is_integer : Stmt := (top 13)
theorem c_is_integer : chSs Z n_is_integer ⟨defScope s_is_integer, none⟩ b_is_integer (defBody s_is_integer) = true := by kernel_rfl
def d_is_integer : He.DefD := ⟨("is_integer", none), "is_integer", "is_integer", defArgs s_is_integer, defBody s_is_integer, defScope s_is_integer, [], []⟩
theorem k_is_integer : Pack Z f_is_integer d_is_integer n_is_integer p_is_integer := ⟨⟨rfl, rfl, rfl, by decide +kernel, rfl, by decide +kernel, by decide +kernel⟩, rfl, rfl, by decide, c_is_integer, fun _ _ _ _ _ _ us hl => match us, hl with | [_], _ => rfl, rfl⟩
abbrev s_is_name : Stmt := (top 14)
theorem c_is_name : chSs Z n_is_name ⟨defScope s_is_name, none⟩ b_is_name (defBody s_is_name) = true := by kernel_rfl
def d_is_name : He.DefD := ⟨("is_name", none), "is_name", "is_name", defArgs s_is_name, defBody s_is_name, defScope s_is_name, [], []⟩
theorem k_is_name : Pack Z f_is_name d_is_name n_is_name p_is_name := ⟨⟨rfl, rfl, rfl, by decide +kernel, rfl, by decide +kernel, by decide +kernel⟩, rfl, rfl, by decide, c_is_name, fun _ _ _ _ _ _ us hl => match us, hl with | [_], _ => rfl, rfl⟩
abbrev s_are_unlike : Stmt := (top 15)
theorem c_are_unlike : chSs Z n_are_unlike ⟨defScope s_are_unlike, none⟩ b_are_unlike (defBody s_are_unlike) = true := by kernel_rfl
def d_are_unlike : He.DefD := ⟨("are_unlike", none), "are_unlike", "are_unlike", defArgs s_are_unlike, defBody s_are_unlike, defScope s_are_unlike, [], []⟩
theorem k_are_unlike : Pack Z f_are_unlike d_are_unlike n_are_unlike p_are_unlike := ⟨⟨rfl, rfl, rfl, by decide +kernel, rfl, by decide +kernel, by decide +kernel⟩, rfl, rfl, by decide, c_are_unlike, fun _ _ _ _ _ _ us hl => match us, hl with | [_, _], _ => rfl, rfl⟩
abbrev s_is_rule : Stmt := (top 16)
theorem c_is_rule : chSs Z n_is_rule ⟨defScope s_is_rule, none⟩ b_is_rule (defBody s_is_rule) = true := by kernel_rfl
def d_is_rule : He.DefD := ⟨("is_rule", none), "is_rule", "is_rule", defArgs s_is_rule, defBody s_is_rule, defScope s_is_rule, [], []⟩
theorem k_is_rule : Pack Z f_is_rule d_is_rule n_is_rule p_is_rule := ⟨⟨rfl, rfl, rfl, by decide +kernel, rfl, by decide +kernel, by decide +kernel⟩, rfl, rfl, by decide, c_is_rule, fun _ _ _ _ _ _ us hl => match us, hl with | [_, _], _ => rfl, rfl⟩
abbrev s_Booku_initu : Stmt := (inCls (top 17) 0)
theorem c_Booku_initu : chSs Z n_Booku_initu ⟨defScope s_Booku_initu, none⟩ b_Booku_initu (defBody s_Booku_initu) = true := by kernel_rfl
def d_Booku_initu : He.DefD := ⟨("Book", some "__init__"), "__init__", "Book.__init__", defArgs s_Booku_initu, defBody s_Booku_initu, defScope s_Booku_initu, [], []⟩
theorem k_Booku_initu : Pack Z f_Booku_initu d_Booku_initu n_Booku_initu p_Booku_initu := ⟨⟨rfl, rfl, rfl, by decide +kernel, rfl, by decide +kernel, by decide +kernel⟩, rfl, rfl, by decide, c_Booku_initu, fun _ _ _ _ _ _ us hl => match us, hl with | [_, _, _, _, _, _], _ => rfl, rfl⟩
abbrev s_law_tape : Stmt := (top 19)
theorem c_law_tape : chSs Z n_law_tape ⟨defScope s_law_tape, none⟩ b_law_tape (defBody s_law_tape) = true := by kernel_rfl
def d_law_tape : He.DefD := ⟨("_law_tape", none), "_law_tape", "_law_tape", defArgs s_law_tape, defBody s_law_tape, defScope s_law_tape, [], []⟩
theorem k_law_tape : Pack Z f_law_tape d_law_tape n_law_tape p_law_tape := ⟨⟨rfl, rfl, rfl, by decide +kernel, rfl, by decide +kernel, by decide +kernel⟩, rfl, rfl, by decide, c_law_tape, fun _ _ _ _ _ _ us hl => match us, hl with | [_, _], _ => rfl, rfl⟩
abbrev s_law_pick : Stmt := (top 20)
theorem c_law_pick : chSs Z n_law_pick ⟨defScope s_law_pick, none⟩ b_law_pick (defBody s_law_pick) = true := by kernel_rfl
def d_law_pick : He.DefD := ⟨("_law_pick", none), "_law_pick", "_law_pick", defArgs s_law_pick, defBody s_law_pick, defScope s_law_pick, [], []⟩
theorem k_law_pick : Pack Z f_law_pick d_law_pick n_law_pick p_law_pick := ⟨⟨rfl, rfl, rfl, by decide +kernel, rfl, by decide +kernel, by decide +kernel⟩, rfl, rfl, by decide, c_law_pick, fun _ _ _ _ _ _ us hl => match us, hl with | [_, _], _ => rfl, rfl⟩
abbrev s_law_one_of : Stmt := (top 21)
theorem c_law_one_of : chSs Z n_law_one_of ⟨defScope s_law_one_of, none⟩ b_law_one_of (defBody s_law_one_of) = true := by kernel_rfl
def d_law_one_of : He.DefD := ⟨("_law_one_of", none), "_law_one_of", "_law_one_of", defArgs s_law_one_of, defBody s_law_one_of, defScope s_law_one_of, [], []⟩
theorem k_law_one_of : Pack Z f_law_one_of d_law_one_of n_law_one_of p_law_one_of := ⟨⟨rfl, rfl, rfl, by decide +kernel, rfl, by decide +kernel, by decide +kernel⟩, rfl, rfl, by decide, c_law_one_of, fun _ _ _ _ _ _ us hl => match us, hl with | [_, _], _ => rfl, rfl⟩
abbrev s_law_shuffled : Stmt := (top 22)
theorem c_law_shuffled : chSs Z n_law_shuffled ⟨defScope s_law_shuffled, none⟩ b_law_shuffled (defBody s_law_shuffled) = true := by kernel_rfl
def d_law_shuffled : He.DefD := ⟨("_law_shuffled", none), "_law_shuffled", "_law_shuffled", defArgs s_law_shuffled, defBody s_law_shuffled, defScope s_law_shuffled, [], []⟩
theorem k_law_shuffled : Pack Z f_law_shuffled d_law_shuffled n_law_shuffled p_law_shuffled := ⟨⟨rfl, rfl, rfl, by decide +kernel, rfl, by decide +kernel, by decide +kernel⟩, rfl, rfl, by decide, c_law_shuffled, fun _ _ _ _ _ _ us hl => match us, hl with | [_, _], _ => rfl, rfl⟩
abbrev s_law_unlike : Stmt := (top 23)
theorem c_law_unlike : chSs Z n_law_unlike ⟨defScope s_law_unlike, none⟩ b_law_unlike (defBody s_law_unlike) = true := by kernel_rfl
def d_law_unlike : He.DefD := ⟨("_law_unlike", none), "_law_unlike", "_law_unlike", defArgs s_law_unlike, defBody s_law_unlike, defScope s_law_unlike, [], []⟩
theorem k_law_unlike : Pack Z f_law_unlike d_law_unlike n_law_unlike p_law_unlike := ⟨⟨rfl, rfl, rfl, by decide +kernel, rfl, by decide +kernel, by decide +kernel⟩, rfl, rfl, by decide, c_law_unlike, fun _ _ _ _ _ _ us hl => match us, hl with | [_], _ => rfl, rfl⟩
abbrev s_law_alive : Stmt := (top 24)
theorem c_law_alive : chSs Z n_law_alive ⟨defScope s_law_alive, none⟩ b_law_alive (defBody s_law_alive) = true := by kernel_rfl
def d_law_alive : He.DefD := ⟨("_law_alive", none), "_law_alive", "_law_alive", defArgs s_law_alive, defBody s_law_alive, defScope s_law_alive, [], []⟩
theorem k_law_alive : Pack Z f_law_alive d_law_alive n_law_alive p_law_alive := ⟨⟨rfl, rfl, rfl, by decide +kernel, rfl, by decide +kernel, by decide +kernel⟩, rfl, rfl, by decide, c_law_alive, fun _ _ _ _ _ _ us hl => match us, hl with | [_], _ => rfl, rfl⟩
abbrev s_law_drawn_rules : Stmt := (top 25)
theorem c_law_drawn_rules : chSs Z n_law_drawn_rules ⟨defScope s_law_drawn_rules, none⟩ b_law_drawn_rules (defBody s_law_drawn_rules) = true := by kernel_rfl
def d_law_drawn_rules : He.DefD := ⟨("_law_drawn_rules", none), "_law_drawn_rules", "_law_drawn_rules", defArgs s_law_drawn_rules, defBody s_law_drawn_rules, defScope s_law_drawn_rules, [], []⟩
theorem k_law_drawn_rules : Pack Z f_law_drawn_rules d_law_drawn_rules n_law_drawn_rules p_law_drawn_rules := ⟨⟨rfl, rfl, rfl, by decide +kernel, rfl, by decide +kernel, by decide +kernel⟩, rfl, rfl, by decide, c_law_drawn_rules, fun _ _ _ _ _ _ us hl => match us, hl with | [_, _, _, _], _ => rfl, rfl⟩
abbrev s_law_drawn_plan : Stmt := (top 26)
theorem c_law_drawn_plan : chSs Z n_law_drawn_plan ⟨defScope s_law_drawn_plan, none⟩ b_law_drawn_plan (defBody s_law_drawn_plan) = true := by kernel_rfl
def d_law_drawn_plan : He.DefD := ⟨("_law_drawn_plan", none), "_law_drawn_plan", "_law_drawn_plan", defArgs s_law_drawn_plan, defBody s_law_drawn_plan, defScope s_law_drawn_plan, [], []⟩
theorem k_law_drawn_plan : Pack Z f_law_drawn_plan d_law_drawn_plan n_law_drawn_plan p_law_drawn_plan := ⟨⟨rfl, rfl, rfl, by decide +kernel, rfl, by decide +kernel, by decide +kernel⟩, rfl, rfl, by decide, c_law_drawn_plan, fun _ _ _ _ _ _ us hl => match us, hl with | [_, _], _ => rfl, rfl⟩
abbrev s_law_is_number : Stmt := (top 27)
theorem c_law_is_number : chSs Z n_law_is_number ⟨defScope s_law_is_number, none⟩ b_law_is_number (defBody s_law_is_number) = true := by kernel_rfl
def d_law_is_number : He.DefD := ⟨("_law_is_number", none), "_law_is_number", "_law_is_number", defArgs s_law_is_number, defBody s_law_is_number, defScope s_law_is_number, [], []⟩
theorem k_law_is_number : Pack Z f_law_is_number d_law_is_number n_law_is_number p_law_is_number := ⟨⟨rfl, rfl, rfl, by decide +kernel, rfl, by decide +kernel, by decide +kernel⟩, rfl, rfl, by decide, c_law_is_number, fun _ _ _ _ _ _ us hl => match us, hl with | [_], _ => rfl, rfl⟩
abbrev s_law_refused : Stmt := (top 28)
theorem c_law_refused : chSs Z n_law_refused ⟨defScope s_law_refused, none⟩ b_law_refused (defBody s_law_refused) = true := by kernel_rfl
def d_law_refused : He.DefD := ⟨("_law_refused", none), "_law_refused", "_law_refused", defArgs s_law_refused, defBody s_law_refused, defScope s_law_refused, [], []⟩
theorem k_law_refused : Pack Z f_law_refused d_law_refused n_law_refused p_law_refused := ⟨⟨rfl, rfl, rfl, by decide +kernel, rfl, by decide +kernel, by decide +kernel⟩, rfl, rfl, by decide, c_law_refused, fun _ _ _ _ _ _ us hl => match us, hl with | [_], _ => rfl, rfl⟩
abbrev s_law_is_word : Stmt := (top 29)
theorem c_law_is_word : chSs Z n_law_is_word ⟨defScope s_law_is_word, none⟩ b_law_is_word (defBody s_law_is_word) = true := by kernel_rfl
def d_law_is_word : He.DefD := ⟨("_law_is_word", none), "_law_is_word", "_law_is_word", defArgs s_law_is_word, defBody s_law_is_word, defScope s_law_is_word, [], []⟩
theorem k_law_is_word : Pack Z f_law_is_word d_law_is_word n_law_is_word p_law_is_word := ⟨⟨rfl, rfl, rfl, by decide +kernel, rfl, by decide +kernel, by decide +kernel⟩, rfl, rfl, by decide, c_law_is_word, fun _ _ _ _ _ _ us hl => match us, hl with | [_], _ => rfl, rfl⟩
abbrev s_law_are_unlike : Stmt := (top 30)
theorem c_law_are_unlike : chSs Z n_law_are_unlike ⟨defScope s_law_are_unlike, none⟩ b_law_are_unlike (defBody s_law_are_unlike) = true := by kernel_rfl
def d_law_are_unlike : He.DefD := ⟨("_law_are_unlike", none), "_law_are_unlike", "_law_are_unlike", defArgs s_law_are_unlike, defBody s_law_are_unlike, defScope s_law_are_unlike, [], []⟩
theorem k_law_are_unlike : Pack Z f_law_are_unlike d_law_are_unlike n_law_are_unlike p_law_are_unlike := ⟨⟨rfl, rfl, rfl, by decide +kernel, rfl, by decide +kernel, by decide +kernel⟩, rfl, rfl, by decide, c_law_are_unlike, fun _ _ _ _ _ _ us hl => match us, hl with | [_], _ => rfl, rfl⟩
abbrev s_law_is_rule : Stmt := (top 31)
theorem c_law_is_rule : chSs Z n_law_is_rule ⟨defScope s_law_is_rule, none⟩ b_law_is_rule (defBody s_law_is_rule) = true := by kernel_rfl
def d_law_is_rule : He.DefD := ⟨("_law_is_rule", none), "_law_is_rule", "_law_is_rule", defArgs s_law_is_rule, defBody s_law_is_rule, defScope s_law_is_rule, [], []⟩
theorem k_law_is_rule : Pack Z f_law_is_rule d_law_is_rule n_law_is_rule p_law_is_rule := ⟨⟨rfl, rfl, rfl, by decide +kernel, rfl, by decide +kernel, by decide +kernel⟩, rfl, rfl, by decide, c_law_is_rule, fun _ _ _ _ _ _ us hl => match us, hl with | [_, _], _ => rfl, rfl⟩
abbrev s_law_due : Stmt := (top 32)
theorem c_law_due : chSs Z n_law_due ⟨defScope s_law_due, none⟩ b_law_due (defBody s_law_due) = true := by kernel_rfl
def d_law_due : He.DefD := ⟨("_law_due", none), "_law_due", "_law_due", defArgs s_law_due, defBody s_law_due, defScope s_law_due, [], []⟩
theorem k_law_due : Pack Z f_law_due d_law_due n_law_due p_law_due := ⟨⟨rfl, rfl, rfl, by decide +kernel, rfl, by decide +kernel, by decide +kernel⟩, rfl, rfl, by decide, c_law_due, fun _ _ _ _ _ _ us hl => match us, hl with | [_], _ => rfl, rfl⟩
abbrev s_law_bent_rules : Stmt := (top 33)
theorem c_law_bent_rules : chSs Z n_law_bent_rules ⟨defScope s_law_bent_rules, none⟩ b_law_bent_rules (defBody s_law_bent_rules) = true := by kernel_rfl
def d_law_bent_rules : He.DefD := ⟨("_law_bent_rules", none), "_law_bent_rules", "_law_bent_rules", defArgs s_law_bent_rules, defBody s_law_bent_rules, defScope s_law_bent_rules, [], []⟩
theorem k_law_bent_rules : Pack Z f_law_bent_rules d_law_bent_rules n_law_bent_rules p_law_bent_rules := ⟨⟨rfl, rfl, rfl, by decide +kernel, rfl, by decide +kernel, by decide +kernel⟩, rfl, rfl, by decide, c_law_bent_rules, fun _ _ _ _ _ _ us hl => match us, hl with | [_, _, _], _ => rfl, rfl⟩
abbrev s_law : Stmt := (top 34)
theorem c_law : chSs Z n_law ⟨defScope s_law, none⟩ b_law (defBody s_law) = true := by kernel_rfl
def d_law : He.DefD := ⟨("law", none), "law", "law", defArgs s_law, defBody s_law, defScope s_law, [], []⟩
theorem k_law : Pack Z f_law d_law n_law p_law := ⟨⟨rfl, rfl, rfl, by decide +kernel, rfl, by decide +kernel, by decide +kernel⟩, rfl, rfl, by decide, c_law, fun _ _ _ _ _ _ us hl => match us, hl with | [_], _ => rfl, rfl⟩
def fatL : List (Str × Option Str) := [("is_integer", none), ("is_name", none), ("are_unlike", none), ("is_rule", none), ("Book", some "__init__"), ("_law_tape", none), ("_law_pick", none), ("_law_one_of", none), ("_law_shuffled", none), ("_law_unlike", none), ("_law_alive", none), ("_law_drawn_rules", none), ("_law_drawn_plan", none), ("_law_is_number", none), ("_law_refused", none), ("_law_is_word", none), ("_law_are_unlike", none), ("_law_is_rule", none), ("_law_due", none), ("_law_bent_rules", none), ("law", none)]
def cnL : List Str := ["Book", "BadKinds", "BadHandles", "BadRules", "BadRule", "NamedTwice", "BadStart", "BadCount"]
def psL : List (List Str) := [p_is_integer, p_is_name, p_are_unlike, p_is_rule, p_Booku_initu, p_law_tape, p_law_pick, p_law_one_of, p_law_shuffled, p_law_unlike, p_law_alive, p_law_drawn_rules, p_law_drawn_plan, p_law_is_number, p_law_refused, p_law_is_word, p_law_are_unlike, p_law_is_rule, p_law_due, p_law_bent_rules, p_law]
def D : Dt := ⟨Z, clL, fnL, coL, cnL, fatL, psL⟩
def fnl : List He.DefD := [d_is_integer, d_is_name, d_are_unlike, d_is_rule, d_Booku_initu, d_law_tape, d_law_pick, d_law_one_of, d_law_shuffled, d_law_unlike, d_law_alive, d_law_drawn_rules, d_law_drawn_plan, d_law_is_number, d_law_refused, d_law_is_word, d_law_are_unlike, d_law_is_rule, d_law_due, d_law_bent_rules, d_law]
theorem packs : Packs D fnl := fun f d h => match f, h with
  | 0, h => by cases h; exact ⟨d_is_integer, n_is_integer, rfl, rfl, k_is_integer⟩
  | 1, h => by cases h; exact ⟨d_is_name, n_is_name, rfl, rfl, k_is_name⟩
  | 2, h => by cases h; exact ⟨d_are_unlike, n_are_unlike, rfl, rfl, k_are_unlike⟩
  | 3, h => by cases h; exact ⟨d_is_rule, n_is_rule, rfl, rfl, k_is_rule⟩
  | 4, h => by cases h; exact ⟨d_Booku_initu, n_Booku_initu, rfl, rfl, k_Booku_initu⟩
  | 5, h => by cases h; exact ⟨d_law_tape, n_law_tape, rfl, rfl, k_law_tape⟩
  | 6, h => by cases h; exact ⟨d_law_pick, n_law_pick, rfl, rfl, k_law_pick⟩
  | 7, h => by cases h; exact ⟨d_law_one_of, n_law_one_of, rfl, rfl, k_law_one_of⟩
  | 8, h => by cases h; exact ⟨d_law_shuffled, n_law_shuffled, rfl, rfl, k_law_shuffled⟩
  | 9, h => by cases h; exact ⟨d_law_unlike, n_law_unlike, rfl, rfl, k_law_unlike⟩
  | 10, h => by cases h; exact ⟨d_law_alive, n_law_alive, rfl, rfl, k_law_alive⟩
  | 11, h => by cases h; exact ⟨d_law_drawn_rules, n_law_drawn_rules, rfl, rfl, k_law_drawn_rules⟩
  | 12, h => by cases h; exact ⟨d_law_drawn_plan, n_law_drawn_plan, rfl, rfl, k_law_drawn_plan⟩
  | 13, h => by cases h; exact ⟨d_law_is_number, n_law_is_number, rfl, rfl, k_law_is_number⟩
  | 14, h => by cases h; exact ⟨d_law_refused, n_law_refused, rfl, rfl, k_law_refused⟩
  | 15, h => by cases h; exact ⟨d_law_is_word, n_law_is_word, rfl, rfl, k_law_is_word⟩
  | 16, h => by cases h; exact ⟨d_law_are_unlike, n_law_are_unlike, rfl, rfl, k_law_are_unlike⟩
  | 17, h => by cases h; exact ⟨d_law_is_rule, n_law_is_rule, rfl, rfl, k_law_is_rule⟩
  | 18, h => by cases h; exact ⟨d_law_due, n_law_due, rfl, rfl, k_law_due⟩
  | 19, h => by cases h; exact ⟨d_law_bent_rules, n_law_bent_rules, rfl, rfl, k_law_bent_rules⟩
  | 20, h => by cases h; exact ⟨d_law, n_law, rfl, rfl, k_law⟩
  | n + 21, h => by cases h
abbrev xs_1 : Stmt := (inCls (top 3) 0)
def x_1 : XD := ⟨"BadKinds", "value", "self", "value", "__init__", "BadKinds.__init__", defArgs xs_1, defBody xs_1, defScope xs_1⟩
theorem xp_1 : XPack x_1 := ⟨⟨_, _, _, _, _, _, _, _, _, _, _, _, rfl, fun env => ⟨_, rfl⟩⟩, ⟨rfl, rfl, rfl, by decide +kernel, by decide +kernel, by decide +kernel, by decide +kernel, rfl, rfl⟩, ⟨_, rfl, rfl⟩, by decide, by decide, by decide, by decide, fun _ _ _ _ _ _ _ us hl => match us, hl with | [_, _], _ => rfl⟩
abbrev xs_2 : Stmt := (inCls (top 4) 0)
def x_2 : XD := ⟨"BadHandles", "value", "self", "value", "__init__", "BadHandles.__init__", defArgs xs_2, defBody xs_2, defScope xs_2⟩
theorem xp_2 : XPack x_2 := ⟨⟨_, _, _, _, _, _, _, _, _, _, _, _, rfl, fun env => ⟨_, rfl⟩⟩, ⟨rfl, rfl, rfl, by decide +kernel, by decide +kernel, by decide +kernel, by decide +kernel, rfl, rfl⟩, ⟨_, rfl, rfl⟩, by decide, by decide, by decide, by decide, fun _ _ _ _ _ _ _ us hl => match us, hl with | [_, _], _ => rfl⟩
abbrev xs_3 : Stmt := (inCls (top 5) 0)
def x_3 : XD := ⟨"BadRules", "value", "self", "value", "__init__", "BadRules.__init__", defArgs xs_3, defBody xs_3, defScope xs_3⟩
theorem xp_3 : XPack x_3 := ⟨⟨_, _, _, _, _, _, _, _, _, _, _, _, rfl, fun env => ⟨_, rfl⟩⟩, ⟨rfl, rfl, rfl, by decide +kernel, by decide +kernel, by decide +kernel, by decide +kernel, rfl, rfl⟩, ⟨_, rfl, rfl⟩, by decide, by decide, by decide, by decide, fun _ _ _ _ _ _ _ us hl => match us, hl with | [_, _], _ => rfl⟩
abbrev xs_4 : Stmt := (inCls (top 6) 0)
def x_4 : XD := ⟨"BadRule", "number", "self", "number", "__init__", "BadRule.__init__", defArgs xs_4, defBody xs_4, defScope xs_4⟩
theorem xp_4 : XPack x_4 := ⟨⟨_, _, _, _, _, _, _, _, _, _, _, _, rfl, fun env => ⟨_, rfl⟩⟩, ⟨rfl, rfl, rfl, by decide +kernel, by decide +kernel, by decide +kernel, by decide +kernel, rfl, rfl⟩, ⟨_, rfl, rfl⟩, by decide, by decide, by decide, by decide, fun _ _ _ _ _ _ _ us hl => match us, hl with | [_, _], _ => rfl⟩
abbrev xs_5 : Stmt := (inCls (top 7) 0)
def x_5 : XD := ⟨"NamedTwice", "name", "self", "name", "__init__", "NamedTwice.__init__", defArgs xs_5, defBody xs_5, defScope xs_5⟩
theorem xp_5 : XPack x_5 := ⟨⟨_, _, _, _, _, _, _, _, _, _, _, _, rfl, fun env => ⟨_, rfl⟩⟩, ⟨rfl, rfl, rfl, by decide +kernel, by decide +kernel, by decide +kernel, by decide +kernel, rfl, rfl⟩, ⟨_, rfl, rfl⟩, by decide, by decide, by decide, by decide, fun _ _ _ _ _ _ _ us hl => match us, hl with | [_, _], _ => rfl⟩
abbrev xs_6 : Stmt := (inCls (top 8) 0)
def x_6 : XD := ⟨"BadStart", "value", "self", "value", "__init__", "BadStart.__init__", defArgs xs_6, defBody xs_6, defScope xs_6⟩
theorem xp_6 : XPack x_6 := ⟨⟨_, _, _, _, _, _, _, _, _, _, _, _, rfl, fun env => ⟨_, rfl⟩⟩, ⟨rfl, rfl, rfl, by decide +kernel, by decide +kernel, by decide +kernel, by decide +kernel, rfl, rfl⟩, ⟨_, rfl, rfl⟩, by decide, by decide, by decide, by decide, fun _ _ _ _ _ _ _ us hl => match us, hl with | [_, _], _ => rfl⟩
abbrev xs_7 : Stmt := (inCls (top 9) 0)
def x_7 : XD := ⟨"BadCount", "value", "self", "value", "__init__", "BadCount.__init__", defArgs xs_7, defBody xs_7, defScope xs_7⟩
theorem xp_7 : XPack x_7 := ⟨⟨_, _, _, _, _, _, _, _, _, _, _, _, rfl, fun env => ⟨_, rfl⟩⟩, ⟨rfl, rfl, rfl, by decide +kernel, by decide +kernel, by decide +kernel, by decide +kernel, rfl, rfl⟩, ⟨_, rfl, rfl⟩, by decide, by decide, by decide, by decide, fun _ _ _ _ _ _ _ us hl => match us, hl with | [_, _], _ => rfl⟩
def xl : List XD := [x_1, x_2, x_3, x_4, x_5, x_6, x_7]
theorem xpacks : XPacks D xl := fun c fl h => match c, h with
  | 0, h => by cases h
  | 1, h => by cases h; exact ⟨x_1, by simp [xl], rfl, rfl, xp_1⟩
  | 2, h => by cases h; exact ⟨x_2, by simp [xl], rfl, rfl, xp_2⟩
  | 3, h => by cases h; exact ⟨x_3, by simp [xl], rfl, rfl, xp_3⟩
  | 4, h => by cases h; exact ⟨x_4, by simp [xl], rfl, rfl, xp_4⟩
  | 5, h => by cases h; exact ⟨x_5, by simp [xl], rfl, rfl, xp_5⟩
  | 6, h => by cases h; exact ⟨x_6, by simp [xl], rfl, rfl, xp_6⟩
  | 7, h => by cases h; exact ⟨x_7, by simp [xl], rfl, rfl, xp_7⟩
  | n + 8, h => by cases h
theorem okD : D.Ok := ⟨rfl, rfl, rfl, by decide +kernel, fun k h => by
  have : (clL.all fun k => k.props.isEmpty) = true := rfl
  simpa using all_mem this h, fun i k h f e => by
  have z : ((List.range clL.length).all fun i => match (clL[i]?).bind Cl.init with
    | some f => (match fnL[f]? with
      | some d => decide (d.np ≠ 0)
      | none => false)
    | none => true) = true := by decide +kernel
  have z := all_range z (get_lt h)
  have h : clL[i]? = some k := h
  rw [h] at z
  simp only [Option.bind_some, e] at z
  cases q : fnL[f]? with
  | none => rw [q] at z; cases z
  | some d => rw [q] at z; exact ⟨d, d.np - 1, q, by have := of_decide_eq_true z; omega⟩, fun x f h => by
  have z : (glL.all fun p => match p.2 with
    | .fn f => (fnL[f]?).isSome
    | .cl _ => true) = true := by decide +kernel
  exact Option.isSome_iff_exists.mp (all_mem z (PySem.mem_of_lookup h)), rfl⟩
abbrev rowL : PySem.W.OpenLaw := PySem.Challenge.rw_farhandles_k03_books_refused
abbrev R : PySem.W.OpenRow := PySem.W.OpenLaw.row rowL
abbrev hk : PySem.W.Hook := hookQ D rowL.prog.main.file fnl xl 6
def ob (s : PySem.W.SharedT) : AlQ := obsGQ D rowL.prog.main.file fnl xl 6 (HandSHeadRun.getT s)
theorem ob_eq (s : PySem.W.SharedT) : ob s = hk.obs s.abs := obsGQ_eq (HandSHeadRun.getT_eq s)
def loose : List Str := ["_wall", "__name__", "HandleError", "BadKinds", "BadHandles", "BadRules", "BadRule", "NamedTwice", "BadStart", "BadCount", "LETTERS", "LONGEST", "is_integer", "is_name", "are_unlike", "is_rule", "Book", "_law_tape", "_law_pick", "_law_one_of", "_law_shuffled", "_law_unlike", "_law_alive", "_law_drawn_rules", "_law_drawn_plan", "_law_is_number", "_law_refused", "_law_is_word", "_law_are_unlike", "_law_is_rule", "_law_due", "_law_bent_rules"]
theorem ran (w : World) : HandSHeadRun.RunEq R (PySem.W.view R.prog [34]) hk ob 4000 loose w := by
  intro os
  kernel_rfl
end K03
end
section
set_option Elab.async false
namespace K03
open PySem PySem.Spec PyProof.Rows L2 PV
abbrev LEV : Nat := 14
end K03
open PySem PySem.W PySem.Calls PyProof.Rows
theorem PySem.Challenge.cw_farhandles_k03_books_refused_holds : PySem.Challenge.rw_farhandles_k03_books_refused.Holds := by
  w_on; o_law
  refine HandSHeadRun.head_any (r := K03.R) (q := view K03.R.prog [34]) (H := K03.hk) (ob := K03.ob) (M := 4000) (loose := K03.loose) (d := HandSHeadRun.topDef K03.R.prog 34) (kwd := []) K03.ob_eq
    (by kernel_rfl) (fun s => by kernel_rfl) K03.ran (by kernel_rfl) (by kernel_rfl) (by kernel_rfl) (by rfl) (by first | assumption | decide +kernel) (by decide +kernel) ⟨rfl, rfl, rfl, rfl, rfl, by decide +kernel⟩ ?hw ?hc
  case hw => w_witness2
  case hc =>
    exact PV.walk_D (D := K03.D) (l := K03.rowL) (m := 63) (lev := K03.LEV) (fL := 20) K03.okD K03.packs K03.xpacks (by kernel_rfl) rfl (by decide) (by kernel_rfl) ⟨rfl, by decide, by decide⟩ (by kernel_rfl) rfl rfl K03.pure_law
end
