import PyProof.Rows.All
import Wide.All
import OpenK.AllK
import Wide.FinOn
import HandS.ForMost
import HandS.ForExc
import HandS.Wide
import HandS.WideBits
import HandS.TupAny
import HandS.Codes
import HandS.IsInst
import HandS.SortInts
import HandS.HeadWalk
import HandS.CallRecv
import HandS.HeadHook2
import HandS.Flow
import HandS.HeadEnd
import HandS.Ends
import HandS.EndBits
import HandS.Words
import HandS.Head0
import HandS.Head1
import HandS.Head2
import PySem.Challenge.RW_odds_k58_nodes_of_a_store
set_option Elab.async false
set_option linter.all false
set_option maxRecDepth 100000
/-! Mn1: a small core language over the hand layer: values with tuples as data, a heap of lists, dicts and instances by number, programs as trees with slots, and what a program must satisfy to end as wished (we, ws: continuations). -/
namespace Mn
open PySem L2

/-! ### data -/
inductive Val where
  | non | bl (b : Bool) | int (i : Int) | str (x : Str) | tup (xs : List Val) | loc (l : Nat)
  deriving Inhabited
/-- what stands at a number of the heap; rol: a list that is only read -/
inductive MO where
  | lst (xs : List Val)
  | rol (xs : List Val)
  | dK (kvs : List (Key × Val))
  | dT (kvs : List (List Key × Val))
  | ins (c : Nat) (fs : List (Str × Val))
abbrev MH := List MO
abbrev Ev := List (Option Val)
structure Ex where
  c : Nat
  fs : List (Str × Val)
abbrev KV1 := Val → MH → Prop
abbrev KX1 := Ex → MH → Prop

/-! ### trees -/
inductive BO where
  | add | sub | mul | fdiv | mod | shl | shr | band | bor
inductive CO where
  | eq | ne | lt | le | gt | ge | isin | notin | is | isnot
inductive Bi where
  | len | min | max | abs | sum | sorted | list | tuple | int | str
inductive BM where
  | append | pop | get | insert | extend | reverse | join
inductive Ty where
  | int | bool | str | list | tuple
mutual
inductive E where
  | var (i : Nat) | con (v : Val)
  | bin (o : BO) (a b : E) | cmp (o : CO) (a b : E)
  | neg (a : E) | notv (a : E) | andv (a b : E) | orv (a b : E)
  | ite (c : B) (a b : E)
  | tup (es : Es) | lst (es : Es) | dnew (t : Bool) | ddisp (ks vs : Es)
  | item (a b : E) | sl (a : E) (lo hi : O)
  | fld (a : E) (f : Str)
  | call (f : Nat) (es : Es) | make (c : Nat) (es : Es) | meth (m : Str) (o : E) (es : Es)
  | blt (b : Bi) (es : Es) | bm (m : BM) (o : E) (es : Es)
  | isi (a : E) (t : Ty)
  | lc (tg : T) (it : It) (ifs : Bs) (own : List Nat) (el : E)
inductive O where
  | none | some (e : E)
inductive Es where
  | nil | cons (e : E) (es : Es)
inductive B where
  | e (a : E) | not (b : B) | and (a b : B) | or (a b : B)
inductive Bs where
  | nil | cons (b : B) (bs : Bs)
inductive T where
  | nm (i : Nat) | tup (ts : Ts) | sub (o i : E) | fld (o : E) (f : Str)
inductive Ts where
  | nil | cons (t : T) (ts : Ts)
inductive It where
  | val (e : E) | rng1 (a : E) | rng2 (a b : E) | enum (e : E) | zip (a b : E)
end
mutual
/-- the slots that a target of names fills -/
def T.sl : T → List Nat
  | .nm i => [i]
  | .tup ts => ts.sl
  | _ => []
def Ts.sl : Ts → List Nat
  | .nil => []
  | .cons t ts => t.sl ++ ts.sl
end
def Ts.len : Ts → Nat
  | .nil => 0
  | .cons _ ts => ts.len + 1
mutual
inductive S where
  | exp (e : E) | ret (e : E) | retN | asg (t : T) (e : E) | aug (i : Nat) (o : BO) (e : E)
  | ite (c : B) (a b : Ss) | whl (c : B) (b : Ss) | fr (t : T) (it : It) (b : Ss)
  | brk | cnt | pass | raise (c : Nat) | trye (b : Ss) (c : Nat) (s : Ss)
inductive Ss where
  | nil | cons (s : S) (ss : Ss)
end

/-! ### operations by values -/
def ncat (h : MH) (o : MO) : MH := h ++ [o]
def wbin : BO → Val → Val → MH → KV1 → Prop
  | .add, .int i, .int j, h, Q => Q (.int (i + j)) h
  | .add, .str a, .str b, h, Q => a.length + b.length ≤ sizeLine ∧ Q (.str (a ++ b)) h
  | .add, .tup xs, .tup ys, h, Q => xs.length + ys.length ≤ sizeLine ∧ Q (.tup (xs ++ ys)) h
  | .add, .loc a, .loc b, h, Q => (match h[a]?, h[b]? with
    | some (.lst xs), some (.lst ys) => xs.length + ys.length ≤ sizeLine ∧ Q (.loc h.length) (h ++ [.lst (xs ++ ys)])
    | _, _ => False)
  | .sub, .int i, .int j, h, Q => Q (.int (i - j)) h
  | .mul, .int i, .int j, h, Q => (CMul i j ∨ CMulW i j) ∧ Q (.int (i * j)) h
  | .mul, .loc a, .int k, h, Q => (match h[a]? with
    | some (.lst xs) => (-(2 ^ 63) ≤ k ∧ k < 2 ^ 63 ∧ xs.length * k.toNat ≤ sizeLine) ∧ Q (.loc h.length) (h ++ [.lst (List.replicate k.toNat xs).flatten])
    | _ => False)
  | .fdiv, .int i, .int j, h, Q => CDivN i j ∧ Q (.int (i.fdiv j)) h
  | .mod, .int i, .int j, h, Q => j ≠ 0 ∧ Q (.int (i.fmod j)) h
  | .shl, .int i, .int j, h, Q => (CPow i j ∨ CShl i j) ∧ Q (.int (i * 2 ^ j.toNat)) h
  | .shr, .int i, .int j, h, Q => 0 ≤ j ∧ Q (.int (i / 2 ^ j.toNat)) h
  | .band, .int i, .int j, h, Q => Q (.int (Builtin.bitAnd i j)) h
  | .bor, .int i, .int j, h, Q => Q (.int (Builtin.bitOr i j)) h
  | _, _, _, _, _ => False

/-- data, read through the heap -/
def toD (h : MH) : Nat → Val → Option PyData
  | _, .non => some .none
  | _, .bl b => some (.bool b)
  | _, .int i => some (.int i)
  | _, .str x => some (.str x)
  | 0, _ => none
  | n + 1, .tup xs => (xs.mapM (toD h n)).map PyData.tuple
  | n + 1, .loc l => (match h[l]? with
    | some (.lst xs) => (xs.mapM (toD h n)).map PyData.list
    | some (.rol xs) => (xs.mapM (toD h n)).map PyData.list
    | _ => none)
/-- == as a wish -/
def weq (x y : Val) (h : MH) (Q : Bool → Prop) : Prop :=
  match x, y with
  | .int i, .int j => Q (decide (i = j))
  | .str a, .str b => Q (decide (a = b))
  | .bl a, .bl b => Q (decide (a = b))
  | .non, .non => Q true
  | .int _, .str _ => Q false
  | .str _, .int _ => Q false
  | .bl _, .str _ => Q false
  | .str _, .bl _ => Q false
  | .non, .int _ => Q false
  | .int _, .non => Q false
  | .non, .str _ => Q false
  | .str _, .non => Q false
  | .non, .bl _ => Q false
  | .bl _, .non => Q false
  | x, y => (match toD h 8 x, toD h 8 y with
    | some d, some e => (SeqAt.shaped d = true ∧ SeqAt.shaped e = true) ∧ Q (PyData.eqv d e)
    | _, _ => False)
def flatM : Val → Bool
  | .non => true
  | .bl _ => true
  | .int _ => true
  | .str _ => true
  | _ => false
def eqM : Val → Val → Bool
  | .non, .non => true
  | .bl a, .bl b => a == b
  | .bl a, .int b => (if a then 1 else 0) == b
  | .int a, .bl b => a == (if b then 1 else 0)
  | .int a, .int b => a == b
  | .str a, .str b => a == b
  | _, _ => false
def keyM : Val → Option Key
  | .int i => some (.inl i)
  | .str x => some (.inr x)
  | _ => none
def lookM {α : Type} [DecidableEq α] (kvs : List (α × Val)) (k : α) : Option Val := (kvs.find? fun kv => decide (kv.1 = k)).map (·.2)
/-- d[k] as far as it is there -/
def getM (o : MO) (y : Val) (Q : Option Val → Prop) : Prop :=
  match o, y with
  | .dK kvs, .int i => Q (lookM kvs (.inl i))
  | .dK kvs, .str x => Q (lookM kvs (.inr x))
  | .dT kvs, .tup ks => (match ks.mapM keyM with
    | some k => Q (lookM kvs k)
    | none => False)
  | _, _ => False
def putM {α : Type} [DecidableEq α] (kvs : List (α × Val)) (k : α) (v : Val) : List (α × Val) :=
  if (kvs.any fun kv => decide (kv.1 = k)) = true then kvs.map (fun kv => if kv.1 = k then (kv.1, v) else kv) else kvs ++ [(k, v)]
def fputM : List (Str × Val) → Str → Val → List (Str × Val)
  | [], k, v => [(k, v)]
  | (k', v') :: r, k, v => if k' = k then (k', v) :: r else (k', v') :: fputM r k v
def win (x y : Val) (h : MH) (Q : Bool → Prop) : Prop :=
  match y with
  | .tup xs => (flatM x = true ∧ xs.all flatM = true) ∧ Q (xs.any fun z => eqM z x)
  | .loc l => (match h[l]? with
    | some (.lst xs) => (flatM x = true ∧ xs.all flatM = true) ∧ Q (xs.any fun z => eqM z x)
    | some (.rol xs) => (flatM x = true ∧ xs.all flatM = true) ∧ Q (xs.any fun z => eqM z x)
    | some o => getM o x fun r => Q r.isSome
    | none => False)
  | _ => False
def wcmp : CO → Val → Val → MH → (Bool → Prop) → Prop
  | .eq, x, y, h, Q => weq x y h Q
  | .ne, x, y, h, Q => weq x y h fun b => Q (!b)
  | .lt, .int i, .int j, _, Q => Q (decide (i < j))
  | .le, .int i, .int j, _, Q => Q (decide (i ≤ j))
  | .gt, .int i, .int j, _, Q => Q (decide (j < i))
  | .ge, .int i, .int j, _, Q => Q (decide (j ≤ i))
  | .isin, x, y, h, Q => win x y h Q
  | .notin, x, y, h, Q => win x y h fun b => Q (!b)
  | .is, .non, .non, _, Q => Q true
  | .is, .bl _, .non, _, Q => Q false
  | .is, .int _, .non, _, Q => Q false
  | .is, .str _, .non, _, Q => Q false
  | .is, .tup _, .non, _, Q => Q false
  | .is, .loc _, .non, _, Q => Q false
  | .isnot, .non, .non, _, Q => Q false
  | .isnot, .bl _, .non, _, Q => Q true
  | .isnot, .int _, .non, _, Q => Q true
  | .isnot, .str _, .non, _, Q => Q true
  | .isnot, .tup _, .non, _, Q => Q true
  | .isnot, .loc _, .non, _, Q => Q true
  | _, _, _, _, _ => False
/-- a value's truth -/
def wtru (x : Val) (h : MH) (Q : Bool → Prop) : Prop :=
  match x with
  | .non => Q false
  | .bl b => Q b
  | .int i => Q (i != 0)
  | .str y => y.length ≤ sizeLine ∧ Q ((y.length : Int) != 0)
  | .tup xs => Q (!xs.isEmpty)
  | .loc l => (match h[l]? with
    | some (.lst xs) => Q (!xs.isEmpty)
    | some (.rol xs) => Q (!xs.isEmpty)
    | some (.dK kvs) => Q (!kvs.isEmpty)
    | _ => False)
def wat (xs : List Val) (y : Val) (Q : Val → Prop) : Prop :=
  match y with
  | .int i => (match atI xs i with
    | some v => Q v
    | none => False)
  | _ => False
def wats (z : Str) (y : Val) (Q : Val → Prop) : Prop :=
  match y with
  | .int i => z.length ≤ sizeLine ∧ (match atI z.cps.toList i with
    | some c => Q (.str ⟨#[c]⟩)
    | none => False)
  | _ => False
def there (r : Option Val) (Q : Val → Prop) : Prop :=
  match r with
  | some v => Q v
  | none => False
def witem (x y : Val) (h : MH) (Q : Val → Prop) : Prop :=
  match x with
  | .tup xs => wat xs y Q
  | .str z => wats z y Q
  | .loc l => (match h[l]? with
    | some (.lst xs) => wat xs y Q
    | some (.rol xs) => wat xs y Q
    | some o => getM o y fun r => there r Q
    | none => False)
  | _ => False
def cutM {α : Type} (xs : List α) (lo hi : Option Int) : List α := (xs.drop (HT.sIx xs.length 0 lo)).take (HT.sIx xs.length xs.length hi - HT.sIx xs.length 0 lo)
def wslice (x : Val) (lo hi : Option Int) (h : MH) (Q : KV1) : Prop :=
  match x with
  | .tup xs => Q (.tup (cutM xs lo hi)) h
  | .str z => z.length ≤ sizeLine ∧ Q (.str (Txt.slice z lo hi)) h
  | .loc l => (match h[l]? with
    | some (.lst xs) => Q (.loc h.length) (h ++ [.lst (cutM xs lo hi)])
    | some (.rol xs) => Q (.loc h.length) (h ++ [.lst (cutM xs lo hi)])
    | _ => False)
  | _ => False
def asI : Val → Option Int
  | .int i => some i
  | _ => none
def asS : Val → Option Str
  | .str x => some x
  | _ => none
/-- the list at a number -/
def seqM (x : Val) (h : MH) : Option (List Val) :=
  match x with
  | .tup xs => some xs
  | .loc l => (match h[l]? with
    | some (.lst xs) => some xs
    | some (.rol xs) => some xs
    | _ => none)
  | _ => none
def least : List Int → Int
  | [] => 0
  | [x] => x
  | x :: xs => min x (least xs)
def greatest : List Int → Int
  | [] => 0
  | [x] => x
  | x :: xs => max x (greatest xs)
def wbi : Bi → List Val → MH → KV1 → Prop
  | .len, [.tup xs], h, Q => Q (.int xs.length) h
  | .len, [.str z], h, Q => z.length ≤ sizeLine ∧ Q (.int z.length) h
  | .len, [.loc l], h, Q => (match h[l]? with
    | some (.lst xs) => Q (.int xs.length) h
    | some (.rol xs) => Q (.int xs.length) h
    | some (.dK kvs) => Q (.int kvs.length) h
    | _ => False)
  | .int, [.int i], h, Q => Q (.int i) h
  | .int, [.bl b], h, Q => Q (.int (if b then 1 else 0)) h
  | .abs, [.int i], h, Q => Q (.int (if i < 0 then -i else i)) h
  | .max, [.int i, .int j], h, Q => Q (.int (if j > i then j else i)) h
  | .min, [.int i, .int j], h, Q => Q (.int (if j < i then j else i)) h
  | .max, [.loc l], h, Q => (match h[l]? with
    | some (.lst xs) => (match xs.mapM asI with
      | some ns => 0 < ns.length ∧ Q (.int (greatest ns)) h
      | none => False)
    | _ => False)
  | .min, [.loc l], h, Q => (match h[l]? with
    | some (.lst xs) => (match xs.mapM asI with
      | some ns => 0 < ns.length ∧ Q (.int (least ns)) h
      | none => False)
    | _ => False)
  | .sum, [.loc l], h, Q => (match h[l]? with
    | some (.lst xs) => (match xs.mapM asI with
      | some ns => Q (.int ns.sum) h
      | none => False)
    | _ => False)
  | .list, [x], h, Q => (match seqM x h with
    | some xs => Q (.loc h.length) (h ++ [.lst xs])
    | none => False)
  | .tuple, [x], h, Q => (match seqM x h with
    | some xs => Q (.tup xs) h
    | none => False)
  | .str, [.int i], h, Q => i.natAbs.log2 < 1920 ∧ Q (.str (toString i)) h
  | _, _, _, _ => False
def wbm : BM → Val → List Val → MH → KV1 → Prop
  | .append, .loc l, [v], h, Q => (match h[l]? with
    | some (.lst xs) => xs.length < sizeLine ∧ Q .non (h.set l (.lst (xs ++ [v])))
    | _ => False)
  | .pop, .loc l, [], h, Q => (match h[l]? with
    | some (.lst xs) => (match xs[xs.length - 1]? with
      | some v => Q v (h.set l (.lst xs.dropLast))
      | none => False)
    | _ => False)
  | .get, .loc l, [k, d], h, Q => (match h[l]? with
    | some o => getM o k fun r => Q (r.getD d) h
    | none => False)
  | .join, .str a, [.loc l], h, Q => (match h[l]? with
    | some (.lst xs) => (match xs.mapM asS with
      | some ys => (ys.map (·.length)).sum + ys.length * a.length ≤ 16777216 ∧ Q (.str (Txt.join a ys)) h
      | none => False)
    | _ => False)
  | _, _, _, _, _ => False
/-- the receiver's kind -/
def bmk : BM → Val → MH → Prop
  | .get, .loc l, h => (match h[l]? with
    | some (.dK _) => True
    | some (.dT _) => True
    | _ => False)
  | .join, .str _, _ => True
  | .join, _, _ => False
  | _, .loc l, h => (match h[l]? with
    | some (.lst _) => True
    | _ => False)
  | _, _, _ => False
def tBl : Ty → Bool
  | .int => true | .bool => true | _ => false
def tIn : Ty → Bool
  | .int => true | _ => false
def tSt : Ty → Bool
  | .str => true | _ => false
def tTu : Ty → Bool
  | .tuple => true | _ => false
def tLi : Ty → Bool
  | .list => true | _ => false
def isM (x : Val) (h : MH) (t : Ty) (Q : Bool → Prop) : Prop :=
  match x with
  | .non => Q false
  | .bl _ => Q (tBl t)
  | .int _ => Q (tIn t)
  | .str _ => Q (tSt t)
  | .tup _ => Q (tTu t)
  | .loc l => (match h[l]? with
    | some (.lst _) => Q (tLi t)
    | some (.rol _) => Q (tLi t)
    | _ => False)
def fgetM (fs : List (Str × Val)) (f : Str) : Option Val := (fs.find? fun p => decide (p.1 = f)).map (·.2)
def wputL (xs : List Val) (i v : Val) (Q : List Val → Prop) : Prop :=
  match i with
  | .int k => (match ixN xs.length k with
    | some j => Q (xs.set j v)
    | none => False)
  | _ => False
def wputK (kvs : List (Key × Val)) (i v : Val) (Q : List (Key × Val) → Prop) : Prop :=
  match keyM i with
  | some k => kvs.length < sizeLine ∧ Q (putM kvs k v)
  | none => False
def wputT (kvs : List (List Key × Val)) (i v : Val) (Q : List (List Key × Val) → Prop) : Prop :=
  match i with
  | .tup ks => (match ks.mapM keyM with
    | some k => kvs.length < sizeLine ∧ Q (putM kvs k v)
    | none => False)
  | _ => False
/-- o[i] = v -/
def wset (o i v : Val) (h : MH) (Q : MH → Prop) : Prop :=
  match o with
  | .loc l => (match h[l]? with
    | some (.lst xs) => wputL xs i v fun ys => Q (h.set l (.lst ys))
    | some (.dK kvs) => wputK kvs i v fun ys => Q (h.set l (.dK ys))
    | some (.dT kvs) => wputT kvs i v fun ys => Q (h.set l (.dT ys))
    | _ => False)
  | _ => False
def wfset (na : Nat → Str → Bool) (o v : Val) (f : Str) (h : MH) (Q : MH → Prop) : Prop :=
  match o with
  | .loc l => (match h[l]? with
    | some (.ins c fs) => (na c f = true ∧ fs.length < 1000) ∧ Q (h.set l (.ins c (fputM fs f v)))
    | _ => False)
  | _ => False
def wipeM (e : Ev) : List Nat → Ev
  | [] => e
  | v :: vs => (wipeM e vs).set v none

/-! ### iterators: the item at a turn -/
/-- none: not to be walked; some none: the end -/
abbrev Nx := Nat → MH → Option (Option Val)
def nxSeq (x : Val) : Nx := fun i h => (seqM x h).map fun xs => xs[i]?
def nxRng (lo : Int) (n : Nat) : Nx := fun i _ => some (if i < n then some (.int (lo + i)) else none)
def nxRngC (lo c : Int) (n : Nat) : Nx := fun i _ => some (if i < n then some (.int (lo + i * c)) else none)
def nxEnum (l : Nat) : Nx := fun i h => (match h[l]? with
  | some (.lst xs) => some ((xs[i]?).map fun v => .tup [.int i, v])
  | _ => none)

/-! ### the tables of a program -/
structure FnD where
  np : Nat
  ns : Nat
  body : Ss
structure Tab where
  fns : List FnD
  /-- a class: its __init__, its methods -/
  cls : List (Option Nat × List (Str × Nat))
  /-- exception classes: x is a subclass of y -/
  sub : Nat → Nat → Bool
  /-- the class has no attribute of this name -/
  na : Nat → Str → Bool
  /-- how many exception classes -/
  nx : Nat
abbrev CW := Nat → List Val → MH → KV1 → KX1 → Prop

/-! ### expressions -/
section
variable (G : Tab) (C Cm : CW)
mutual
def we : E → Ev → MH → KV1 → KX1 → Prop
  | .var i, env, h, Q, _ => (match env[i]? with
    | some (some v) => Q v h
    | _ => False)
  | .con v, _, h, Q, _ => Q v h
  | .bin o a b, env, h, Q, W => we a env h (fun x h1 => we b env h1 (fun y h2 => wbin o x y h2 Q) W) W
  | .cmp o a b, env, h, Q, W => we a env h (fun x h1 => we b env h1 (fun y h2 => wcmp o x y h2 fun r => Q (.bl r) h2) W) W
  | .neg a, env, h, Q, W => we a env h (fun x h1 => match x with
    | .int i => Q (.int (-i)) h1
    | _ => False) W
  | .notv a, env, h, Q, W => we a env h (fun x h1 => wtru x h1 fun r => Q (.bl (!r)) h1) W
  | .andv a b, env, h, Q, W => we a env h (fun x h1 => match x with
    | .bl r => if r = true then we b env h1 Q W else Q (.bl false) h1
    | _ => False) W
  | .orv a b, env, h, Q, W => we a env h (fun x h1 => match x with
    | .bl r => if r = true then Q (.bl true) h1 else we b env h1 Q W
    | _ => False) W
  | .ite c a b, env, h, Q, W => wt c env h (fun r h1 => if r = true then we a env h1 Q W else we b env h1 Q W) W
  | .tup es, env, h, Q, W => wes es env h (fun xs h1 => xs.length ≤ sizeLine ∧ Q (.tup xs) h1) W
  | .lst es, env, h, Q, W => wes es env h (fun xs h1 => xs.length ≤ sizeLine ∧ Q (.loc h1.length) (h1 ++ [.lst xs])) W
  | .dnew t, _, h, Q, _ => Q (.loc h.length) (h ++ [if t = true then .dT [] else .dK []])
  | .ddisp _ _, _, _, _, _ => False
  | .item a b, env, h, Q, W => we a env h (fun x h1 => we b env h1 (fun y h2 => witem x y h2 fun v => Q v h2) W) W
  | .sl a lo hi, env, h, Q, W => we a env h (fun x h1 => wo lo env h1 (fun l h2 => wo hi env h2 (fun u h3 => wslice x l u h3 Q) W) W) W
  | .fld a f, env, h, Q, W => we a env h (fun x h1 => match x with
    | .loc l => (match h1[l]? with
      | some (.ins c fs) => G.na c f = true ∧ there (fgetM fs f) fun v => Q v h1
      | _ => False)
    | _ => False) W
  | .call f es, env, h, Q, W => wes es env h (fun xs h1 => C f xs h1 Q W) W
  | .make c es, env, h, Q, W => wes es env h (fun xs h1 => match G.cls[c]? with
    | some (some f, _) => Cm f (.loc h1.length :: xs) (h1 ++ [.ins c []]) (fun v h2 => (match v with
      | .non => Q (.loc h1.length) h2
      | _ => False)) W
    | _ => False) W
  | .meth m o es, env, h, Q, W => we o env h (fun x h1 => match x with
    | .loc l => (match h1[l]? with
      | some (.ins c fs) => (match G.cls[c]? with
        | some (_, ms) => (match (ms.find? fun p => decide (p.1 = m)) with
          | some (_, f) => fgetM fs m = none ∧ wes es env h1 (fun xs h2 => C f (x :: xs) h2 Q W) W
          | none => False)
        | none => False)
      | _ => False)
    | _ => False) W
  | .blt b es, env, h, Q, W => wes es env h (fun xs h1 => wbi b xs h1 Q) W
  | .bm m o es, env, h, Q, W => we o env h (fun x h1 => bmk m x h1 ∧ wes es env h1 (fun xs h2 => wbm m x xs h2 Q) W) W
  | .isi a t, env, h, Q, W => we a env h (fun x h1 => isM x h1 t fun r => Q (.bl r) h1) W
  | .lc tg it ifs own el, env, h, Q, W => wit it env h (fun nx h1 => ∃ I : Nat → Nat → MH → Prop, (∃ m, I 0 m (h1 ++ [.lst []])) ∧ ∀ i m h2, I i m h2 → (match nx i h2 with
    | none => False
    | some none => Q (.loc h1.length) h2
    | some (some v) => wtg tg v (wipeM env own) h2 (fun env2 h3 => wbs ifs env2 h3 (fun r h4 => if r = true then
        we el env2 h4 (fun y h5 => (match h5[h1.length]? with
          | some (.lst acc) => acc.length < sizeLine ∧ ∃ m', m' < m ∧ I (i + 1) m' (h5.set h1.length (.lst (acc ++ [y])))
          | _ => False)) (fun _ _ => False)
        else ∃ m', m' < m ∧ I (i + 1) m' h4) (fun _ _ => False)) (fun _ _ => False))) W
def wo : O → Ev → MH → (Option Int → MH → Prop) → KX1 → Prop
  | .none, _, h, Q, _ => Q none h
  | .some e, env, h, Q, W => we e env h (fun x h1 => match x with
    | .int i => Q (some i) h1
    | _ => False) W
def wes : Es → Ev → MH → (List Val → MH → Prop) → KX1 → Prop
  | .nil, _, h, Q, _ => Q [] h
  | .cons e es, env, h, Q, W => we e env h (fun x h1 => wes es env h1 (fun xs h2 => Q (x :: xs) h2) W) W
def wt : B → Ev → MH → (Bool → MH → Prop) → KX1 → Prop
  | .e a, env, h, Q, W => we a env h (fun x h1 => wtru x h1 fun r => Q r h1) W
  | .not b, env, h, Q, W => wt b env h (fun r h1 => Q (!r) h1) W
  | .and a b, env, h, Q, W => wt a env h (fun r h1 => if r = true then wt b env h1 Q W else Q false h1) W
  | .or a b, env, h, Q, W => wt a env h (fun r h1 => if r = true then Q true h1 else wt b env h1 Q W) W
def wbs : Bs → Ev → MH → (Bool → MH → Prop) → KX1 → Prop
  | .nil, _, h, Q, _ => Q true h
  | .cons b bs, env, h, Q, W => wt b env h (fun r h1 => if r = true then wbs bs env h1 Q W else Q false h1) W
def wtg : T → Val → Ev → MH → (Ev → MH → Prop) → KX1 → Prop
  | .nm i, v, env, h, Q, _ => Q (env.set i (some v)) h
  | .tup ts, v, env, h, Q, _ => (match v with
    | .tup xs => xs.length = ts.len ∧ wtgs ts xs env h Q
    | _ => False)
  | .sub o i, v, env, h, Q, W => we o env h (fun x h1 => we i env h1 (fun y h2 => wset x y v h2 fun h3 => Q env h3) W) W
  | .fld o f, v, env, h, Q, W => we o env h (fun x h1 => wfset G.na x v f h1 fun h2 => Q env h2) W
def wtgs : Ts → List Val → Ev → MH → (Ev → MH → Prop) → Prop
  | .nil, vs, env, h, Q => (match vs with
    | [] => Q env h
    | _ => False)
  | .cons t ts, vs, env, h, Q => (match vs with
    | v :: r => wtg t v env h (fun env1 h1 => wtgs ts r env1 h1 Q) (fun _ _ => False)
    | [] => False)
def wit : It → Ev → MH → (Nx → MH → Prop) → KX1 → Prop
  | .val e, env, h, Q, W => we e env h (fun x h1 => match seqM x h1 with
    | some _ => Q (nxSeq x) h1
    | none => False) W
  | .rng1 a, env, h, Q, W => we a env h (fun x h1 => match x with
    | .int j => (-(2 ^ 62) ≤ j ∧ j < 2 ^ 62) ∧ Q (nxRng 0 j.toNat) h1
    | _ => False) W
  | .rng2 a b, env, h, Q, W => we a env h (fun x h1 => we b env h1 (fun y h2 => match x, y with
    | .int i, .int j => (-(2 ^ 62) ≤ i ∧ i < 2 ^ 62 ∧ -(2 ^ 62) ≤ j ∧ j < 2 ^ 62) ∧ Q (nxRng i (j - i).toNat) h2
    | _, _ => False) W) W
  | .enum e, env, h, Q, W => we e env h (fun x h1 => match x with
    | .loc l => (match h1[l]? with
      | some (.lst _) => Q (nxEnum l) h1
      | _ => False)
    | _ => False) W
  | .zip _ _, _, _, _, _ => False
end

/-! ### statements -/
structure Ed where
  nx : Ev → MH → Prop
  rt : KV1
  bk : Ev → MH → Prop := fun _ _ => False
  ct : Ev → MH → Prop := fun _ _ => False
  ex : Ex → Ev → MH → Prop
mutual
def ws : S → Ev → MH → Ed → Prop
  | .exp e, env, h, D => we G C Cm e env h (fun _ h1 => D.nx env h1) (fun x h1 => D.ex x env h1)
  | .ret e, env, h, D => we G C Cm e env h D.rt (fun x h1 => D.ex x env h1)
  | .retN, _, h, D => D.rt .non h
  | .asg t e, env, h, D => we G C Cm e env h (fun v h1 => wtg G C Cm t v env h1 D.nx (fun x h1 => D.ex x env h1)) (fun x h1 => D.ex x env h1)
  | .aug i o e, env, h, D => (match env[i]? with
    | some (some x) => we G C Cm e env h (fun y h1 => wbin o x y h1 fun z h2 => D.nx (env.set i (some z)) h2) (fun x h1 => D.ex x env h1)
    | _ => False)
  | .ite c a b, env, h, D => wt G C Cm c env h (fun r h1 => if r = true then wss a env h1 D else wss b env h1 D) (fun x h1 => D.ex x env h1)
  | .whl c b, env, h, D => ∃ I : Nat → Ev → MH → Prop, (∃ m, I m env h) ∧ ∀ m env h, I m env h → wt G C Cm c env h (fun r h1 => if r = true then
      wss b env h1 { D with nx := fun e' h' => ∃ m', m' < m ∧ I m' e' h', ct := fun e' h' => ∃ m', m' < m ∧ I m' e' h', bk := D.nx } else D.nx env h1) (fun x h1 => D.ex x env h1)
  | .fr t it b, env, h, D => wit G C Cm it env h (fun nx h1 => ∃ I : Nat → Nat → Ev → MH → Prop, (∃ m, I 0 m env h1) ∧ ∀ i m env h, I i m env h → (match nx i h with
    | none => False
    | some none => D.nx env h
    | some (some v) => wtg G C Cm t v env h (fun env1 h1 => wss b env1 h1 { D with nx := fun e' h' => ∃ m', m' < m ∧ I (i + 1) m' e' h', ct := fun e' h' => ∃ m', m' < m ∧ I (i + 1) m' e' h', bk := D.nx }) (fun x h1 => D.ex x env h1))) (fun x h1 => D.ex x env h1)
  | .brk, env, h, D => D.bk env h
  | .cnt, env, h, D => D.ct env h
  | .pass, env, h, D => D.nx env h
  | .raise c, env, h, D => D.ex ⟨c, []⟩ env h
  | .trye b c s, env, h, D => wss b env h { D with ex := fun x e' h' => if G.sub x.c c = true then wss s e' h' { D with ex := fun _ _ _ => False } else D.ex x e' h' }
def wss : Ss → Ev → MH → Ed → Prop
  | .nil, env, h, D => D.nx env h
  | .cons s ss, env, h, D => ws s env h { D with nx := fun e' h' => wss ss e' h' D }
end
end
/-- a def called: by levels -/
def wcp (G : Tab) : Nat → CW × CW
  | 0 => (fun _ _ _ _ _ => False, fun _ _ _ _ _ => False)
  | n + 1 => (fun f args h Q W => (match G.fns[f]? with
    | some d => args.length = d.np ∧ wss G (wcp G n).1 (wcp G n).2 d.body (args.map some ++ List.replicate (d.ns - args.length) none) h { nx := fun _ h' => Q .non h', rt := Q, ex := fun x _ h' => W x h' }
    | none => False), (wcp G n).1)
def wcall (G : Tab) (n : Nat) : CW := (wcp G n).1
end Mn

/-! Mn2: how the core language's data lies in the hand layer's abstract heap. -/
namespace Mn
open PySem PySem.Spec PyProof.Rows L2
abbrev St := L2.St

mutual
inductive RV (H : Hp) (ms : List Addr) : Val → V → Prop
  | non : RV H ms .non .non
  | bl (b : Bool) : RV H ms (.bl b) (.bl b)
  | int (i : Int) : RV H ms (.int i) (.int i)
  | str (x : Str) : RV H ms (.str x) (.str x)
  | tup {a : Addr} {vs : List V} {xs : List Val} : H a = some (.tup vs) → RVs H ms xs vs → RV H ms (.tup xs) (.ref a)
  | loc {l : Nat} {a : Addr} : ms[l]? = some a → RV H ms (.loc l) (.ref a)
inductive RVs (H : Hp) (ms : List Addr) : List Val → List V → Prop
  | nil : RVs H ms [] []
  | cons {x : Val} {v : V} {xs : List Val} {vs : List V} : RV H ms x v → RVs H ms xs vs → RVs H ms (x :: xs) (v :: vs)
end
/-- later: more numbers, the tuples as they were -/
structure Xt (ms : List Addr) (H : Hp) (ms' : List Addr) (H' : Hp) : Prop where
  pre : ∀ (l : Nat) (a : Addr), ms[l]? = some a → ms'[l]? = some a
  tup : ∀ (a : Addr) (vs : List V), H a = some (.tup vs) → H' a = some (.tup vs)
theorem Xt.refl (ms : List Addr) (H : Hp) : Xt ms H ms H := ⟨fun _ _ h => h, fun _ _ h => h⟩
theorem Xt.trans {ms ms1 ms2 : List Addr} {H H1 H2 : Hp} (a : Xt ms H ms1 H1) (b : Xt ms1 H1 ms2 H2) : Xt ms H ms2 H2 := ⟨fun l c h => b.pre l c (a.pre l c h), fun c vs h => b.tup c vs (a.tup c vs h)⟩
mutual
theorem RV.mono {ms ms' : List Addr} {H H' : Hp} (x : Xt ms H ms' H') : ∀ {v : Val} {V : V}, RV H ms v V → RV H' ms' v V
  | _, _, .non => .non
  | _, _, .bl b => .bl b
  | _, _, .int i => .int i
  | _, _, .str z => .str z
  | _, _, .tup h r => .tup (x.tup _ _ h) (RVs.mono x r)
  | _, _, .loc h => .loc (x.pre _ _ h)
theorem RVs.mono {ms ms' : List Addr} {H H' : Hp} (x : Xt ms H ms' H') : ∀ {vs : List Val} {Vs : List V}, RVs H ms vs Vs → RVs H' ms' vs Vs
  | _, _, .nil => .nil
  | _, _, .cons a b => .cons (RV.mono x a) (RVs.mono x b)
end
section
variable {H H' : Hp} {ms ms' : List Addr}
theorem RVs.length : ∀ {xs : List Val} {vs : List V}, RVs H ms xs vs → xs.length = vs.length
  | _, _, .nil => rfl
  | _, _, .cons _ t => by simp [RVs.length t]
theorem RVs.get : ∀ {xs : List Val} {vs : List V} {i : Nat} {x : Val}, RVs H ms xs vs → xs[i]? = some x → ∃ v, vs[i]? = some v ∧ RV H ms x v
  | _, _, _, _, .nil, e => by simp at e
  | _, _, 0, _, .cons r _, e => by simp at e; subst e; exact ⟨_, rfl, r⟩
  | _, _, i + 1, x, .cons _ t, e => by
    obtain ⟨u, h1, h2⟩ := RVs.get (i := i) (x := x) t (by simpa using e)
    exact ⟨u, by simpa using h1, h2⟩
theorem RVs.getV : ∀ {xs : List Val} {vs : List V} {i : Nat} {v : V}, RVs H ms xs vs → vs[i]? = some v → ∃ x, xs[i]? = some x ∧ RV H ms x v
  | _, _, _, _, .nil, e => by simp at e
  | _, _, 0, _, .cons r _, e => by simp at e; subst e; exact ⟨_, rfl, r⟩
  | _, _, i + 1, x, .cons _ t, e => by
    obtain ⟨u, h1, h2⟩ := RVs.getV (i := i) (v := x) t (by simpa using e)
    exact ⟨u, by simpa using h1, h2⟩
theorem RVs.append : ∀ {xs ys : List Val} {vs us : List V}, RVs H ms xs vs → RVs H ms ys us → RVs H ms (xs ++ ys) (vs ++ us)
  | _, _, _, _, .nil, h => h
  | _, _, _, _, .cons a t, h => .cons a (RVs.append t h)
theorem RVs.take : ∀ {xs : List Val} {vs : List V} (n : Nat), RVs H ms xs vs → RVs H ms (xs.take n) (vs.take n)
  | _, _, 0, _ => by simp; exact .nil
  | _, _, _ + 1, .nil => by simp; exact .nil
  | _, _, n + 1, .cons a t => by simp; exact .cons a (RVs.take n t)
theorem RVs.drop : ∀ {xs : List Val} {vs : List V} (n : Nat), RVs H ms xs vs → RVs H ms (xs.drop n) (vs.drop n)
  | _, _, 0, h => by simpa using h
  | _, _, _ + 1, .nil => by simp; exact .nil
  | _, _, n + 1, .cons a t => by simpa using RVs.drop n t
theorem RVs.set : ∀ {xs : List Val} {vs : List V} (n : Nat) {x : Val} {v : V}, RVs H ms xs vs → RV H ms x v → RVs H ms (xs.set n x) (vs.set n v)
  | _, _, _, _, _, .nil, _ => by simp; exact .nil
  | _, _, 0, _, _, .cons a t, h => by simp; exact .cons h t
  | _, _, n + 1, _, _, .cons a t, h => by simp; exact .cons a (RVs.set n t h)
theorem RVs.flat {xs : List Val} {vs : List V} (h : RVs H ms xs vs) : ∀ k, RVs H ms (List.replicate k xs).flatten (List.replicate k vs).flatten
  | 0 => by simp; exact .nil
  | k + 1 => by simp only [List.replicate_succ, List.flatten_cons]; exact h.append (RVs.flat h k)
theorem RVs.dropLast {xs : List Val} {vs : List V} (h : RVs H ms xs vs) : RVs H ms xs.dropLast vs.dropLast := by
  rw [List.dropLast_eq_take, List.dropLast_eq_take, h.length]
  exact h.take _
theorem RVs.isEmpty {xs : List Val} {vs : List V} (h : RVs H ms xs vs) : xs.isEmpty = vs.isEmpty := by cases h <;> rfl
theorem RVs.cut {xs : List Val} {vs : List V} (h : RVs H ms xs vs) (lo hi : Option Int) : RVs H ms (cutM xs lo hi) (cutV vs lo hi) := by
  unfold cutM cutV
  rw [h.length]
  exact (h.drop _).take _
theorem RVs.at {xs : List Val} {vs : List V} (h : RVs H ms xs vs) {i : Int} {x : Val} (e : atI xs i = some x) : ∃ v, atI vs i = some v ∧ RV H ms x v := by
  unfold atI at e ⊢
  rw [h.length] at e
  cases q : ixN vs.length i with
  | none => rw [q] at e; cases e
  | some j =>
    rw [q] at e
    exact h.get e
/-- the values of keys -/
abbrev RK {α : Type} (H : Hp) (ms : List Addr) : List (α × Val) → List (α × V) → Prop := Paired fun p q => p.1 = q.1 ∧ RV H ms p.2 q.2
theorem RK.mono {α : Type} {l : List (α × Val)} {k : List (α × V)} (x : Xt ms H ms' H') (h : RK H ms l k) : RK H' ms' l k := Paired.mapP h fun _ _ z => ⟨z.1, z.2.mono x⟩
theorem RK.look {α : Type} [DecidableEq α] : ∀ {l : List (α × Val)} {k : List (α × V)}, RK H ms l k → ∀ y : α, (lookM l y = none ∧ valV k y = none) ∨ ∃ v u, lookM l y = some v ∧ valV k y = some u ∧ RV H ms v u
  | _, _, .nil, y => .inl ⟨rfl, rfl⟩
  | p :: l, q :: k, .cons r t, y => by
    unfold lookM valV
    rw [List.find?_cons, List.find?_cons, ← r.1]
    by_cases e : p.1 = y
    · rw [decide_eq_true e]
      exact .inr ⟨p.2, q.2, rfl, rfl, r.2⟩
    · rw [decide_eq_false e]
      exact RK.look t y
theorem RK.any {α : Type} [DecidableEq α] : ∀ {l : List (α × Val)} {k : List (α × V)} (y : α), RK H ms l k → (l.any fun kv => decide (kv.1 = y)) = (k.any fun kv => decide (kv.1 = y))
  | _, _, y, .nil => rfl
  | p :: l, q :: k, y, .cons s t => by rw [List.any_cons, List.any_cons, RK.any y t, s.1]
theorem RK.snoc {α : Type} : ∀ {l : List (α × Val)} {k : List (α × V)} (y : α) {v : Val} {u : V}, RK H ms l k → RV H ms v u → RK H ms (l ++ [(y, v)]) (k ++ [(y, u)])
  | _, _, y, v, u, .nil, r => .cons ⟨rfl, r⟩ .nil
  | p :: l, q :: k, y, v, u, .cons s t, r => .cons s (RK.snoc y t r)
theorem RK.mapP {α : Type} [DecidableEq α] : ∀ {l : List (α × Val)} {k : List (α × V)} (y : α) {v : Val} {u : V}, RK H ms l k → RV H ms v u →
    RK H ms (l.map fun kv => if kv.1 = y then (kv.1, v) else kv) (k.map fun kv => if kv.1 = y then (kv.1, u) else kv)
  | _, _, y, v, u, .nil, r => .nil
  | p :: l, q :: k, y, v, u, .cons s t, r => by
    rw [List.map_cons, List.map_cons]
    refine .cons ?_ (RK.mapP y t r)
    rw [s.1]
    by_cases e : q.1 = y
    · rw [if_pos e, if_pos e]; exact ⟨rfl, r⟩
    · rw [if_neg e, if_neg e]; exact s
theorem RK.put {α : Type} [DecidableEq α] {l : List (α × Val)} {k : List (α × V)} (y : α) {v : Val} {u : V} (h : RK H ms l k) (r : RV H ms v u) : RK H ms (putM l y v) (putK k y u) := by
  unfold putM putK
  rw [RK.any y h]
  split
  · exact RK.mapP y h r
  · exact RK.snoc y h r
theorem RK.len {α : Type} {l : List (α × Val)} {k : List (α × V)} (h : RK H ms l k) : l.length = k.length := Paired.length h
theorem RK.field : ∀ {l : List (Str × Val)} {k : List (Str × V)}, RK H ms l k → ∀ f : Str, (fgetM l f = none ∧ k.lookup f = none) ∨ ∃ v u, fgetM l f = some v ∧ k.lookup f = some u ∧ RV H ms v u
  | _, _, .nil, y => .inl ⟨rfl, rfl⟩
  | p :: l, q :: k, .cons r t, y => by
    obtain ⟨q1, q2⟩ := q
    unfold fgetM
    rw [List.find?_cons, List.lookup_cons]
    have e1 : p.1 = q1 := r.1
    rw [← e1]
    by_cases e : p.1 = y
    · rw [decide_eq_true e]
      subst e
      rw [beq_self_eq_true]
      exact .inr ⟨p.2, q2, rfl, rfl, r.2⟩
    · rw [decide_eq_false e]
      have e2 : (y == p.1) = false := by
        rw [beq_eq_false_iff_ne]
        exact fun z => e z.symm
      rw [e2]
      exact RK.field t y
theorem RK.fput : ∀ {l : List (Str × Val)} {k : List (Str × V)} (y : Str) {v : Val} {u : V}, RK H ms l k → RV H ms v u → RK H ms (fputM l y v) (putF y u k)
  | _, _, y, v, u, .nil, r => .cons ⟨rfl, r⟩ .nil
  | p :: l, q :: k, y, v, u, .cons s t, r => by
    obtain ⟨p1, p2⟩ := p
    obtain ⟨q1, q2⟩ := q
    obtain ⟨e, s⟩ := s
    have e : p1 = q1 := e
    subst e
    by_cases h : p1 = y
    · subst h
      have a1 : fputM ((p1, p2) :: l) p1 v = (p1, v) :: l := by simp [fputM]
      have a2 : putF p1 u ((p1, q2) :: k) = (p1, u) :: k := by simp [putF]
      rw [a1, a2]
      exact .cons ⟨rfl, r⟩ t
    · have a1 : fputM ((p1, p2) :: l) y v = (p1, p2) :: fputM l y v := by simp [fputM, h]
      have a2 : putF y u ((p1, q2) :: k) = (p1, q2) :: putF y u k := by simp [putF, h]
      rw [a1, a2]
      exact .cons ⟨rfl, s⟩ (RK.fput y t r)
end

/-- a list that the top has written -/
def KL (K : PySem.W.Frag) (a : Addr) (xs : List V) : Prop :=
  ∃ (o : Obj) (its : Array Value) (n : Nat), K.lookup a = some o ∧ o.cls = .type "list" ∧ o.dict = none ∧ o.data = .seq its n ∧ its.size ≤ sizeLine ∧ Vals xs its.toList
section
variable (K : PySem.W.Frag) (ca : Nat → Addr)
def RO (H : Hp) (ms : List Addr) (a : Addr) : MO → Prop
  | .lst xs => ∃ vs, H a = some (.lst vs) ∧ RVs H ms xs vs
  | .rol xs => ∃ vs, (Rd H a (.lst vs) ∨ KL K a vs) ∧ RVs H ms xs vs
  | .dK kvs => ∃ ws, H a = some (.dK ws) ∧ RK H ms kvs ws
  | .dT kvs => ∃ ws, H a = some (.dT ws) ∧ RK H ms kvs ws
  | .ins c fs => ∃ dx ws, H a = some (.ins (ca c) dx ws) ∧ RK H ms fs ws
/-- read, and known by the written part -/
def KR (H : Hp) (ms : List Addr) (a : Addr) (o : Option MO) : Prop := ∃ xs vs, o = some (.rol xs) ∧ KL K a vs ∧ RVs H ms xs vs
structure RS (ms : List Addr) (H : Hp) (h : MH) : Prop where
  len : ms.length = h.length
  inj : ∀ (l l' : Nat) (a : Addr), ms[l]? = some a → ms[l']? = some a → l = l' ∨ KR K H ms a h[l]? ∨ KR K H ms a h[l']?
  ob : ∀ (l : Nat) (o : MO), h[l]? = some o → ∃ a, ms[l]? = some a ∧ RO K ca H ms a o
end
def RE (H : Hp) (ms : List Addr) (env : Ev) (σ : St) : Prop := env.length = σ.length ∧ ∀ (i : Nat) (v : Val), env[i]? = some (some v) → ∃ u, σ[i]? = some (some u) ∧ RV H ms v u
/-- an exception's own dict -/
def RX (H : Hp) (ms : List Addr) (x : Ex) (d : Option Addr) : Prop := (x.fs = [] ∧ d = none) ∨ ∃ a ws, d = some a ∧ H a = some (.xd ws) ∧ RK H ms x.fs ws
section
variable {K : PySem.W.Frag} {ca : Nat → Addr} {H H' : Hp} {ms ms' : List Addr} {h h' : MH} {env : Ev} {σ : St}
theorem RE.mono (x : Xt ms H ms' H') (r : RE H ms env σ) : RE H' ms' env σ := ⟨r.1, fun i v e => let ⟨u, a, b⟩ := r.2 i v e; ⟨u, a, b.mono x⟩⟩
theorem RE.get (r : RE H ms env σ) {i : Nat} {v : Val} (e : env[i]? = some (some v)) : ∃ u, σ[i]? = some (some u) ∧ RV H ms v u := r.2 i v e
theorem RE.set (r : RE H ms env σ) {v : Val} {u : V} (i : Nat) (s : RV H ms v u) : RE H ms (env.set i (some v)) (σ.set i (some u)) := by
  refine ⟨by simp [r.1], fun j w e => ?_⟩
  by_cases hj : i = j
  · subst hj
    by_cases hi : i < env.length
    · rw [List.getElem?_set_self hi] at e
      cases e
      exact ⟨u, List.getElem?_set_self (by rw [← r.1]; exact hi), s⟩
    · rw [List.getElem?_eq_none (by simpa using hi)] at e; cases e
  · rw [List.getElem?_set_ne hj] at e
    obtain ⟨u', a, b⟩ := r.2 j w e
    exact ⟨u', by rw [List.getElem?_set_ne hj]; exact a, b⟩
theorem RE.unset (r : RE H ms env σ) (i : Nat) : RE H ms (env.set i none) (σ.set i none) := by
  refine ⟨by simp [r.1], fun j w e => ?_⟩
  by_cases hj : i = j
  · subst hj
    by_cases hi : i < env.length
    · rw [List.getElem?_set_self hi] at e; cases e
    · rw [List.getElem?_eq_none (by simpa using hi)] at e; cases e
  · rw [List.getElem?_set_ne hj] at e
    obtain ⟨u', a, b⟩ := r.2 j w e
    exact ⟨u', by rw [List.getElem?_set_ne hj]; exact a, b⟩
theorem RE.wipe (r : RE H ms env σ) : ∀ vs : List Nat, RE H ms (wipeM env vs) (wipe σ vs)
  | [] => r
  | v :: vs => (RE.wipe r vs).unset v

theorem RO.some {a : Addr} {o : MO} (r : RO K ca H ms a o) (n : H a = none) : KR K H ms a (some o) := by
  cases o with
  | lst xs => obtain ⟨vs, e, _⟩ := r; rw [n] at e; cases e
  | rol xs =>
    obtain ⟨vs, e, rv⟩ := r
    rcases e with (e | ⟨o, e⟩) | e
    · rw [n] at e; cases e
    · rw [n] at e; cases e
    · exact ⟨xs, vs, rfl, e, rv⟩
  | dK kvs => obtain ⟨vs, e, _⟩ := r; rw [n] at e; cases e
  | dT kvs => obtain ⟨vs, e, _⟩ := r; rw [n] at e; cases e
  | ins c fs => obtain ⟨_, vs, e, _⟩ := r; rw [n] at e; cases e
theorem KR.mono {a : Addr} {o : Option MO} (x : Xt ms H ms' H') (r : KR K H ms a o) : KR K H' ms' a o := let ⟨xs, vs, e, k, rv⟩ := r; ⟨xs, vs, e, k, rv.mono x⟩
/-- the object at a is as it was -/
theorem RO.mono {a : Addr} {o : MO} (x : Xt ms H ms' H') (e : H' a = H a) (r : RO K ca H ms a o) : RO K ca H' ms' a o := by
  cases o with
  | lst xs => obtain ⟨vs, q, rv⟩ := r; exact ⟨vs, e.trans q, rv.mono x⟩
  | rol xs =>
    obtain ⟨vs, q, rv⟩ := r
    refine ⟨vs, ?_, rv.mono x⟩
    rcases q with (q | ⟨u, q⟩) | q
    · exact .inl (.inl (e.trans q))
    · exact .inl (.inr ⟨u, e.trans q⟩)
    · exact .inr q
  | dK kvs => obtain ⟨vs, q, rv⟩ := r; exact ⟨vs, e.trans q, rv.mono x⟩
  | dT kvs => obtain ⟨vs, q, rv⟩ := r; exact ⟨vs, e.trans q, rv.mono x⟩
  | ins c fs => obtain ⟨dx, vs, q, rv⟩ := r; exact ⟨dx, vs, e.trans q, rv.mono x⟩
theorem KR.ro {a : Addr} {o : MO} (r : KR K H ms a (some o)) : RO K ca H ms a o := by
  obtain ⟨xs, vs, e, k, rv⟩ := r
  cases e
  exact ⟨vs, .inr k, rv⟩
theorem xt_alloc {p : Addr} {O : HO} (n : H p = none) : Xt ms H (ms ++ [p]) (upd H p O) := by
  refine ⟨fun l a e => ?_, fun a vs e => ?_⟩
  · rw [List.getElem?_append_left (List.getElem?_eq_some_iff.mp e).1]; exact e
  · rw [upd_ne (ne_of_none e n)]; exact e
theorem xt_new {p : Addr} {O : HO} (n : H p = none) : Xt ms H ms (upd H p O) := ⟨fun _ _ e => e, fun a vs e => by rw [upd_ne (ne_of_none e n)]; exact e⟩
theorem xt_put {a : Addr} {O O' : HO} (e : H a = some O) (nt : ∀ vs, O ≠ .tup vs) : Xt ms H ms (upd H a O') :=
  ⟨fun _ _ e => e, fun b vs q => by
    rw [upd_ne (fun z => ?_)]; exact q
    subst z; rw [e] at q; exact nt vs (Option.some.inj q)⟩
/-- a new object -/
theorem RS.alloc {p : Addr} {O : HO} {o : MO} (r : RS K ca ms H h) (n : H p = none) (ho : RO K ca (upd H p O) (ms ++ [p]) p o) : RS K ca (ms ++ [p]) (upd H p O) (h ++ [o]) := by
  have x : Xt ms H (ms ++ [p]) (upd H p O) := xt_alloc n
  have hl := r.len
  have old : ∀ l a, ms[l]? = some a → (h ++ [o])[l]? = h[l]? := fun l a e => List.getElem?_append_left (by rw [← hl]; exact (List.getElem?_eq_some_iff.mp e).1)
  have kr : ∀ l a, ms[l]? = some a → H a = none → KR K H ms a h[l]? := fun l a e q => by
    have hlt : l < h.length := by rw [← hl]; exact (List.getElem?_eq_some_iff.mp e).1
    obtain ⟨a', ea, ro⟩ := r.ob l h[l] (List.getElem?_eq_getElem hlt)
    rw [e] at ea; cases ea
    rw [List.getElem?_eq_getElem hlt]
    exact ro.some q
  have cs : ∀ l a, (ms ++ [p])[l]? = some a → ms[l]? = some a ∨ (l = ms.length ∧ a = p) := fun l a e => by
    by_cases hlt : l < ms.length
    · rw [List.getElem?_append_left hlt] at e; exact .inl e
    · have e2 : l = ms.length := by
        have := (List.getElem?_eq_some_iff.mp e).1
        simp at this; omega
      subst e2
      rw [List.getElem?_append_right (Nat.le_refl _)] at e
      simp at e
      exact .inr ⟨rfl, e.symm⟩
  refine ⟨by simp [hl], fun l l' a e e' => ?_, fun l u e => ?_⟩
  · rcases cs l a e with e1 | ⟨e1, e2⟩ <;> rcases cs l' a e' with e3 | ⟨e3, e4⟩
    · rw [old l a e1, old l' a e3]
      rcases r.inj l l' a e1 e3 with q | q | q
      · exact .inl q
      · exact .inr (.inl (q.mono x))
      · exact .inr (.inr (q.mono x))
    · subst e4
      rw [old l a e1]
      exact .inr (.inl ((kr l a e1 n).mono x))
    · subst e2
      rw [old l' a e3]
      exact .inr (.inr ((kr l' a e3 n).mono x))
    · exact .inl (e1.trans e3.symm)
  · by_cases hlt : l < h.length
    · rw [List.getElem?_append_left hlt] at e
      obtain ⟨a, ea, ro⟩ := r.ob l u e
      refine ⟨a, x.pre _ _ ea, ?_⟩
      by_cases hp : a = p
      · subst hp
        have k := ro.some n
        exact KR.ro (k.mono x)
      · exact ro.mono x (upd_ne hp)
    · have e2 : l = h.length := by
        have := (List.getElem?_eq_some_iff.mp e).1
        simp at this; omega
      subst e2
      rw [List.getElem?_append_right (Nat.le_refl _)] at e
      simp at e
      subst e
      exact ⟨p, by rw [← hl]; simp, ho⟩
/-- a thing that has no number is laid -/
theorem RS.new {p : Addr} {O : HO} (r : RS K ca ms H h) (n : H p = none) : RS K ca ms (upd H p O) h := by
  have x : Xt ms H ms (upd H p O) := xt_new n
  refine ⟨r.len, fun l l' a e e' => ?_, fun l u e => ?_⟩
  · rcases r.inj l l' a e e' with q | q | q
    · exact .inl q
    · exact .inr (.inl (q.mono x))
    · exact .inr (.inr (q.mono x))
  · obtain ⟨a, ea, ro⟩ := r.ob l u e
    refine ⟨a, ea, ?_⟩
    by_cases hp : a = p
    · subst hp
      exact KR.ro ((ro.some n).mono x)
    · exact ro.mono x (upd_ne hp)
/-- the object at a number changes -/
theorem RS.put {l : Nat} {a : Addr} {O O' : HO} {o o' : MO} (r : RS K ca ms H h) (hl : h[l]? = some o) (nr : ∀ xs, o ≠ .rol xs) (ha : ms[l]? = some a) (e : H a = some O) (nt : ∀ vs, O ≠ .tup vs)
    (ho : RO K ca (upd H a O') ms a o') : RS K ca ms (upd H a O') (h.set l o') := by
  have x : Xt ms H ms (upd H a O') := xt_put e nt
  have hlt : l < h.length := (List.getElem?_eq_some_iff.mp hl).1
  have nk : ¬ KR K H ms a h[l]? := fun ⟨xs, vs, q, _⟩ => by rw [hl] at q; exact nr xs (Option.some.inj q)
  have other : ∀ l', ms[l']? = some a → l' ≠ l → KR K H ms a h[l']? := fun l' q hne => by
    rcases r.inj l l' a ha q with z | z | z
    · exact absurd z.symm hne
    · exact absurd z nk
    · exact z
  refine ⟨by simp [r.len], fun l1 l2 b e1 e2 => ?_, fun l1 u q => ?_⟩
  · by_cases h1 : l1 = l2
    · exact .inl h1
    · by_cases hl1 : l1 = l
      · subst hl1
        rw [ha] at e1; cases e1
        have z := other l2 e2 (fun z => h1 z.symm)
        rw [List.getElem?_set_ne (fun z => h1 z)]
        exact .inr (.inr (z.mono x))
      · by_cases hl2 : l2 = l
        · subst hl2
          rw [ha] at e2; cases e2
          have z := other l1 e1 h1
          rw [List.getElem?_set_ne (fun z => h1 z.symm)]
          exact .inr (.inl (z.mono x))
        · rw [List.getElem?_set_ne (fun z => hl1 z.symm), List.getElem?_set_ne (fun z => hl2 z.symm)]
          rcases r.inj l1 l2 b e1 e2 with z | z | z
          · exact .inl z
          · exact .inr (.inl (z.mono x))
          · exact .inr (.inr (z.mono x))
  · by_cases hl1 : l = l1
    · subst hl1
      rw [List.getElem?_set_self hlt] at q
      cases q
      exact ⟨a, ha, ho⟩
    · rw [List.getElem?_set_ne hl1] at q
      obtain ⟨b, eb, ro⟩ := r.ob l1 u q
      refine ⟨b, eb, ?_⟩
      by_cases hb : b = a
      · subst hb
        have z := other l1 eb (fun z => hl1 z.symm)
        rw [q] at z
        exact KR.ro (z.mono x)
      · exact ro.mono x (upd_ne hb)
theorem RS.at (r : RS K ca ms H h) {l : Nat} {o : MO} {u : V} (e : h[l]? = some o) (rv : RV H ms (.loc l) u) : ∃ a, u = .ref a ∧ ms[l]? = some a ∧ RO K ca H ms a o := by
  cases rv with
  | loc q =>
    obtain ⟨a, ea, ro⟩ := r.ob l o e
    rw [q] at ea; cases ea
    exact ⟨_, rfl, q, ro⟩
theorem RO.sql {a : Addr} {xs : List Val} (r : RO K ca H ms a (.rol xs)) : ∃ vs, SqL K H a vs ∧ RVs H ms xs vs := let ⟨vs, q, rv⟩ := r; ⟨vs, q, rv⟩
theorem RO.sqlL {a : Addr} {xs : List Val} (r : RO K ca H ms a (.lst xs)) : ∃ vs, SqL K H a vs ∧ RVs H ms xs vs := let ⟨vs, q, rv⟩ := r; ⟨vs, .inl (.inl q), rv⟩
theorem sqT_of {a : Addr} {vs : List V} (e : H a = some (.tup vs)) : SqT K H a vs := .inl (.inl e)
end
end Mn

/-! Mn3: the core language's operations by values, over the hand layer's rules. -/
namespace Mn
open PySem PySem.Spec PyProof.Rows L2

/-- a wish of the core language, lifted -/
def Lf (K : PySem.W.Frag) (ca : Nat → Addr) (ms : List Addr) (H : Hp) (Qm : KV1) (Q : VK) : Prop :=
  ∀ v h' ms' H' V, Xt ms H ms' H' → RS K ca ms' H' h' → RV H' ms' v V → Qm v h' → Q V H'
section
variable {K : PySem.W.Frag} {ca : Nat → Addr} {ms ms1 : List Addr} {H H1 : Hp} {Qm : KV1} {Q : VK} {h : MH} {v : Val} {V : V}
theorem Lf.here (q : Lf K ca ms H Qm Q) (rs : RS K ca ms H h) (rv : RV H ms v V) (w : Qm v h) : Q V H := q v h ms H V (Xt.refl _ _) rs rv w
theorem Lf.step (q : Lf K ca ms H Qm Q) (x : Xt ms H ms1 H1) : Lf K ca ms1 H1 Qm Q := fun v h' ms' H' V x' rs rv w => q v h' ms' H' V (x.trans x') rs rv w
/-- a new list -/
theorem Lf.newL (q : Lf K ca ms H Qm Q) (rs : RS K ca ms H h) {xs : List Val} {vs : List L2.V} (rv : RVs H ms xs vs) (w : Qm (.loc h.length) (h ++ [.lst xs])) : ∀ p, H p = none → Q (.ref p) (upd H p (.lst vs)) := fun p n =>
  q _ _ _ _ _ (xt_alloc n) (rs.alloc (o := .lst xs) n ⟨vs, upd_same, rv.mono (xt_alloc n)⟩) (.loc (by rw [← rs.len]; simp)) w
theorem Lf.newT (q : Lf K ca ms H Qm Q) (rs : RS K ca ms H h) {xs : List Val} {vs : List L2.V} (rv : RVs H ms xs vs) (w : Qm (.tup xs) h) : ∀ p, H p = none → Q (.ref p) (upd H p (.tup vs)) := fun p n =>
  q _ _ _ _ _ (xt_new n) (rs.new n) (.tup upd_same (rv.mono (xt_new n))) w
end

/-! ### binary operators -/
def rB (K : PySem.W.Frag) (ca : Nat → Addr) (o : BO) : R2 := fun V1 V2 H Q => ∃ ms h x y Qm, RS K ca ms H h ∧ RV H ms x V1 ∧ RV H ms y V2 ∧ wbin o x y h Qm ∧ Lf K ca ms H Qm Q
def opB : BO → Operator
  | .add => .Add | .sub => .Sub | .mul => .Mult | .fdiv => .FloorDiv | .mod => .Mod | .shl => .LShift | .shr => .RShift | .band => .BitAnd | .bor => .BitOr
section
variable {x y : Val} {h : MH} {Q : KV1}
theorem inv_sub : wbin .sub x y h Q → ∃ i j, x = .int i ∧ y = .int j ∧ Q (.int (i - j)) h := by cases x <;> cases y <;> intro w <;> first | exact ⟨_, _, rfl, rfl, w⟩ | exact w.elim
theorem inv_fdiv : wbin .fdiv x y h Q → ∃ i j, x = .int i ∧ y = .int j ∧ CDivN i j ∧ Q (.int (i.fdiv j)) h := by cases x <;> cases y <;> intro w <;> first | exact ⟨_, _, rfl, rfl, w⟩ | exact w.elim
theorem inv_mod : wbin .mod x y h Q → ∃ i j, x = .int i ∧ y = .int j ∧ j ≠ 0 ∧ Q (.int (i.fmod j)) h := by cases x <;> cases y <;> intro w <;> first | exact ⟨_, _, rfl, rfl, w⟩ | exact w.elim
theorem inv_shl : wbin .shl x y h Q → ∃ i j, x = .int i ∧ y = .int j ∧ (CPow i j ∨ CShl i j) ∧ Q (.int (i * 2 ^ j.toNat)) h := by cases x <;> cases y <;> intro w <;> first | exact ⟨_, _, rfl, rfl, w⟩ | exact w.elim
theorem inv_shr : wbin .shr x y h Q → ∃ i j, x = .int i ∧ y = .int j ∧ 0 ≤ j ∧ Q (.int (i / 2 ^ j.toNat)) h := by cases x <;> cases y <;> intro w <;> first | exact ⟨_, _, rfl, rfl, w⟩ | exact w.elim
theorem inv_band : wbin .band x y h Q → ∃ i j, x = .int i ∧ y = .int j ∧ Q (.int (Builtin.bitAnd i j)) h := by cases x <;> cases y <;> intro w <;> first | exact ⟨_, _, rfl, rfl, w⟩ | exact w.elim
theorem inv_bor : wbin .bor x y h Q → ∃ i j, x = .int i ∧ y = .int j ∧ Q (.int (Builtin.bitOr i j)) h := by cases x <;> cases y <;> intro w <;> first | exact ⟨_, _, rfl, rfl, w⟩ | exact w.elim
theorem inv_mul : wbin .mul x y h Q → (∃ i j, x = .int i ∧ y = .int j ∧ (CMul i j ∨ CMulW i j) ∧ Q (.int (i * j)) h) ∨ ∃ a k xs, x = .loc a ∧ y = .int k ∧ h[a]? = some (.lst xs) ∧ (-(2 ^ 63) ≤ k ∧ k < 2 ^ 63 ∧ xs.length * k.toNat ≤ sizeLine) ∧ Q (.loc h.length) (h ++ [.lst (List.replicate k.toNat xs).flatten]) := by
  cases x <;> cases y <;> intro w <;> first
    | exact .inl ⟨_, _, rfl, rfl, w⟩
    | exact w.elim
    | skip
  rename_i a k
  have w : (match h[a]? with
    | some (.lst xs) => (-(2 ^ 63) ≤ k ∧ k < 2 ^ 63 ∧ xs.length * k.toNat ≤ sizeLine) ∧ Q (.loc h.length) (h ++ [.lst (List.replicate k.toNat xs).flatten])
    | _ => False) := w
  split at w
  · rename_i xs e
    exact .inr ⟨_, _, xs, rfl, rfl, e, w⟩
  · exact w.elim
theorem inv_add : wbin .add x y h Q → (∃ i j, x = .int i ∧ y = .int j ∧ Q (.int (i + j)) h) ∨ (∃ a b, x = .str a ∧ y = .str b ∧ a.length + b.length ≤ sizeLine ∧ Q (.str (a ++ b)) h) ∨
    (∃ a b, x = .tup a ∧ y = .tup b ∧ a.length + b.length ≤ sizeLine ∧ Q (.tup (a ++ b)) h) ∨
    ∃ a b xs ys, x = .loc a ∧ y = .loc b ∧ h[a]? = some (.lst xs) ∧ h[b]? = some (.lst ys) ∧ xs.length + ys.length ≤ sizeLine ∧ Q (.loc h.length) (h ++ [.lst (xs ++ ys)]) := by
  cases x <;> cases y <;> intro w <;> first
    | exact .inl ⟨_, _, rfl, rfl, w⟩
    | exact .inr (.inl ⟨_, _, rfl, rfl, w⟩)
    | exact .inr (.inr (.inl ⟨_, _, rfl, rfl, w⟩))
    | exact w.elim
    | skip
  rename_i a b
  have w : (match h[a]?, h[b]? with
    | some (.lst xs), some (.lst ys) => xs.length + ys.length ≤ sizeLine ∧ Q (.loc h.length) (h ++ [.lst (xs ++ ys)])
    | _, _ => False) := w
  split at w
  · rename_i xs ys e1 e2
    exact .inr (.inr (.inr ⟨_, _, xs, ys, rfl, rfl, e1, e2, w⟩))
  · exact w.elim
end
theorem or_int {X : Cx} {ca : Nat → Addr} {o : BO} {f : Value → Value → Sem Value} {C : Int → Int → Prop} {g : Int → Int → Int} (base : OpR X f (rI C fun i j => .int (g i j)))
    (inv : ∀ x y h Q, wbin o x y h Q → ∃ i j, x = .int i ∧ y = .int j ∧ C i j ∧ Q (.int (g i j)) h) : OpR X f (rB X.K ca o) := by
  intro pins s σ H V1 V2 v u Q I r1 r2 ⟨ms, h, x, y, Qm, rs, rx, ry, hw, hq⟩
  obtain ⟨i, j, rfl, rfl, c, q⟩ := inv _ _ _ _ hw
  cases rx
  cases ry
  exact base pins s σ H _ _ v u Q I r1 r2 ⟨i, j, rfl, rfl, c, hq.here rs (.int _) q⟩
theorem OpR.imp {X : Cx} {f : Value → Value → Sem Value} {r r' : R2} (b : OpR X f r) (h : ∀ x y H Q, r' x y H Q → r x y H Q) : OpR X f r' :=
  fun pins s σ H x y v u Q I r1 r2 q => b pins s σ H x y v u Q I r1 r2 (h _ _ _ _ q)
theorem rI_of {X : Cx} {f : Value → Value → Sem Value} {g : Int → Int → V} (b : OpR X f (rI0 g)) : OpR X f (rI (fun _ _ => True) g) := OpR.imp b fun x y H Q ⟨i, j, a, c, _, q⟩ => ⟨i, j, a, c, q⟩
theorem rI_or {X : Cx} {f : Value → Value → Sem Value} {C D : Int → Int → Prop} {g : Int → Int → V} (b : OpR X f (rI C g)) (c : OpR X f (rI D g)) : OpR X f (rI (fun i j => C i j ∨ D i j) g) :=
  OpR.imp (b.or c) fun x y H Q ⟨i, j, a, e, o, q⟩ => o.elim (fun z => .inl ⟨i, j, a, e, z, q⟩) fun z => .inr ⟨i, j, a, e, z, q⟩
theorem or_add {X : Cx} {ca : Nat → Addr} : OpR X (binaryOp .Add) (rB X.K ca .add) := by
  intro pins s σ H V1 V2 v u Q I r1 r2 ⟨ms, h, x, y, Qm, rs, rx, ry, hw, hq⟩
  rcases inv_add hw with ⟨i, j, rfl, rfl, q⟩ | ⟨a, b, rfl, rfl, c, q⟩ | ⟨a, b, rfl, rfl, c, q⟩ | ⟨a, b, xs, ys, rfl, rfl, e1, e2, c, q⟩
  · cases rx; cases ry
    exact op_add pins s σ H _ _ v u Q I r1 r2 ⟨i, j, rfl, rfl, hq.here rs (.int _) q⟩
  · cases rx; cases ry
    exact op_add_str pins s σ H _ _ v u Q I r1 r2 ⟨a, b, rfl, rfl, c, hq.here rs (.str _) q⟩
  · cases rx with
    | tup ea ra =>
      cases ry with
      | tup eb rb =>
        rename_i pa va pb vb
        refine op_catA pins s σ H _ _ v u Q I r1 r2 ⟨pa, pb, va, vb, rfl, rfl, sqT_of ea, sqT_of eb, by rw [← ra.length, ← rb.length]; exact c, fun z => ?_, fun _ z => ?_, fun _ _ => ?_⟩
        · subst z
          cases ra
          exact hq.here rs (.tup eb rb) q
        · subst z
          cases rb
          rw [List.append_nil] at q
          exact hq.here rs (.tup ea ra) q
        · exact hq.newT rs (ra.append rb) q
  · obtain ⟨pa, rfl, _, va, ea, ra⟩ := rs.at e1 rx
    obtain ⟨pb, rfl, _, vb, eb, rb⟩ := rs.at e2 ry
    exact op_cat pins s σ H _ _ v u Q I r1 r2 ⟨pa, pb, va, vb, rfl, rfl, ea, eb, by rw [← ra.length, ← rb.length]; exact c, hq.newL rs (ra.append rb) q⟩
theorem or_mul {X : Cx} {ca : Nat → Addr} : OpR X (binaryOp .Mult) (rB X.K ca .mul) := by
  intro pins s σ H V1 V2 v u Q I r1 r2 ⟨ms, h, x, y, Qm, rs, rx, ry, hw, hq⟩
  rcases inv_mul hw with ⟨i, j, rfl, rfl, c, q⟩ | ⟨a, k, xs, rfl, rfl, e1, ⟨c1, c2, c3⟩, q⟩
  · cases rx; cases ry
    exact rI_or op_mul op_mulW pins s σ H _ _ v u Q I r1 r2 ⟨i, j, rfl, rfl, c, hq.here rs (.int _) q⟩
  · obtain ⟨pa, rfl, _, va, ea, ra⟩ := rs.at e1 rx
    cases ry
    exact op_rep pins s σ H _ _ v u Q I r1 r2 ⟨pa, k, va, rfl, rfl, ea, c1, c2, by rw [← ra.length]; exact c3, hq.newL rs (ra.flat _) q⟩
theorem or_bin {X : Cx} {ca : Nat → Addr} : ∀ o : BO, OpR X (binaryOp (opB o)) (rB X.K ca o)
  | .add => or_add
  | .sub => or_int (rI_of op_sub) fun x y h Q w => let ⟨i, j, a, b, q⟩ := inv_sub w; ⟨i, j, a, b, trivial, q⟩
  | .mul => or_mul
  | .fdiv => or_int op_fdivN fun x y h Q w => inv_fdiv w
  | .mod => or_int op_modN fun x y h Q w => inv_mod w
  | .shl => or_int (rI_or op_shl op_shlW) fun x y h Q w => inv_shl w
  | .shr => or_int op_shr fun x y h Q w => inv_shr w
  | .band => or_int (rI_of op_and) fun x y h Q w => let ⟨i, j, a, b, q⟩ := inv_band w; ⟨i, j, a, b, trivial, q⟩
  | .bor => or_int (rI_of op_or) fun x y h Q w => let ⟨i, j, a, b, q⟩ := inv_bor w; ⟨i, j, a, b, trivial, q⟩

/-! ### data -/
section
variable {K : PySem.W.Frag} {ca : Nat → Addr} {ms : List Addr} {H : Hp} {h : MH}
theorem dpAll_of {f : Val → Option PyData} (hf : ∀ x V d, RV H ms x V → f x = some d → Dp K H V d) : ∀ {xs : List Val} {vs : List V} {ds : List PyData}, RVs H ms xs vs → xs.mapM f = some ds → DpAll K H vs ds
  | _, _, ds, .nil, e => by
    simp at e; subst e; exact .nil
  | _, _, ds, .cons a t, e => by
    simp only [List.mapM_cons, Option.bind_eq_bind, Option.bind_eq_some_iff] at e
    obtain ⟨d, e1, r, e2, e3⟩ := e
    cases e3
    exact .cons (hf _ _ _ a e1) (dpAll_of hf t e2)
theorem dp_of (rs : RS K ca ms H h) : ∀ (n : Nat) (x : Val) (V : V) (d : PyData), RV H ms x V → toD h n x = some d → Dp K H V d
  | n, .non, V, d, r, e => by cases r; cases n <;> (cases e; exact .non)
  | n, .bl b, V, d, r, e => by cases r; cases n <;> (cases e; exact .bl b)
  | n, .int i, V, d, r, e => by cases r; cases n <;> (cases e; exact .int i)
  | n, .str z, V, d, r, e => by cases r; cases n <;> (cases e; exact .str z)
  | 0, .tup xs, V, d, r, e => by cases e
  | 0, .loc l, V, d, r, e => by cases e
  | n + 1, .tup xs, V, d, r, e => by
    have e : (xs.mapM (toD h n)).map PyData.tuple = some d := e
    obtain ⟨ds, e1, rfl⟩ := Option.map_eq_some_iff.mp e
    cases r with
    | tup ha ra => exact .tup (sqT_of ha) (dpAll_of (fun x V d => dp_of rs n x V d) ra e1)
  | n + 1, .loc l, V, d, r, e => by
    have e : (match h[l]? with
      | some (.lst xs) => (xs.mapM (toD h n)).map PyData.list
      | some (.rol xs) => (xs.mapM (toD h n)).map PyData.list
      | _ => none) = some d := e
    split at e
    · rename_i xs el
      obtain ⟨a, rfl, _, ro⟩ := rs.at el r
      obtain ⟨ds, e1, rfl⟩ := Option.map_eq_some_iff.mp e
      obtain ⟨vs, q, rv⟩ := ro.sqlL
      exact .lst q (dpAll_of (fun x V d => dp_of rs n x V d) rv e1)
    · rename_i xs el
      obtain ⟨a, rfl, _, ro⟩ := rs.at el r
      obtain ⟨ds, e1, rfl⟩ := Option.map_eq_some_iff.mp e
      obtain ⟨vs, q, rv⟩ := ro.sql
      exact .lst q (dpAll_of (fun x V d => dp_of rs n x V d) rv e1)
    · cases e
theorem inv_eq {x y : Val} {Q : Bool → Prop} {V1 V2 : V} (rs : RS K ca ms H h) (rx : RV H ms x V1) (ry : RV H ms y V2) (w : weq x y h Q) :
    (scal V1 V2 = true ∧ Q (decide (V1 = V2))) ∨ ∃ d e, Dp K H V1 d ∧ Dp K H V2 e ∧ SeqAt.shaped d = true ∧ SeqAt.shaped e = true ∧ Q (PyData.eqv d e) := by
  have gen : (match toD h 8 x, toD h 8 y with
    | some d, some e => (SeqAt.shaped d = true ∧ SeqAt.shaped e = true) ∧ Q (PyData.eqv d e)
    | _, _ => False) → ∃ d e, Dp K H V1 d ∧ Dp K H V2 e ∧ SeqAt.shaped d = true ∧ SeqAt.shaped e = true ∧ Q (PyData.eqv d e) := fun w => by
    split at w
    · rename_i d e e1 e2
      exact ⟨d, e, dp_of rs 8 x V1 d rx e1, dp_of rs 8 y V2 e ry e2, w.1.1, w.1.2, w.2⟩
    · exact w.elim
  cases x <;> cases y <;> first
    | exact .inr (gen w)
    | (left
       cases rx; cases ry
       refine ⟨rfl, ?_⟩
       first
         | exact w
         | (have e : ∀ a b, decide (V.int a = V.int b) = decide (a = b) := fun a b => by simp
            rw [e]; exact w)
         | (have e : ∀ a b, decide (V.str a = V.str b) = decide (a = b) := fun a b => by simp
            rw [e]; exact w)
         | (have e : ∀ a b, decide (V.bl a = V.bl b) = decide (a = b) := fun a b => by simp
            rw [e]; exact w))
end
/-! ### comparisons -/
def opC : CO → CmpOp
  | .eq => .Eq | .ne => .NotEq | .lt => .Lt | .le => .LtE | .gt => .Gt | .ge => .GtE | .isin => .In | .notin => .NotIn | .is => .Is | .isnot => .IsNot
def rC (K : PySem.W.Frag) (ca : Nat → Addr) (o : CO) : R2 := fun V1 V2 H Q => ∃ ms h x y Qm, RS K ca ms H h ∧ RV H ms x V1 ∧ RV H ms y V2 ∧ wcmp o x y h Qm ∧ ∀ b, Qm b → Q (.bl b) H
theorem flat_of {ms : List Addr} {H : Hp} {x : Val} {V : V} (r : RV H ms x V) (f : flatM x = true) : flatV V = true := by
  cases r <;> first | rfl | cases f
theorem flats_of {ms : List Addr} {H : Hp} : ∀ {xs : List Val} {vs : List V}, RVs H ms xs vs → xs.all flatM = true → vs.all flatV = true
  | _, _, .nil, _ => rfl
  | _, _, .cons a t, f => by
    rw [List.all_cons, Bool.and_eq_true] at f ⊢
    exact ⟨flat_of a f.1, flats_of t f.2⟩
theorem eqM_of {ms : List Addr} {H : Hp} {x y : Val} {V W : L2.V} (r : RV H ms x V) (q : RV H ms y W) : eqM x y = eqV V W := by
  cases r <;> cases q <;> rfl
theorem any_of {ms : List Addr} {H : Hp} {x : Val} {V : V} (r : RV H ms x V) : ∀ {xs : List Val} {vs : List L2.V}, RVs H ms xs vs → (xs.any fun z => eqM z x) = inV V vs
  | _, _, .nil => rfl
  | _, _, .cons a t => by
    unfold inV
    rw [List.any_cons, List.any_cons, eqM_of a r, any_of r t]
    rfl
theorem keys_kV {ms : List Addr} {H : Hp} : ∀ {ks : List Val} {k : List Key} {vs : List V}, ks.mapM keyM = some k → RVs H ms ks vs → vs = k.map kV
  | _, k, _, e, .nil => by
    simp at e; subst e; rfl
  | _, k, _, e, .cons a t => by
    simp only [List.mapM_cons, Option.bind_eq_bind, Option.bind_eq_some_iff] at e
    obtain ⟨d, e1, r, e2, e3⟩ := e
    cases e3
    have ih := keys_kV e2 t
    subst ih
    cases a <;> first
      | (cases e1; rfl)
      | cases e1
theorem get_of {K : PySem.W.Frag} {ca : Nat → Addr} {ms : List Addr} {H : Hp} {a : Addr} {o : MO} {y : Val} {V : V} {Q : Option Val → Prop} (ro : RO K ca H ms a o) (ry : RV H ms y V) (w : getM o y Q) :
    ∃ r r', DGet H a V r' ∧ Q r ∧ ((r = none ∧ r' = none) ∨ ∃ v u, r = some v ∧ r' = some u ∧ RV H ms v u) := by
  cases o with
  | dK kvs =>
    obtain ⟨ws, e, rk⟩ := ro
    cases y with
    | int i =>
      cases ry
      exact ⟨_, _, DGet.k (k := Sum.inl i) e, w, rk.look _⟩
    | str z =>
      cases ry
      exact ⟨_, _, DGet.k (k := Sum.inr z) e, w, rk.look _⟩
    | _ => exact (show False from w).elim
  | dT kvs =>
    obtain ⟨ws, e, rk⟩ := ro
    cases y with
    | tup ks =>
      have w : (match ks.mapM keyM with
        | some k => Q (lookM kvs k)
        | none => False) := w
      split at w
      · rename_i k ek
        cases ry with
        | tup eb rb =>
          have := keys_kV ek rb
          subst this
          exact ⟨_, _, DGet.t e eb, w, rk.look _⟩
      · exact w.elim
    | _ => exact (show False from w).elim
  | _ => exact (show False from by cases y <;> exact w).elim
theorem inv_in {K : PySem.W.Frag} {ca : Nat → Addr} {ms : List Addr} {H : Hp} {h : MH} {x y : Val} {Q : Bool → Prop} {V1 V2 : V} (rs : RS K ca ms H h) (rx : RV H ms x V1) (ry : RV H ms y V2) (w : win x y h Q) :
    (∃ p xs, V2 = .ref p ∧ (SqL K H p xs ∨ SqT K H p xs) ∧ flatV V1 = true ∧ xs.all flatV = true ∧ Q (inV V1 xs)) ∨ ∃ a o, V2 = .ref a ∧ DGet H a V1 o ∧ Q o.isSome := by
  cases y with
  | tup xs =>
    obtain ⟨⟨f1, f2⟩, q⟩ := w
    cases ry with
    | tup ea ra => exact .inl ⟨_, _, rfl, .inr (sqT_of ea), flat_of rx f1, flats_of ra f2, by rw [← any_of rx ra]; exact q⟩
  | loc l =>
    have w : (match h[l]? with
      | some (.lst xs) => (flatM x = true ∧ xs.all flatM = true) ∧ Q (xs.any fun z => eqM z x)
      | some (.rol xs) => (flatM x = true ∧ xs.all flatM = true) ∧ Q (xs.any fun z => eqM z x)
      | some o => getM o x fun r => Q r.isSome
      | none => False) := w
    split at w
    · rename_i xs el
      obtain ⟨⟨f1, f2⟩, q⟩ := w
      obtain ⟨a, rfl, _, ro⟩ := rs.at el ry
      obtain ⟨vs, sq, rv⟩ := ro.sqlL
      exact .inl ⟨_, _, rfl, .inl sq, flat_of rx f1, flats_of rv f2, by rw [← any_of rx rv]; exact q⟩
    · rename_i xs el
      obtain ⟨⟨f1, f2⟩, q⟩ := w
      obtain ⟨a, rfl, _, ro⟩ := rs.at el ry
      obtain ⟨vs, sq, rv⟩ := ro.sql
      exact .inl ⟨_, _, rfl, .inl sq, flat_of rx f1, flats_of rv f2, by rw [← any_of rx rv]; exact q⟩
    · rename_i o _ _ el
      obtain ⟨a, rfl, _, ro⟩ := rs.at el ry
      obtain ⟨r, r', g, q, c⟩ := get_of ro rx w
      refine .inr ⟨a, r', rfl, g, ?_⟩
      rcases c with ⟨e1, e2⟩ | ⟨v, u, e1, e2, _⟩
      · subst e1 e2; exact q
      · subst e1 e2; exact q
    · exact w.elim
  | _ => exact (show False from w).elim
theorem or_in {X : Cx} {ca : Nat → Addr} (hu : X.A.units + 65 < cLine) : OpR X (compareOp .In) (rC X.K ca .isin) := by
  intro pins s σ H V1 V2 v u Q I r1 r2 ⟨ms, h, x, y, Qm, rs, rx, ry, hw, hq⟩
  rcases inv_in rs rx ry hw with ⟨p, xs, rfl, sq, f1, f2, q⟩ | ⟨a, o, rfl, g, q⟩
  · exact op_in_seq pins s σ H _ _ v u Q I r1 r2 ⟨p, xs, rfl, sq, f1, f2, by simpa using hq _ q⟩
  · obtain rfl : u = Value.ref a := r2
    exact d_in (by omega) I g r1 fun s' I' => ⟨.bl o.isSome, H, I', rfl, hq _ q⟩
theorem or_notin {X : Cx} {ca : Nat → Addr} (hu : X.A.units + 65 < cLine) : OpR X (compareOp .NotIn) (rC X.K ca .notin) := by
  intro pins s σ H V1 V2 v u Q I r1 r2 ⟨ms, h, x, y, Qm, rs, rx, ry, hw, hq⟩
  rcases inv_in rs rx ry (show win x y h fun b => Qm (!b) from hw) with ⟨p, xs, rfl, sq, f1, f2, q⟩ | ⟨a, o, rfl, g, q⟩
  · exact op_notIn_seq pins s σ H _ _ v u Q I r1 r2 ⟨p, xs, rfl, sq, f1, f2, by simpa using hq _ q⟩
  · obtain rfl : u = Value.ref a := r2
    exact d_notIn (by omega) I g r1 fun s' I' => ⟨.bl (!o.isSome), H, I', rfl, hq _ q⟩
theorem or_cI {X : Cx} {ca : Nat → Addr} {o : CO} {f : Value → Value → Sem Value} {g : Int → Int → Bool} (base : OpR X f (rI0 fun i j => .bl (g i j)))
    (inv : ∀ x y h Q, wcmp o x y h Q → ∃ i j, x = .int i ∧ y = .int j ∧ Q (g i j)) : OpR X f (rC X.K ca o) := by
  intro pins s σ H V1 V2 v u Q I r1 r2 ⟨ms, h, x, y, Qm, rs, rx, ry, hw, hq⟩
  obtain ⟨i, j, rfl, rfl, q⟩ := inv _ _ _ _ hw
  cases rx
  cases ry
  exact base pins s σ H _ _ v u Q I r1 r2 ⟨i, j, rfl, rfl, hq _ q⟩
theorem or_cmp {X : Cx} {ca : Nat → Addr} (hu : X.A.units + 65 < cLine) : ∀ o : CO, OpR X (compareOp (opC o)) (rC X.K ca o)
  | .eq => by
    intro pins s σ H V1 V2 v u Q I r1 r2 ⟨ms, h, x, y, Qm, rs, rx, ry, hw, hq⟩
    rcases inv_eq rs rx ry (show weq x y h Qm from hw) with ⟨a, b⟩ | ⟨d, e, a1, a2, a3, a4, b⟩
    · exact op_eq pins s σ H _ _ v u Q I r1 r2 ⟨a, hq _ b⟩
    · exact op_eqD (by omega) pins s σ H _ _ v u Q I r1 r2 ⟨d, e, a1, a2, a3, a4, hq _ b⟩
  | .ne => by
    intro pins s σ H V1 V2 v u Q I r1 r2 ⟨ms, h, x, y, Qm, rs, rx, ry, hw, hq⟩
    rcases inv_eq rs rx ry (show weq x y h (fun b => Qm (!b)) from hw) with ⟨a, b⟩ | ⟨d, e, a1, a2, a3, a4, b⟩
    · exact op_ne pins s σ H _ _ v u Q I r1 r2 ⟨a, hq _ b⟩
    · exact op_neD (by omega) pins s σ H _ _ v u Q I r1 r2 ⟨d, e, a1, a2, a3, a4, hq _ b⟩
  | .lt => or_cI op_lt fun x y h Q => by cases x <;> cases y <;> intro w <;> first | exact ⟨_, _, rfl, rfl, w⟩ | exact w.elim
  | .le => or_cI op_le fun x y h Q => by cases x <;> cases y <;> intro w <;> first | exact ⟨_, _, rfl, rfl, w⟩ | exact w.elim
  | .gt => or_cI op_gt fun x y h Q => by cases x <;> cases y <;> intro w <;> first | exact ⟨_, _, rfl, rfl, w⟩ | exact w.elim
  | .ge => or_cI op_ge fun x y h Q => by cases x <;> cases y <;> intro w <;> first | exact ⟨_, _, rfl, rfl, w⟩ | exact w.elim
  | .isin => or_in hu
  | .notin => or_notin hu
  | .is => by
    intro pins s σ H V1 V2 v u Q I r1 r2 ⟨ms, h, x, y, Qm, rs, rx, ry, hw, hq⟩
    cases x <;> cases y <;> first
      | exact (show False from hw).elim
      | (cases rx; cases ry; exact op_isN pins s σ H _ _ v u Q I r1 r2 ⟨rfl, hq _ hw⟩)
  | .isnot => by
    intro pins s σ H V1 V2 v u Q I r1 r2 ⟨ms, h, x, y, Qm, rs, rx, ry, hw, hq⟩
    cases x <;> cases y <;> first
      | exact (show False from hw).elim
      | (cases rx; cases ry; exact op_notN pins s σ H _ _ v u Q I r1 r2 ⟨rfl, hq _ hw⟩)
end Mn

/-! Mn4: items, slices, built-in calls, methods, stores, truth. -/
namespace Mn
open PySem PySem.Spec PyProof.Rows L2

section
variable {X : Cx} {ca : Nat → Addr}
/-! ### items -/
def rIt (K : PySem.W.Frag) (ca : Nat → Addr) : R2 := fun V1 V2 H Q => ∃ ms h x y Qm, RS K ca ms H h ∧ RV H ms x V1 ∧ RV H ms y V2 ∧ witem x y h Qm ∧ ∀ v V, RV H ms v V → Qm v → Q V H
theorem IxR.imp {r r' : R2} (b : IxR X r) (h : ∀ x y H Q, r' x y H Q → r x y H Q) : IxR X r' :=
  fun value slice pins s σ H x y v u Q I r1 r2 q hs => b value slice pins s σ H x y v u Q I r1 r2 (h _ _ _ _ q) hs
def rIxD : R2 := fun x y H Q => ∃ a v, x = .ref a ∧ DGet H a y (some v) ∧ Q v H
theorem ix_dict (hu : X.A.units + 65 < cLine) : IxR X rIxD := by
  intro value slice pins s σ H x y v u Q I rx ry h hs
  obtain ⟨a, w, rfl, g, q⟩ := h
  cases rx
  exact tail_any (dict_typeIs I g) PySem.F.slot_dict_getitem.lookup (d_getItem (by omega) I g ry fun w' s3 I3 rw' => ⟨w, H, I3, rw', q⟩) hs
theorem wat_of {ms : List Addr} {H : Hp} {Qm : Val → Prop} {Q : VK} {xs : List Val} {vs : List V} {y : Val} {V2 : V} (hq : ∀ v V, RV H ms v V → Qm v → Q V H) (rv : RVs H ms xs vs) (ry : RV H ms y V2) (w : wat xs y Qm) :
    ∃ i u, V2 = .int i ∧ atI vs i = some u ∧ Q u H := by
  cases y with
  | int i =>
    cases ry
    have w : (match atI xs i with
      | some v => Qm v
      | none => False) := w
    split at w
    · rename_i v e
      obtain ⟨u, e2, r⟩ := rv.at e
      exact ⟨i, u, rfl, e2, hq v u r w⟩
    · exact w.elim
  | _ => exact (show False from w).elim
theorem ix_mini (hu : X.A.units + 65 < cLine) : IxR X (rIt X.K ca) := by
  refine IxR.imp (ix_seq.or (ix_dict hu)) fun V1 V2 H Q ⟨ms, h, x, y, Qm, rs, rx, ry, hw, hq⟩ => ?_
  cases x with
  | tup xs =>
    cases rx with
    | tup ea ra =>
      obtain ⟨i, u, rfl, e, q⟩ := wat_of hq ra ry hw
      exact .inl (.inr (.inl ⟨_, _, i, u, rfl, rfl, sqT_of ea, e, q⟩))
  | str z =>
    cases y with
    | int i =>
      cases ry
      cases rx
      obtain ⟨hz, hw⟩ := (show z.length ≤ sizeLine ∧ (match atI z.cps.toList i with
        | some c => Qm (.str ⟨#[c]⟩)
        | none => False) from hw)
      split at hw
      · rename_i c e
        exact .inl (.inr (.inr ⟨z, i, c, rfl, rfl, hz, e, hq _ _ (.str _) hw⟩))
      · exact hw.elim
    | _ => exact (show False from hw).elim
  | loc l =>
    have hw : (match h[l]? with
      | some (.lst xs) => wat xs y Qm
      | some (.rol xs) => wat xs y Qm
      | some o => getM o y fun r => there r Qm
      | none => False) := hw
    split at hw
    · rename_i xs el
      obtain ⟨a, rfl, _, ro⟩ := rs.at el rx
      obtain ⟨vs, sq, rv⟩ := ro.sqlL
      obtain ⟨i, u, rfl, e, q⟩ := wat_of hq rv ry hw
      exact .inl (.inl ⟨_, _, i, u, rfl, rfl, sq, e, q⟩)
    · rename_i xs el
      obtain ⟨a, rfl, _, ro⟩ := rs.at el rx
      obtain ⟨vs, sq, rv⟩ := ro.sql
      obtain ⟨i, u, rfl, e, q⟩ := wat_of hq rv ry hw
      exact .inl (.inl ⟨_, _, i, u, rfl, rfl, sq, e, q⟩)
    · rename_i o _ _ el
      obtain ⟨a, rfl, _, ro⟩ := rs.at el rx
      obtain ⟨r, r', g, q, c⟩ := get_of ro ry hw
      rcases c with ⟨e1, e2⟩ | ⟨v, u, e1, e2, rv⟩
      · subst e1; exact q.elim
      · subst e1 e2
        exact .inr ⟨a, u, rfl, g, hq v u rv q⟩
    · exact hw.elim
  | _ => exact (show False from hw).elim

/-! ### slices -/
def rSlM (K : PySem.W.Frag) (ca : Nat → Addr) : V → Option Int → Option Int → Hp → VK → Prop := fun V1 lo hi H Q => ∃ ms h x Qm, RS K ca ms H h ∧ RV H ms x V1 ∧ wslice x lo hi h Qm ∧ Lf K ca ms H Qm Q
theorem SlR.imp {r r' : V → Option Int → Option Int → Hp → VK → Prop} (b : SlR X r) (h : ∀ x lo hi H Q, r' x lo hi H Q → r x lo hi H Q) : SlR X r' :=
  fun pins s σ H x v vl vu lo hi sl Q I r1 a b1 c q => b pins s σ H x v vl vu lo hi sl Q I r1 a b1 c (h _ _ _ _ _ q)
theorem cut_whole {xs : List Val} {lo hi : Option Int} (h : HT.sIx xs.length 0 lo = 0 ∧ HT.sIx xs.length xs.length hi = xs.length) : cutM xs lo hi = xs := by
  unfold cutM
  rw [h.1, h.2]
  simp
theorem sl_mini : SlR X (rSlM X.K ca) := by
  refine SlR.imp (sl_list.or (sl_tupA.or C8.sl_txt)) fun V1 lo hi H Q ⟨ms, h, x, Qm, rs, rx, hw, hq⟩ => ?_
  cases x with
  | tup xs =>
    cases rx with
    | tup ea ra =>
      refine .inr (.inl ⟨_, _, rfl, sqT_of ea, fun z => ?_, fun _ => hq.newT rs (ra.cut lo hi) hw⟩)
      rw [← ra.length] at z
      have hw : Qm (.tup (cutM xs lo hi)) h := hw
      rw [cut_whole z] at hw
      exact hq.here rs (.tup ea ra) hw
  | str z =>
    cases rx
    exact .inr (.inr ⟨z, rfl, hw.1, hq.here rs (.str _) hw.2⟩)
  | loc l =>
    have hw : (match h[l]? with
      | some (.lst xs) => Qm (.loc h.length) (h ++ [.lst (cutM xs lo hi)])
      | some (.rol xs) => Qm (.loc h.length) (h ++ [.lst (cutM xs lo hi)])
      | _ => False) := hw
    split at hw
    · rename_i xs el
      obtain ⟨a, rfl, _, ro⟩ := rs.at el rx
      obtain ⟨vs, sq, rv⟩ := ro.sqlL
      exact .inl ⟨_, _, rfl, sq, hq.newL rs (rv.cut lo hi) hw⟩
    · rename_i xs el
      obtain ⟨a, rfl, _, ro⟩ := rs.at el rx
      obtain ⟨vs, sq, rv⟩ := ro.sql
      exact .inl ⟨_, _, rfl, sq, hq.newL rs (rv.cut lo hi) hw⟩
    · exact hw.elim
  | _ => exact (show False from hw).elim

/-! ### built-in calls -/
def bvB : Bi → Value
  | .len => .builtin "len" | .min => .builtin "min" | .max => .builtin "max" | .abs => .builtin "abs" | .sum => .builtin "sum" | .sorted => .builtin "sorted" | .list => .type "list" | .tuple => .type "tuple" | .int => .type "int" | .str => .type "str"
def rBi (K : PySem.W.Frag) (ca : Nat → Addr) (b : Bi) : List V → Hp → VK → Prop := fun Vs H Q => ∃ ms h xs Qm, RS K ca ms H h ∧ RVs H ms xs Vs ∧ wbi b xs h Qm ∧ Lf K ca ms H Qm Q
theorem CallR.imp {f : Value} {r r' : List V → Hp → VK → Prop} (b : CallR X f r) (h : ∀ xs H Q, r' xs H Q → r xs H Q) : CallR X f r' :=
  fun pins s σ H xs us Q I r1 q => b pins s σ H xs us Q I r1 (h _ _ _ q)
theorem ints_of {ms : List Addr} {H : Hp} : ∀ {xs : List Val} {ns : List Int} {vs : List V}, xs.mapM asI = some ns → RVs H ms xs vs → vs = ns.map V.int
  | _, k, _, e, .nil => by
    simp at e; subst e; rfl
  | _, k, _, e, .cons a t => by
    simp only [List.mapM_cons, Option.bind_eq_bind, Option.bind_eq_some_iff] at e
    obtain ⟨d, e1, r, e2, e3⟩ := e
    cases e3
    have ih := ints_of e2 t
    subst ih
    cases a <;> first
      | (cases e1; rfl)
      | cases e1
theorem strs_of {ms : List Addr} {H : Hp} : ∀ {xs : List Val} {ns : List Str} {vs : List V}, xs.mapM asS = some ns → RVs H ms xs vs → vs = ns.map V.str
  | _, k, _, e, .nil => by
    simp at e; subst e; rfl
  | _, k, _, e, .cons a t => by
    simp only [List.mapM_cons, Option.bind_eq_bind, Option.bind_eq_some_iff] at e
    obtain ⟨d, e1, r, e2, e3⟩ := e
    cases e3
    have ih := strs_of e2 t
    subst ih
    cases a <;> first
      | (cases e1; rfl)
      | cases e1
theorem greatest_of : ∀ {ns : List Int} {m : Int}, m ∈ ns → (∀ y ∈ ns, y ≤ m) → m = greatest ns
  | [], m, h, _ => by cases h
  | [x], m, h, _ => by simp at h; exact h
  | x :: y :: r, m, h, hle => by
    show m = max x (greatest (y :: r))
    have hx := hle x (by simp)
    rcases List.mem_cons.mp h with e | h
    · subst e
      have : greatest (y :: r) ≤ m := by
        have mem : ∀ (z : Int) (l : List Int), greatest (z :: l) ∈ z :: l := by
          intro z l
          induction l generalizing z with
          | nil => simp [greatest]
          | cons w l ih =>
            show max z (greatest (w :: l)) ∈ _
            rcases Int.le_total z (greatest (w :: l)) with q | q
            · rw [Int.max_eq_right q]; exact List.mem_cons_of_mem _ (ih w)
            · rw [Int.max_eq_left q]; exact List.mem_cons_self
        exact hle _ (List.mem_cons_of_mem _ (mem y r))
      rw [Int.max_eq_left this]
    · have ih := greatest_of h fun z hz => hle z (List.mem_cons_of_mem _ hz)
      rw [← ih, Int.max_eq_right hx]
theorem least_of : ∀ {ns : List Int} {m : Int}, m ∈ ns → (∀ y ∈ ns, m ≤ y) → m = least ns
  | [], m, h, _ => by cases h
  | [x], m, h, _ => by simp at h; exact h
  | x :: y :: r, m, h, hle => by
    show m = min x (least (y :: r))
    have hx := hle x (by simp)
    rcases List.mem_cons.mp h with e | h
    · subst e
      have : m ≤ least (y :: r) := by
        have mem : ∀ (z : Int) (l : List Int), least (z :: l) ∈ z :: l := by
          intro z l
          induction l generalizing z with
          | nil => simp [least]
          | cons w l ih =>
            show min z (least (w :: l)) ∈ _
            rcases Int.le_total z (least (w :: l)) with q | q
            · rw [Int.min_eq_left q]; exact List.mem_cons_self
            · rw [Int.min_eq_right q]; exact List.mem_cons_of_mem _ (ih w)
        exact hle _ (List.mem_cons_of_mem _ (mem y r))
      rw [Int.min_eq_left this]
    · have ih := least_of h fun z hz => hle z (List.mem_cons_of_mem _ hz)
      rw [← ih, Int.min_eq_right hx]
theorem cr_never {f : Value} {b : Bi} (h : ∀ xs h Q, wbi b xs h Q → False) : CallR X f (rBi X.K ca b) := fun pins s σ H xs us Q I r1 ⟨ms, h1, xs', Qm, rs, rx, hw, hq⟩ => (h _ _ _ hw).elim
theorem cr_bi (hc : X.calm = true) : ∀ b : Bi, CallR X (bvB b) (rBi X.K ca b)
  | .len => by
    refine CallR.imp (call_len.or call_lenD) fun Vs H Q ⟨ms, h, xs, Qm, rs, rx, hw, hq⟩ => ?_
    match xs, rx, hw with
    | [.tup ys], .cons r .nil, hw =>
      cases r with
      | tup ea ra => exact .inl ⟨_, ys.length, rfl, .inr ⟨_, sqT_of ea, ra.length⟩, hq.here rs (.int _) hw⟩
    | [.str z], .cons r .nil, hw =>
      cases r
      exact .inl ⟨_, z.length, rfl, ⟨hw.1, rfl⟩, hq.here rs (.int _) hw.2⟩
    | [.loc l], .cons r .nil, hw =>
      have hw : (match h[l]? with
        | some (.lst xs) => Qm (.int xs.length) h
        | some (.rol xs) => Qm (.int xs.length) h
        | some (.dK kvs) => Qm (.int kvs.length) h
        | _ => False) := hw
      split at hw
      · rename_i ys el
        obtain ⟨a, rfl, _, ro⟩ := rs.at el r
        obtain ⟨vs, sq, rv⟩ := ro.sqlL
        exact .inl ⟨_, ys.length, rfl, .inl ⟨_, sq, rv.length⟩, hq.here rs (.int _) hw⟩
      · rename_i ys el
        obtain ⟨a, rfl, _, ro⟩ := rs.at el r
        obtain ⟨vs, sq, rv⟩ := ro.sql
        exact .inl ⟨_, ys.length, rfl, .inl ⟨_, sq, rv.length⟩, hq.here rs (.int _) hw⟩
      · rename_i kvs el
        obtain ⟨a, rfl, _, ws, e, rk⟩ := rs.at el r
        refine .inr ⟨_, ws, rfl, e, ?_⟩
        rw [← rk.len]
        exact hq.here rs (.int _) hw
      · exact hw.elim
  | .int => by
    refine CallR.imp call_int1 fun Vs H Q ⟨ms, h, xs, Qm, rs, rx, hw, hq⟩ => ?_
    match xs, rx, hw with
    | [.int i], .cons r .nil, hw =>
      cases r
      exact .inl ⟨i, rfl, hq.here rs (.int _) hw⟩
    | [.bl b], .cons r .nil, hw =>
      cases r
      exact .inr ⟨b, rfl, hq.here rs (.int _) hw⟩
  | .abs => by
    refine CallR.imp call_abs fun Vs H Q ⟨ms, h, xs, Qm, rs, rx, hw, hq⟩ => ?_
    match xs, rx, hw with
    | [.int i], .cons r .nil, hw =>
      cases r
      exact ⟨i, rfl, hq.here rs (.int _) hw⟩
  | .str => by
    refine CallR.imp call_str_int fun Vs H Q ⟨ms, h, xs, Qm, rs, rx, hw, hq⟩ => ?_
    match xs, rx, hw with
    | [.int i], .cons r .nil, hw =>
      cases r
      exact ⟨i, rfl, hw.1, hq.here rs (.str _) hw.2⟩
  | .list => by
    refine CallR.imp call_list_of fun Vs H Q ⟨ms, h, xs, Qm, rs, rx, hw, hq⟩ => ?_
    match xs, rx, hw with
    | [x], .cons r .nil, hw =>
      have hw : (match seqM x h with
        | some xs => Qm (.loc h.length) (h ++ [.lst xs])
        | none => False) := hw
      cases x with
      | tup ys =>
        cases r with
        | tup ea ra => exact ⟨_, _, rfl, .inr (sqT_of ea), hq.newL rs ra hw⟩
      | loc l =>
        have hw : (match (match h[l]? with
          | some (.lst xs) => some xs
          | some (.rol xs) => some xs
          | _ => none) with
          | some xs => Qm (.loc h.length) (h ++ [.lst xs])
          | none => False) := hw
        split at hw
        · rename_i ys e
          split at e
          · rename_i zs el
            cases e
            obtain ⟨a, rfl, _, ro⟩ := rs.at el r
            obtain ⟨vs, sq, rv⟩ := ro.sqlL
            exact ⟨_, _, rfl, .inl sq, hq.newL rs rv hw⟩
          · rename_i zs el
            cases e
            obtain ⟨a, rfl, _, ro⟩ := rs.at el r
            obtain ⟨vs, sq, rv⟩ := ro.sql
            exact ⟨_, _, rfl, .inl sq, hq.newL rs rv hw⟩
          · cases e
        · exact hw.elim
      | _ => exact (show False from hw).elim
  | .tuple => by
    refine CallR.imp call_tuple_of fun Vs H Q ⟨ms, h, xs, Qm, rs, rx, hw, hq⟩ => ?_
    match xs, rx, hw with
    | [x], .cons r .nil, hw =>
      have hw : (match seqM x h with
        | some xs => Qm (.tup xs) h
        | none => False) := hw
      cases x with
      | tup ys =>
        cases r with
        | tup ea ra => exact ⟨_, _, rfl, .inr ⟨sqT_of ea, hq.here rs (.tup ea ra) hw⟩⟩
      | loc l =>
        have hw : (match (match h[l]? with
          | some (.lst xs) => some xs
          | some (.rol xs) => some xs
          | _ => none) with
          | some xs => Qm (.tup xs) h
          | none => False) := hw
        split at hw
        · rename_i ys e
          split at e
          · rename_i zs el
            cases e
            obtain ⟨a, rfl, _, ro⟩ := rs.at el r
            obtain ⟨vs, sq, rv⟩ := ro.sqlL
            exact ⟨_, _, rfl, .inl ⟨sq, hq.newT rs rv hw⟩⟩
          · rename_i zs el
            cases e
            obtain ⟨a, rfl, _, ro⟩ := rs.at el r
            obtain ⟨vs, sq, rv⟩ := ro.sql
            exact ⟨_, _, rfl, .inl ⟨sq, hq.newT rs rv hw⟩⟩
          · cases e
        · exact hw.elim
      | _ => exact (show False from hw).elim
  | .sum => by
    refine CallR.imp (cr_sum hc) fun Vs H Q ⟨ms, h, xs, Qm, rs, rx, hw, hq⟩ => ?_
    match xs, rx, hw with
    | [.loc l], .cons r .nil, hw =>
      have hw : (match h[l]? with
        | some (.lst xs) => (match xs.mapM asI with
          | some ns => Qm (.int ns.sum) h
          | none => False)
        | _ => False) := hw
      split at hw
      · rename_i ys el
        split at hw
        · rename_i ns en
          obtain ⟨a, rfl, _, ro⟩ := rs.at el r
          obtain ⟨vs, sq, rv⟩ := ro.sqlL
          have := ints_of en rv
          subst this
          exact ⟨_, ns, rfl, sq, hq.here rs (.int _) hw⟩
        · exact hw.elim
      · exact hw.elim
  | .max => by
    refine CallR.imp ((call_max2 hc).or (cr_max hc)) fun Vs H Q ⟨ms, h, xs, Qm, rs, rx, hw, hq⟩ => ?_
    match xs, rx, hw with
    | [.int i, .int j], .cons r (.cons r' .nil), hw =>
      cases r; cases r'
      exact .inl ⟨i, j, rfl, hq.here rs (.int _) hw⟩
    | [.loc l], .cons r .nil, hw =>
      have hw : (match h[l]? with
        | some (.lst xs) => (match xs.mapM asI with
          | some ns => 0 < ns.length ∧ Qm (.int (greatest ns)) h
          | none => False)
        | _ => False) := hw
      split at hw
      · rename_i ys el
        split at hw
        · rename_i ns en
          obtain ⟨a, rfl, _, ro⟩ := rs.at el r
          obtain ⟨vs, sq, rv⟩ := ro.sqlL
          have := ints_of en rv
          subst this
          exact .inr ⟨_, ns, rfl, sq, hw.1, fun m h1 h2 => by rw [greatest_of h1 h2]; exact hq.here rs (.int _) hw.2⟩
        · exact hw.elim
      · exact hw.elim
  | .min => by
    refine CallR.imp ((call_min2 hc).or (cr_min hc)) fun Vs H Q ⟨ms, h, xs, Qm, rs, rx, hw, hq⟩ => ?_
    match xs, rx, hw with
    | [.int i, .int j], .cons r (.cons r' .nil), hw =>
      cases r; cases r'
      exact .inl ⟨i, j, rfl, hq.here rs (.int _) hw⟩
    | [.loc l], .cons r .nil, hw =>
      have hw : (match h[l]? with
        | some (.lst xs) => (match xs.mapM asI with
          | some ns => 0 < ns.length ∧ Qm (.int (least ns)) h
          | none => False)
        | _ => False) := hw
      split at hw
      · rename_i ys el
        split at hw
        · rename_i ns en
          obtain ⟨a, rfl, _, ro⟩ := rs.at el r
          obtain ⟨vs, sq, rv⟩ := ro.sqlL
          have := ints_of en rv
          subst this
          exact .inr ⟨_, ns, rfl, sq, hw.1, fun m h1 h2 => by rw [least_of h1 h2]; exact hq.here rs (.int _) hw.2⟩
        · exact hw.elim
      · exact hw.elim
  | .sorted => cr_never fun xs h Q w => w

/-! ### methods of built-in types -/
def idM : BM → String
  | .append => "list.append" | .pop => "list.pop" | .get => "dict.get" | .insert => "list.insert" | .extend => "list.extend" | .reverse => "list.reverse" | .join => "str.join"
def rBM (K : PySem.W.Frag) (ca : Nat → Addr) (m : BM) : V → List V → Hp → VK → Prop := fun V1 Vs H Q => ∃ ms h x xs Qm, RS K ca ms H h ∧ RV H ms x V1 ∧ RVs H ms xs Vs ∧ wbm m x xs h Qm ∧ Lf K ca ms H Qm Q
theorem Lf.put {K : PySem.W.Frag} {ca : Nat → Addr} {ms : List Addr} {H : Hp} {Qm : KV1} {Q : VK} {h : MH} {l : Nat} {a : Addr} {xs ys : List Val} {vs us : List V} {v : Val} {V : V} (q : Lf K ca ms H Qm Q) (rs : RS K ca ms H h)
    (el : h[l]? = some (.lst xs)) (ea : ms[l]? = some a) (ha : H a = some (.lst vs)) (rv : RVs H ms ys us) (r : RV H ms v V) (w : Qm v (h.set l (.lst ys))) : Q V (upd H a (.lst us)) := by
  have x : Xt ms H ms (upd H a (.lst us)) := xt_put ha (fun _ z => nomatch z)
  exact q _ _ _ _ _ x (rs.put (o' := .lst ys) el (fun _ z => nomatch z) ea ha (fun _ z => nomatch z) ⟨us, upd_same, rv.mono x⟩) (r.mono x) w
theorem mt_mini (hu : X.A.units + 65 < cLine) : ∀ m : BM, MtR X (idM m) (rBM X.K ca m)
  | .append => fun pins s σ H x xs v us Q I r1 r2 ⟨ms, h, x', xs', Qm, rs, rx, rxs, hw, hq⟩ => by
    match x', xs', rx, rxs, hw with
    | .loc l, [y], rx, .cons ry .nil, hw =>
      have hw : (match h[l]? with
        | some (.lst xs) => xs.length < sizeLine ∧ Qm .non (h.set l (.lst (xs ++ [y])))
        | _ => False) := hw
      split at hw
      · rename_i ys el
        obtain ⟨a, rfl, ea, vs, e, rv⟩ := rs.at el rx
        exact mt_append pins s σ H _ _ v us Q I r1 r2 ⟨a, vs, _, rfl, rfl, e, by rw [← rv.length]; exact hw.1, hq.put rs el ea e (rv.append (.cons ry .nil)) .non hw.2⟩
      · exact hw.elim
  | .pop => fun pins s σ H x xs v us Q I r1 r2 ⟨ms, h, x', xs', Qm, rs, rx, rxs, hw, hq⟩ => by
    match x', xs', rx, rxs, hw with
    | .loc l, [], rx, .nil, hw =>
      have hw : (match h[l]? with
        | some (.lst xs) => (match xs[xs.length - 1]? with
          | some v => Qm v (h.set l (.lst xs.dropLast))
          | none => False)
        | _ => False) := hw
      split at hw
      · rename_i ys el
        split at hw
        · rename_i y ey
          obtain ⟨a, rfl, ea, vs, e, rv⟩ := rs.at el rx
          obtain ⟨w, ew, rw'⟩ := rv.get ey
          exact mt_pop pins s σ H _ _ v us Q I r1 r2 ⟨a, vs, w, rfl, rfl, e, by rw [← rv.length]; exact ew, hq.put rs el ea e rv.dropLast rw' hw⟩
        · exact hw.elim
      · exact hw.elim
  | .get => fun pins s σ H x xs v us Q I r1 r2 ⟨ms, h, x', xs', Qm, rs, rx, rxs, hw, hq⟩ => by
    match x', xs', rx, rxs, hw with
    | .loc l, [k, d], rx, .cons rk (.cons rd .nil), hw =>
      have hw : (match h[l]? with
        | some o => getM o k fun r => Qm (r.getD d) h
        | none => False) := hw
      split at hw
      · rename_i o el
        obtain ⟨a, rfl, ea, ro⟩ := rs.at el rx
        obtain ⟨r, r', g, q, c⟩ := get_of ro rk hw
        obtain rfl : v = Value.ref a := r1
        cases r2 with
        | cons p1 p2 =>
          cases p2 with
          | cons p3 p4 =>
            cases p4
            refine d_get2 (by omega) I g p1 p3 fun w' s' I' rw' => ⟨_, H, I', rw', ?_⟩
            rcases c with ⟨e1, e2⟩ | ⟨z, u, e1, e2, rv⟩
            · subst e1 e2
              exact hq.here rs rd q
            · subst e1 e2
              exact hq.here rs rv q
      · exact hw.elim
  | .join => fun pins s σ H x xs v us Q I r1 r2 ⟨ms, h, x', xs', Qm, rs, rx, rxs, hw, hq⟩ => by
    match x', xs', rx, rxs, hw with
    | .str z, [.loc l], rx, .cons ry .nil, hw =>
      have hw : (match h[l]? with
        | some (.lst xs) => (match xs.mapM asS with
          | some ys => (ys.map (·.length)).sum + ys.length * z.length ≤ 16777216 ∧ Qm (.str (Txt.join z ys)) h
          | none => False)
        | _ => False) := hw
      split at hw
      · rename_i ys el
        split at hw
        · rename_i ns en
          obtain ⟨a, rfl, _, ro⟩ := rs.at el ry
          obtain ⟨vs, sq, rv⟩ := ro.sqlL
          have := strs_of en rv
          subst this
          cases rx
          exact mt_join pins s σ H _ _ v us Q I r1 r2 ⟨z, a, ns, rfl, rfl, .inl sq, hw.1, hq.here rs (.str _) hw.2⟩
        · exact hw.elim
      · exact hw.elim
  | .insert => fun pins s σ H x xs v us Q I r1 r2 ⟨ms, h, x', xs', Qm, rs, rx, rxs, hw, hq⟩ => (show False from hw).elim
  | .extend => fun pins s σ H x xs v us Q I r1 r2 ⟨ms, h, x', xs', Qm, rs, rx, rxs, hw, hq⟩ => (show False from hw).elim
  | .reverse => fun pins s σ H x xs v us Q I r1 r2 ⟨ms, h, x', xs', Qm, rs, rx, rxs, hw, hq⟩ => (show False from hw).elim

/-! ### stores -/
def rSet (K : PySem.W.Frag) (ca : Nat → Addr) : TSet := fun V1 V2 V3 H Q => ∃ ms h x y z Qm, RS K ca ms H h ∧ RV H ms x V1 ∧ RV H ms y V2 ∧ RV H ms z V3 ∧ wset x y z h Qm ∧ ∀ h' H', Xt ms H ms H' → RS K ca ms H' h' → Qm h' → Q H'
theorem set_mini (hu : X.A.units + 65 < cLine) : PSet X (rSet X.K ca) := by
  intro pins s σ H o i v ov iv u Q I ro ri rv ⟨ms, h, x, y, z, Qm, rs, rx, ry, rz, hw, hq⟩
  cases x with
  | loc l =>
    have hw : (match h[l]? with
      | some (.lst xs) => wputL xs y z fun ys => Qm (h.set l (.lst ys))
      | some (.dK kvs) => wputK kvs y z fun ys => Qm (h.set l (.dK ys))
      | some (.dT kvs) => wputT kvs y z fun ys => Qm (h.set l (.dT ys))
      | _ => False) := hw
    split at hw
    · rename_i xs el
      obtain ⟨a, rfl, ea, vs, e, rvs⟩ := rs.at el rx
      cases y with
      | int k =>
        cases ry
        have hw : (match ixN xs.length k with
          | some j => Qm (h.set l (.lst (xs.set j z)))
          | none => False) := hw
        split at hw
        · rename_i j ej
          have x : Xt ms H ms (upd H a (.lst (vs.set j v))) := xt_put e (fun _ z => nomatch z)
          exact set_list pins s σ H _ _ _ ov iv u Q I ro ri rv ⟨a, vs, k, j, rfl, rfl, e, by rw [← rvs.length]; exact ej,
            hq _ _ x (rs.put (o' := .lst (xs.set j z)) el (fun _ z => nomatch z) ea e (fun _ z => nomatch z) ⟨_, upd_same, (rvs.set j rz).mono x⟩) hw⟩
        · exact hw.elim
      | _ => exact (show False from hw).elim
    · rename_i kvs el
      obtain ⟨a, rfl, ea, ws, e, rk⟩ := rs.at el rx
      have hw : (match keyM y with
        | some k => kvs.length < sizeLine ∧ Qm (h.set l (.dK (putM kvs k z)))
        | none => False) := hw
      split at hw
      · rename_i k ek
        have x : Xt ms H ms (upd H a (.dK (putK ws k v))) := xt_put e (fun _ z => nomatch z)
        obtain rfl : ov = Value.ref a := ro
        have g : DPut H a i v (upd H a (.dK (putK ws k v))) := by
          have key : i = kV k := by
            cases y <;> first
              | (cases ry; cases ek; rfl)
              | cases ek
          rw [key]
          exact DPut.k e (by rw [← rk.len]; exact hw.1)
        refine d_setItem (by omega) I g ri rv fun s' I' => ⟨_, I', hq _ _ x (rs.put (o' := .dK (putM kvs k z)) el (fun _ z => nomatch z) ea e (fun _ z => nomatch z) ⟨_, upd_same, (rk.put k rz).mono x⟩) hw.2⟩
      · exact hw.elim
    · rename_i kvs el
      obtain ⟨a, rfl, ea, ws, e, rk⟩ := rs.at el rx
      cases y with
      | tup ks =>
        have hw : (match ks.mapM keyM with
          | some k => kvs.length < sizeLine ∧ Qm (h.set l (.dT (putM kvs k z)))
          | none => False) := hw
        split at hw
        · rename_i k ek
          have x : Xt ms H ms (upd H a (.dT (putK ws k v))) := xt_put e (fun _ z => nomatch z)
          obtain rfl : ov = Value.ref a := ro
          cases ry with
          | tup eb rb =>
            have key := keys_kV ek rb
            subst key
            have g := DPut.t (v := v) e eb (by rw [← rk.len]; exact hw.1)
            refine d_setItem (by omega) I g ri rv fun s' I' => ⟨_, I', hq _ _ x (rs.put (o' := .dT (putM kvs k z)) el (fun _ z => nomatch z) ea e (fun _ z => nomatch z) ⟨_, upd_same, (rk.put k rz).mono x⟩) hw.2⟩
        · exact hw.elim
      | _ => exact (show False from hw).elim
    · exact hw.elim
  | _ => exact (show False from hw).elim

/-! ### truth -/
theorem tru_of {K : PySem.W.Frag} {ms : List Addr} {H : Hp} {h : MH} {x : Val} {Q : Bool → Prop} {V1 : V} (rs : RS K ca ms H h) (rx : RV H ms x V1) (w : wtru x h Q) : ∃ k, TruV K V1 H k ∧ Q k := by
  cases x with
  | non => cases rx; exact ⟨false, rfl, w⟩
  | bl b => cases rx; exact ⟨b, rfl, w⟩
  | int i => cases rx; exact ⟨_, rfl, w⟩
  | str z => cases rx; exact ⟨_, ⟨w.1, rfl⟩, w.2⟩
  | tup xs =>
    cases rx with
    | tup ea ra => exact ⟨_, .inr (.inl ⟨_, sqT_of ea, rfl⟩), by rw [← ra.isEmpty]; exact w⟩
  | loc l =>
    have w : (match h[l]? with
      | some (.lst xs) => Q (!xs.isEmpty)
      | some (.rol xs) => Q (!xs.isEmpty)
      | some (.dK kvs) => Q (!kvs.isEmpty)
      | _ => False) := w
    split at w
    · rename_i xs el
      obtain ⟨a, rfl, _, ro⟩ := rs.at el rx
      obtain ⟨vs, sq, rv⟩ := ro.sqlL
      exact ⟨_, .inl ⟨_, sq, rfl⟩, by rw [← rv.isEmpty]; exact w⟩
    · rename_i xs el
      obtain ⟨a, rfl, _, ro⟩ := rs.at el rx
      obtain ⟨vs, sq, rv⟩ := ro.sql
      exact ⟨_, .inl ⟨_, sq, rfl⟩, by rw [← rv.isEmpty]; exact w⟩
    · rename_i kvs el
      obtain ⟨a, rfl, _, ws, e, rk⟩ := rs.at el rx
      refine ⟨_, .inr (.inr ⟨_, e, rfl⟩), ?_⟩
      have : kvs.isEmpty = ws.isEmpty := by cases rk <;> rfl
      rw [← this]; exact w
    · exact w.elim
/-! ### isinstance -/
def tyN : Ty → String
  | .int => "int" | .bool => "bool" | .str => "str" | .list => "list" | .tuple => "tuple"
def rIs (K : PySem.W.Frag) (ca : Nat → Addr) (t : Ty) : List V → Hp → VK → Prop := fun Vs H Q => ∃ ms h x V1 Qm, Vs = [V1, .ty (tyN t)] ∧ RS K ca ms H h ∧ RV H ms x V1 ∧ isM x h t Qm ∧ ∀ b, Qm b → Q (.bl b) H
theorem cr_isi (t : Ty) : CallR X (.builtin "isinstance") (rIs X.K ca t) := by
  refine CallR.imp call_isi fun Vs H Q ⟨ms, h, x, V1, Qm, e, rs, rx, hw, hq⟩ => ?_
  subst e
  have fin : ∀ (ty : String) (b : Bool), TyX X.K H V1 (.type ty) → kitB ty (tyN t) = some b → Qm b → rIsi X.K [V1, .ty (tyN t)] H Q := fun ty b h1 h2 q => ⟨V1, .ty (tyN t), .type ty, .type (tyN t), b, rfl, .ty _, h1, kit_ty h2, hq b q⟩
  cases x with
  | non => cases rx; exact fin "NoneType" false (.base .non) (by cases t <;> decide +kernel) hw
  | bl b => cases rx; exact fin "bool" _ (.base (.bl b)) (by cases t <;> decide +kernel) hw
  | int i => cases rx; exact fin "int" _ (.base (.int i)) (by cases t <;> decide +kernel) hw
  | str z => cases rx; exact fin "str" _ (.base (.str z)) (by cases t <;> decide +kernel) hw
  | tup xs =>
    cases rx with
    | tup ea ra => exact fin "tuple" _ (.base (.tup ea)) (by cases t <;> decide +kernel) hw
  | loc l =>
    have hw : (match h[l]? with
      | some (.lst _) => Qm (tLi t)
      | some (.rol _) => Qm (tLi t)
      | _ => False) := hw
    have kk : kitB "list" (tyN t) = some (tLi t) := by cases t <;> decide +kernel
    split at hw
    · rename_i xs el
      obtain ⟨a, rfl, _, vs, e, rv⟩ := rs.at el rx
      exact fin "list" _ (.base (.lst e)) kk hw
    · rename_i xs el
      obtain ⟨a, rfl, _, vs, e, rv⟩ := rs.at el rx
      rcases e with (e | ⟨o, e⟩) | ⟨o, its, n, e, c, _⟩
      · exact fin "list" _ (.base (.lst e)) kk hw
      · exact fin "list" _ (.base (.frz e)) kk hw
      · exact fin "list" _ (.kList e c) kk hw
    · exact hw.elim
end
end Mn

/-! Mn5: from Python's expressions to the core language's: the translation, and that it says the truth. -/
namespace Mn
open PySem PySem.Spec PyProof.Rows L2

/-! ### names -/
structure Gm where
  fn : List (Str × Nat)
  cl : List (Str × Nat)
  xc : List (Str × Nat)
  ct : List (Str × Val)
  um : List Str
  tk : List (Nat × Nat)
def ixOf : List Str → Str → Option Nat
  | [], _ => none
  | y :: r, x => if y = x then some 0 else (ixOf r x).map (· + 1)
theorem ixOf_get : ∀ {N : List Str} {x : Str} {i : Nat}, ixOf N x = some i → N[i]? = some x
  | [], _, _, h => by cases h
  | y :: r, x, i, h => by
    unfold ixOf at h
    split at h
    · rename_i e
      cases h
      simp [e]
    · obtain ⟨j, hj, rfl⟩ := Option.map_eq_some_iff.mp h
      simpa using ixOf_get hj
def visB (sc : Scope) (x : Str) : Bool := match sc.names.lookup x with
  | some .local => true | some .cell => true | some .free => true | _ => false
def locB (sc : Scope) (x : Str) : Bool := match sc.names.lookup x with
  | some .local => true | some .cell => true | _ => false
def glB (sc : Scope) (x : Str) : Bool := match sc.names.lookup x with
  | some .globalImplicit => true | _ => false
def plainE : Expr → Bool
  | .Starred .. => false | .Slice .. => false | .Set .. => false | _ => true
def recvOk : Expr → Bool
  | .Call (.Name id _) [] [] _ => id != ("super" : Str)
  | _ => true
def boOf : Operator → Option BO
  | .Add => some .add | .Sub => some .sub | .Mult => some .mul | .FloorDiv => some .fdiv | .Mod => some .mod | .LShift => some .shl | .RShift => some .shr | .BitAnd => some .band | .BitOr => some .bor | _ => none
def coOf : CmpOp → CO
  | .Eq => .eq | .NotEq => .ne | .Lt => .lt | .LtE => .le | .Gt => .gt | .GtE => .ge | .In => .isin | .NotIn => .notin | .Is => .is | .IsNot => .isnot
theorem opB_of {o : Operator} {b : BO} (h : boOf o = some b) : opB b = o := by cases o <;> first | (cases h; rfl) | cases h
theorem opC_of (o : CmpOp) : opC (coOf o) = o := by cases o <;> rfl
def biN : List (Str × Bi) := [("len", .len), ("min", .min), ("max", .max), ("abs", .abs), ("sum", .sum), ("list", .list), ("tuple", .tuple), ("int", .int), ("str", .str)]
def bmN : List (Str × BM) := [("append", .append), ("pop", .pop), ("get", .get), ("join", .join)]
def tyNs : List (Str × Ty) := [("int", .int), ("bool", .bool), ("str", .str), ("list", .list), ("tuple", .tuple)]
/-- the built-in names that the program leaves alone -/
def frees : List Str := ["len", "min", "max", "abs", "sum", "list", "tuple", "int", "str", "range", "enumerate", "zip", "isinstance", "bool", "sorted"]
theorem biN_ok : ∀ p ∈ biN, bootBuiltins p.1 = some (bvB p.2) ∧ frees.contains p.1 = true ∧ p.1 ≠ "__name__" ∧ (p.1 == ("__debug__" : Str)) = false := by decide +kernel
theorem tyNs_ok : ∀ p ∈ tyNs, bootBuiltins p.1 = some (.type (tyN p.2)) ∧ frees.contains p.1 = true ∧ p.1 ≠ "__name__" ∧ (p.1 == ("__debug__" : Str)) = false := by decide +kernel
theorem lookup_mem {α : Type} : ∀ {l : List (Str × α)} {x : Str} {a : α}, l.lookup x = some a → (x, a) ∈ l
  | (y, b) :: r, x, a, h => by
    rw [List.lookup_cons] at h
    cases q : x == y with
    | true =>
      rw [q] at h
      cases h
      rw [beq_iff_eq.mp q]
      exact List.mem_cons_self
    | false =>
      rw [q] at h
      exact List.mem_cons_of_mem _ (lookup_mem h)

/-! ### the translation -/
structure Cp where
  e : Bool → Scope → Expr → Option E
  b : Bool → Scope → Expr → Option B
  it : Bool → Scope → Expr → Expr → Option It
  t : Bool → Scope → Expr → Option T
def cEs (f : Expr → Option E) : List Expr → Option Es
  | [] => some .nil
  | e :: r => (f e).bind fun a => (cEs f r).bind fun b => some (.cons a b)
def cTs (f : Expr → Option T) : List Expr → Option Ts
  | [] => some .nil
  | e :: r => (f e).bind fun a => (cTs f r).bind fun b => some (.cons a b)
def cBin (c : E → E → E) (f : Expr → Option E) : List Expr → Option E
  | [] => none
  | [a] => f a
  | a :: b :: r => (f a).bind fun x => (cBin c f (b :: r)).bind fun y => some (c x y)
def cBinB (c : B → B → B) (f : Expr → Option B) : List Expr → Option B
  | [] => none
  | [a] => f a
  | a :: b :: r => (f a).bind fun x => (cBinB c f (b :: r)).bind fun y => some (c x y)
def cO (f : Expr → Option E) : Option Expr → Option O
  | none => some .none
  | some e => (f e).map .some
def cIfs (f : Expr → Option B) : List Expr → Option Bs
  | [] => some .nil
  | [c] => (f c).map fun b => .cons b .nil
  | _ => none
def ownOf (N : List Str) : List (Str × NameKind) → List (Str × Nat)
  | [] => []
  | (y, k) :: r => match k, ixOf N y with
    | .local, some i => (y, i) :: ownOf N r
    | .cell, some i => (y, i) :: ownOf N r
    | _, _ => ownOf N r
def notSpecial (x : Str) : Bool := !(x == ("__debug__" : Str)) && !(x == ("__classdict__" : Str))
def cIsi (c : Cp) (hot : Bool) (sc : Scope) : List Expr → Option E
  | [a, .Name t _] => if glB sc t then (tyNs.lookup t).bind fun ty => (c.e hot sc a).map fun m => .isi m ty else none
  | _ => none
def cExpr (g : Gm) (N : List Str) (c : Cp) (hot : Bool) (sc : Scope) : Expr → Option E
  | .Name x _ => if visB sc x && notSpecial x then (ixOf N x).map .var else if glB sc x && notSpecial x then (g.ct.lookup x).map .con else none
  | .Constant v _ _ => (match v with
    | .none => some (.con .non)
    | .bool b => some (.con (.bl b))
    | .int i => some (.con (.int i))
    | .str s => some (.con (.str s))
    | _ => none)
  | .BinOp a o b _ => (boOf o).bind fun o => (c.e hot sc a).bind fun x => (c.e hot sc b).bind fun y => some (.bin o x y)
  | .UnaryOp .USub a _ => (c.e hot sc a).map .neg
  | .UnaryOp .Not a _ => (c.e hot sc a).map .notv
  | .BoolOp .And vs _ => cBin .andv (c.e hot sc) vs
  | .BoolOp .Or vs _ => cBin .orv (c.e hot sc) vs
  | .IfExp t a b _ => (c.b hot sc t).bind fun t => (c.e hot sc a).bind fun x => (c.e hot sc b).bind fun y => some (.ite t x y)
  | .Compare a [o] [b] _ => (c.e hot sc a).bind fun x => (c.e hot sc b).bind fun y => some (.cmp (coOf o) x y)
  | .Tuple es _ _ => (cEs (c.e hot sc) es).map .tup
  | .List es _ => (cEs (c.e hot sc) es).map .lst
  | .Dict [] [] pos => some (.dnew (g.tk.contains (pos.line, pos.col)))
  | .Subscript a (.Slice lo hi none _) _ => (c.e hot sc a).bind fun x => (cO (c.e hot sc) lo).bind fun l => (cO (c.e hot sc) hi).bind fun u => some (.sl x l u)
  | .Subscript a b _ => (c.e hot sc a).bind fun x => (c.e hot sc b).bind fun y => some (.item x y)
  | .Attribute o f _ => if recvOk o then (c.e hot sc o).map fun x => .fld x f else none
  | .Call (.Name x _) args [] _ => if glB sc x && notSpecial x then
      (if x == ("isinstance" : Str) then cIsi c hot sc args else if hot then none else (match g.fn.lookup x with
        | some f => (cEs (c.e hot sc) args).map (.call f)
        | none => (match g.cl.lookup x with
          | some k => (cEs (c.e hot sc) args).map (.make k)
          | none => if args.isEmpty then none else (biN.lookup x).bind fun b => (cEs (c.e hot sc) args).map (.blt b))))
    else none
  | .Call (.Attribute o m ap) args [] cp => if recvOk o && (ap.endLine == cp.line) && decide (args.length < 29) then
      (if g.um.contains m then (if hot then none else (c.e hot sc o).bind fun x => (cEs (c.e hot sc) args).map (.meth m x))
      else (bmN.lookup m).bind fun b => (c.e hot sc o).bind fun x => (cEs (c.e hot sc) args).map (.bm b x))
    else none
  | .ListComp el [⟨tg, iter, ifs, 0⟩] scope _ => if hot then none else if blkC N sc scope (ownOf N scope.names) then
      (c.t hot scope tg).bind fun t => (c.it hot sc tg iter).bind fun it => (cIfs (c.b hot scope) ifs).bind fun bs => (c.e hot scope el).bind fun m => if (t.sl.all fun i => ((ownOf N scope.names).map (·.2)).contains i) then some (.lc t it bs ((ownOf N scope.names).map (·.2)) m) else none
    else none
  | _ => none
def cTest (c : Cp) (hot : Bool) (sc : Scope) : Expr → Option B
  | .UnaryOp .Not a _ => (c.b hot sc a).map .not
  | .BoolOp .And vs _ => cBinB .and (c.b hot sc) vs
  | .BoolOp .Or vs _ => cBinB .or (c.b hot sc) vs
  | .IfExp .. => none
  | .Compare a [o] [b] _ => (c.e hot sc a).bind fun x => (c.e hot sc b).bind fun y => some (.e (.cmp (coOf o) x y))
  | .Compare .. => none
  | e => (c.e hot sc e).map .e
def isTupT : Expr → Bool
  | .Tuple .. => true
  | _ => false
def cIter (c : Cp) (hot : Bool) (sc : Scope) (tg : Expr) : Expr → Option It
  | .Call (.Name x p) args [] q => if glB sc x && (x == ("range" : Str)) then (match args with
        | [a] => (c.e hot sc a).map .rng1
        | [a, b] => (c.e hot sc a).bind fun u => (c.e hot sc b).bind fun v => some (.rng2 u v)
        | _ => none)
      else if glB sc x && (x == ("enumerate" : Str)) then (match args with
        | [a] => if isTupT tg then (c.e hot sc a).map .enum else none
        | _ => none)
      else (c.e hot sc (.Call (.Name x p) args [] q)).map .val
  | e => (c.e hot sc e).map .val
def cTarget (N : List Str) (c : Cp) (hot : Bool) (sc : Scope) : Expr → Option T
  | .Name x _ => if locB sc x then (ixOf N x).map .nm else none
  | .Tuple es _ _ => if hot then none else (cTs (c.t hot sc) es).map .tup
  | .Subscript o i _ => (c.e hot sc o).bind fun x => (c.e hot sc i).bind fun y => some (.sub x y)
  | _ => none
def cp (g : Gm) (N : List Str) : Nat → Cp
  | 0 => ⟨fun _ _ _ => none, fun _ _ _ => none, fun _ _ _ _ => none, fun _ _ _ => none⟩
  | n + 1 => ⟨cExpr g N (cp g N n), cTest (cp g N n), cIter (cp g N n), cTarget N (cp g N n)⟩

/-! ### syntax -/
theorem cexpr_plain {g : Gm} {N : List Str} {c : Cp} {hot : Bool} {sc : Scope} {e : Expr} {m : E} (h : cExpr g N c hot sc e = some m) : plainE e = true := by
  cases e <;> first | rfl | cases h
theorem cp_plain {g : Gm} {N : List Str} {n : Nat} {hot : Bool} {sc : Scope} {e : Expr} {m : E} (h : (cp g N n).e hot sc e = some m) : plainE e = true := by
  cases n with
  | zero => cases h
  | succ n => exact cexpr_plain h
theorem star_cons {e : Expr} {es : List Expr} {env : Env} (h : plainE e = true) : starEach (e :: es) env = (false, eval e env) :: starEach es env := by
  cases e <;> first | rfl | cases h
theorem star_any : ∀ {es : List Expr} {env : Env} {pos : Pos}, (∀ e ∈ es, plainE e = true) → (backTo pos (starEach es env)).any (·.1) = false
  | [], _, _, _ => rfl
  | e :: es, env, pos, h => by
    rw [star_cons (h e List.mem_cons_self)]
    show (false || (backTo pos (starEach es env)).any (·.1)) = false
    rw [star_any fun x hx => h x (List.mem_cons_of_mem _ hx)]
    rfl
theorem star_all : ∀ {es : List Expr} {env : Env} {pos : Pos}, (∀ e ∈ es, plainE e = true) → (backTo pos (starEach es env)).all (fun x => !x.1) = true
  | [], _, _, _ => rfl
  | e :: es, env, pos, h => by
    rw [star_cons (h e List.mem_cons_self)]
    show (true && (backTo pos (starEach es env)).all (fun x => !x.1)) = true
    rw [star_all fun x hx => h x (List.mem_cons_of_mem _ hx)]
    rfl
theorem few_ok {es : List Expr} {env : Env} {pos : Pos} (h : ∀ e ∈ es, plainE e = true) (hl : es.length < 29) : ((backTo pos (starEach es env)).all (fun x => !x.1) && (backToKw pos (keywordEach [] env)).all (fun x => x.1.isSome)
      && decide (es.length + ([] : List Keyword).length + (if ([] : List Keyword).isEmpty then 0 else 1) < 30)) = true := by
  rw [star_all h]
  show (true && true && decide (es.length + 0 + 0 < 30)) = true
  rw [decide_eq_true (show es.length + 0 + 0 < 30 by omega)]
  rfl
theorem ces_plain {f : Expr → Option E} (hf : ∀ e m, f e = some m → plainE e = true) : ∀ {es : List Expr} {ms : Es}, cEs f es = some ms → ∀ e ∈ es, plainE e = true
  | e :: r, ms, h, x, hx => by
    unfold cEs at h
    obtain ⟨a, h1, h2⟩ := Option.bind_eq_some_iff.mp h
    obtain ⟨b, h3, _⟩ := Option.bind_eq_some_iff.mp h2
    rcases List.mem_cons.mp hx with rfl | hx
    · exact hf _ _ h1
    · exact ces_plain hf h3 x hx
theorem abase {o : Expr} {f : Str} {env : Env} {w : Sem Value} (h : recvOk o = true) : attributeBase o f env w = w := by
  unfold attributeBase
  split
  · rename_i id _ _
    have h : (id != ("super" : Str)) = true := h
    rw [h]
    rfl
  · rfl
theorem plain_ix {b : Expr} (h : plainE b = true) : ∀ o i, subscripted b false o i = operate [o, i] (getItem o i) := by
  intro o i
  cases b <;> first | rfl | cases h
theorem plain_mark {op : CmpOp} {b : Expr} (h : plainE b = true) : behindInMarks op b = false := by
  cases b <;> first | rfl | cases h
theorem plain_fold {e : Expr} {env : Env} (h : plainE e = true) : ∀ x, foldedSetIterable e env x = pure x := by
  intro x
  cases e <;> first | rfl | cases h

/-! ### lifting -/
section
variable (K : PySem.W.Frag) (ca xa : Nat → Addr) (nx : Nat)
def LfR {α β : Type} (rel : Hp → List Addr → α → β → Prop) (ms : List Addr) (H : Hp) (Qm : α → MH → Prop) (Q : β → Hp → Prop) : Prop :=
  ∀ a h' ms' H' b, Xt ms H ms' H' → RS K ca ms' H' h' → rel H' ms' a b → Qm a h' → Q b H'
def LfX (ms : List Addr) (H : Hp) (Wm : KX1) (E : XK) : Prop :=
  ∀ x h' ms' H' d, Xt ms H ms' H' → RS K ca ms' H' h' → x.c < nx → RX H' ms' x d → Wm x h' → E (.ref (xa x.c)) d H'
def tR {α β : Type} (rel : Hp → List Addr → α → β → Prop) (W : WX) (m : Ev → MH → (α → MH → Prop) → KX1 → Prop) : St → Hp → (β → Hp → Prop) → Prop := fun σ H Q =>
  ∃ ms h env Qm Wm, RS K ca ms H h ∧ RE H ms env σ ∧ m env h Qm Wm ∧ LfR K ca rel ms H Qm Q ∧ LfX K ca xa nx ms H Wm (WE W σ)
abbrev eqR {α : Type} : Hp → List Addr → α → α → Prop := fun _ _ a b => a = b
abbrev tE (W : WX) (m : Ev → MH → KV1 → KX1 → Prop) : TE := tR K ca xa nx RV W m
abbrev tA (W : WX) (m : Ev → MH → (List Val → MH → Prop) → KX1 → Prop) : TA := tR K ca xa nx RVs W m
abbrev tT (W : WX) (m : Ev → MH → (Bool → MH → Prop) → KX1 → Prop) : TT := tR K ca xa nx eqR W m
/-- a def's promise -/
def spM (G : Tab) (k f : Nat) : Sp := fun vs H Q E => ∃ ms h xs Qm Wm, RS K ca ms H h ∧ RVs H ms xs vs ∧ wcall G k f xs h Qm Wm ∧ Lf K ca ms H Qm Q ∧ LfX K ca xa G.nx ms H Wm E
end
section
variable {K : PySem.W.Frag} {ca xa : Nat → Addr} {nx : Nat} {ms ms1 : List Addr} {H H1 : Hp} {h : MH} {env : Ev} {σ : St} {W : WX} {Wm : KX1}
theorem LfR.step {α β : Type} {rel : Hp → List Addr → α → β → Prop} {Qm : α → MH → Prop} {Q : β → Hp → Prop} (q : LfR K ca rel ms H Qm Q) (x : Xt ms H ms1 H1) : LfR K ca rel ms1 H1 Qm Q :=
  fun a h' ms' H' b x' rs r w => q a h' ms' H' b (x.trans x') rs r w
theorem LfX.step {E : XK} (q : LfX K ca xa nx ms H Wm E) (x : Xt ms H ms1 H1) : LfX K ca xa nx ms1 H1 Wm E := fun e h' ms' H' d x' rs c r w => q e h' ms' H' d (x.trans x') rs c r w
theorem LfX.no {E : XK} : LfX K ca xa nx ms H (fun _ _ => False) E := fun _ _ _ _ _ _ _ _ _ w => w.elim
theorem tR.go {α β : Type} {rel : Hp → List Addr → α → β → Prop} {m : Ev → MH → (α → MH → Prop) → KX1 → Prop} {Qm : α → MH → Prop} {Q : β → Hp → Prop} (rs : RS K ca ms H h) (re : RE H ms env σ) (w : m env h Qm Wm) (lx : LfX K ca xa nx ms H Wm (WE W σ))
    (hq : ∀ a h1 ms1 H1 b, Xt ms H ms1 H1 → RS K ca ms1 H1 h1 → RE H1 ms1 env σ → rel H1 ms1 a b → LfX K ca xa nx ms1 H1 Wm (WE W σ) → Qm a h1 → Q b H1) : tR K ca xa nx rel W m σ H Q :=
  ⟨ms, h, env, Qm, Wm, rs, re, w, fun a h' ms' H' b x rs' r q => hq a h' ms' H' b x rs' (re.mono x) r (lx.step x) q, lx⟩
end
theorem PE.imp {X : Cx} {e : Expr} {t t' : TE} (p : PE X e t) (h : ∀ σ H Q, t' σ H Q → t σ H Q) : PE X e t' := ⟨fun pins s σ H Q I q => p.run pins s σ H Q I (h _ _ _ q)⟩
theorem PT.imp {X : Cx} {e : Expr} {t t' : TT} (p : PT X e t) (h : ∀ σ H Q, t' σ H Q → t σ H Q) : PT X e t' := ⟨fun pins s σ H Q I q => p.run pins s σ H Q I (h _ _ _ q)⟩
theorem PA.imp {X : Cx} {e : List Expr} {t t' : TA} (p : PA X e t) (h : ∀ σ H Q, t' σ H Q → t σ H Q) : PA X e t' := ⟨fun pos pins s σ H Q I q => p.run pos pins s σ H Q I (h _ _ _ q)⟩

/-! ### the world of a program -/
structure TOk (P : Program) (w : World) (K : PySem.W.Frag) (mg : Str → Option Value) (base : Heap) (g : Gm) (G : Tab) (ca xa : Nat → Addr) (k : Nat) : Prop where
  fn : ∀ x f, g.fn.lookup x = some f → ∃ a fd ps, mg x = some (.ref a) ∧ PySem.W.keepIn K (.ref a) = true ∧ Binds K fd ps [] ∧ FnOk P w K mg base (L2.CX P w) k a fd ps (spM K ca xa G k f)
  mkr : ∀ x c, g.cl.lookup x = some c → ∃ f ms, G.cls[c]? = some (some f, ms) ∧ mg x = some (.ref (ca c)) ∧ ∃ a fd ps, Mk K (ca c) a ∧ Binds K fd ps [] ∧ ∀ j, k = j + 1 → FnOk P w K mg base (L2.CX P w) j a fd ps (spM K ca xa G j f)
  me : ∀ c i ms m m' f, G.cls[c]? = some (i, ms) → (ms.find? fun p => decide (p.1 = m)) = some (m', f) → ∃ a fd ps, Meth K (ca c) m a ∧ Binds K fd ps [] ∧ FnOk P w K mg base (L2.CX P w) k a fd ps (spM K ca xa G k f)
  cl : ∀ c i ms, G.cls[c]? = some (i, ms) → Cls K (ca c)
  na : ∀ c f, G.na c f = true → NoAttr K (ca c) f ∧ Cls K (ca c)
  ct : ∀ x v, g.ct.lookup x = some v → ∃ u V, mg x = some u ∧ RelV V u ∧ ∀ H ms, RV H ms v V
  free : ∀ x, frees.contains x = true → mg x = none
  xc : ∀ x c, g.xc.lookup x = some c → c < G.nx ∧ mg x = some (.ref (xa c)) ∧ PySem.W.excIn K (xa c) He.veBase "ValueError.__new__" = true ∧ PySem.W.keepIn K (.ref (xa c)) = true ∧
    PySem.W.subIn K (.ref (xa c)) (.type "BaseException") = some true ∧ PySem.W.typeIn K (.ref (xa c)) = some (.type "type")
  exm : ∀ c d, c < G.nx → d < G.nx → PySem.W.exmOne K (.ref (xa c)) (.ref (xa d)) = some (G.sub c d)
structure XE (X : Cx) (g : Gm) (N : List Str) (G : Tab) (ca xa : Nat → Addr) (k : Nat) (sc : Scope) (hot : Bool) (W : WX) : Prop where
  eN : X.N = N
  nd : N.Nodup
  vis : ∀ x, visB sc x = true → Vis X.env.scope x
  loc : ∀ x, locB sc x = true → Loc X.env.scope x ∧ (X.fn x = true ∨ X.env.scope.names.lookup x = some .local)
  cap : ∀ x, (sc.names.lookup x = some .cell ∨ sc.names.lookup x = some .free) → (X.env.scope.names.lookup x = some .cell ∨ X.env.scope.names.lookup x = some .free)
  gl : ∀ x, glB sc x = true → Gl X x
  hu : X.A.units + 65 < cLine
  calm : hot = false → X.calm = true ∧ Room k X.A
  tk : Takes X W
  tok : TOk X.prog X.w X.K X.mg X.base g G ca xa k

/-! ### rules, construct by construct -/
section
variable {X : Cx} {W : WX} {G : Tab} {C Cm : CW} {ca xa : Nat → Addr} {nx : Nat} {a b e o : Expr} {es : List Expr} {ma mb : E} {mes : Es} {pos : Pos}
theorem m_var {i : Nat} {x : Str} (hN : X.N[i]? = some x) (hv : Vis X.env.scope x) (hs : notSpecial x = true) : PE X (.Name x pos) (tE X.K ca xa nx W (we G C Cm (.var i))) := by
  have h1 : (x == ("__debug__" : Str)) = false ∧ (x == ("__classdict__" : Str)) = false := by
    unfold notSpecial at hs
    simpa using hs
  refine PE.imp (pe_var hN hv h1.1 h1.2) fun σ H Q ⟨ms, h, env, Qm, Wm, rs, re, w, hq, lx⟩ => ?_
  unfold we at w
  split at w
  · rename_i v ev
    obtain ⟨u, eu, ru⟩ := re.get ev
    exact ⟨u, eu, hq v h ms H u (Xt.refl _ _) rs ru w⟩
  · exact w.elim
theorem m_con {v : Val} {V : V} (p : PE X e (tC V)) (r : ∀ H ms, RV H ms v V) : PE X e (tE X.K ca xa nx W (we G C Cm (.con v))) :=
  PE.imp p fun σ H Q ⟨ms, h, env, Qm, Wm, rs, re, w, hq, lx⟩ => hq v h ms H V (Xt.refl _ _) rs (r _ _) (by unfold we at w; exact w)
theorem m_bin {op : BO} (ha : PE X a (tE X.K ca xa nx W (we G C Cm ma))) (hb : PE X b (tE X.K ca xa nx W (we G C Cm mb))) : PE X (.BinOp a (opB op) b pos) (tE X.K ca xa nx W (we G C Cm (.bin op ma mb))) := by
  refine PE.imp (pe_op (or_bin (ca := ca) op) ha hb) fun σ H Q ⟨ms, h, env, Qm, Wm, rs, re, w, hq, lx⟩ => ?_
  unfold we at w
  refine tR.go rs re w lx fun x h1 ms1 H1 V1 x1 rs1 re1 rx lx1 w1 => ?_
  refine tR.go rs1 re1 w1 lx1 fun y h2 ms2 H2 V2 x2 rs2 re2 ry lx2 w2 => ?_
  exact ⟨ms2, h2, x, y, Qm, rs2, rx.mono x2, ry, w2, (LfR.step hq x1).step x2⟩
theorem m_cmp {op : CO} (hu : X.A.units + 65 < cLine) (ha : PE X a (tE X.K ca xa nx W (we G C Cm ma))) (hb : PE X b (tE X.K ca xa nx W (we G C Cm mb))) (hp : plainE b = true) : PE X (.Compare a [opC op] [b] pos) (tE X.K ca xa nx W (we G C Cm (.cmp op ma mb))) := by
  refine PE.imp (pe_cmpR (or_cmp (ca := ca) hu op) ha hb (plain_mark hp)) fun σ H Q ⟨ms, h, env, Qm, Wm, rs, re, w, hq, lx⟩ => ?_
  unfold we at w
  refine tR.go rs re w lx fun x h1 ms1 H1 V1 x1 rs1 re1 rx lx1 w1 => ?_
  refine tR.go rs1 re1 w1 lx1 fun y h2 ms2 H2 V2 x2 rs2 re2 ry lx2 w2 => ?_
  exact ⟨ms2, h2, x, y, _, rs2, rx.mono x2, ry, w2, fun r q => hq _ _ _ _ _ (x1.trans x2) rs2 (.bl r) q⟩
theorem m_cmpT {op : CO} (hu : X.A.units + 65 < cLine) (ha : PE X a (tE X.K ca xa nx W (we G C Cm ma))) (hb : PE X b (tE X.K ca xa nx W (we G C Cm mb))) (hp : plainE b = true) : PT X (.Compare a [opC op] [b] pos) (tT X.K ca xa nx W (wt G C Cm (.e (.cmp op ma mb)))) := by
  refine PT.imp (pt_cmpR (or_cmp (ca := ca) hu op) ha hb (plain_mark hp)) fun σ H Q ⟨ms, h, env, Qm, Wm, rs, re, w, hq, lx⟩ => ?_
  unfold wt at w
  unfold we at w
  refine tR.go rs re w lx fun x h1 ms1 H1 V1 x1 rs1 re1 rx lx1 w1 => ?_
  refine tR.go rs1 re1 w1 lx1 fun y h2 ms2 H2 V2 x2 rs2 re2 ry lx2 w2 => ?_
  exact ⟨ms2, h2, x, y, _, rs2, rx.mono x2, ry, w2, fun r q => ⟨r, rfl, hq _ _ _ _ _ (x1.trans x2) rs2 rfl q⟩⟩
theorem m_neg (ha : PE X a (tE X.K ca xa nx W (we G C Cm ma))) : PE X (.UnaryOp .USub a pos) (tE X.K ca xa nx W (we G C Cm (.neg ma))) := by
  refine PE.imp (pe_un un_neg ha) fun σ H Q ⟨ms, h, env, Qm, Wm, rs, re, w, hq, lx⟩ => ?_
  unfold we at w
  refine tR.go rs re w lx fun x h1 ms1 H1 V1 x1 rs1 re1 rx lx1 w1 => ?_
  cases rx with
  | int i => exact ⟨i, rfl, hq _ _ _ _ _ x1 rs1 (.int _) w1⟩
  | _ => exact (show False from w1).elim
theorem m_notv (ha : PE X a (tE X.K ca xa nx W (we G C Cm ma))) : PE X (.UnaryOp .Not a pos) (tE X.K ca xa nx W (we G C Cm (.notv ma))) := by
  refine PE.imp (pe_notT ha) fun σ H Q ⟨ms, h, env, Qm, Wm, rs, re, w, hq, lx⟩ => ?_
  unfold we at w
  refine tR.go rs re w lx fun x h1 ms1 H1 V1 x1 rs1 re1 rx lx1 w1 => ?_
  obtain ⟨k, t, q⟩ := tru_of rs1 rx w1
  exact ⟨k, t, hq _ _ _ _ _ x1 rs1 (.bl _) q⟩
theorem m_truth (ha : PE X a (tE X.K ca xa nx W (we G C Cm ma))) (he : ∀ whole, isTrue a X.env whole = (do let v ← whole; standAt a.pos; holding [v] (truthy v))) : PT X a (tT X.K ca xa nx W (wt G C Cm (.e ma))) := by
  refine PT.imp (pt_truth ha he) fun σ H Q ⟨ms, h, env, Qm, Wm, rs, re, w, hq, lx⟩ => ?_
  unfold wt at w
  refine tR.go rs re w lx fun x h1 ms1 H1 V1 x1 rs1 re1 rx lx1 w1 => ?_
  obtain ⟨k, t, q⟩ := tru_of rs1 rx w1
  exact ⟨k, t, hq _ _ _ _ _ x1 rs1 rfl q⟩
theorem m_not {mb : B} (ha : PT X a (tT X.K ca xa nx W (wt G C Cm mb))) : PT X (.UnaryOp .Not a pos) (tT X.K ca xa nx W (wt G C Cm (.not mb))) := by
  refine PT.imp (pt_not ha) fun σ H Q ⟨ms, h, env, Qm, Wm, rs, re, w, hq, lx⟩ => ?_
  unfold wt at w
  refine tR.go rs re w lx fun x h1 ms1 H1 V1 x1 rs1 re1 rx lx1 w1 => ?_
  cases rx
  exact hq _ _ _ _ _ x1 rs1 rfl w1
theorem PW.imp {t t' : TT} (p : PW X e t) (h : ∀ σ H Q, t' σ H Q → t σ H Q) : PW X e t' := ⟨fun wh pins s σ H Q I q => p.run wh pins s σ H Q I (h _ _ _ q)⟩
theorem m_andT {mc md : B} {rest : List Expr} (ha : PT X a (tT X.K ca xa nx W (wt G C Cm mc))) (hb : PW X (.BoolOp .And (b :: rest) pos) (tT X.K ca xa nx W (wt G C Cm md))) :
    PW X (.BoolOp .And (a :: b :: rest) pos) (tT X.K ca xa nx W (wt G C Cm (.and mc md))) := by
  refine PW.imp (pw_and ha hb) fun σ H Q ⟨ms, h, env, Qm, Wm, rs, re, w, hq, lx⟩ => ?_
  unfold wt at w
  refine tR.go rs re w lx fun x h1 ms1 H1 V1 x1 rs1 re1 rx lx1 w1 => ?_
  cases rx
  cases x with
  | true => exact ⟨ms1, h1, env, Qm, Wm, rs1, re1, w1, LfR.step hq x1, lx1⟩
  | false => exact hq _ _ _ _ _ x1 rs1 rfl w1
theorem m_orT {mc md : B} {rest : List Expr} (ha : PT X a (tT X.K ca xa nx W (wt G C Cm mc))) (hb : PW X (.BoolOp .Or (b :: rest) pos) (tT X.K ca xa nx W (wt G C Cm md))) :
    PW X (.BoolOp .Or (a :: b :: rest) pos) (tT X.K ca xa nx W (wt G C Cm (.or mc md))) := by
  refine PW.imp (pw_or ha hb) fun σ H Q ⟨ms, h, env, Qm, Wm, rs, re, w, hq, lx⟩ => ?_
  unfold wt at w
  refine tR.go rs re w lx fun x h1 ms1 H1 V1 x1 rs1 re1 rx lx1 w1 => ?_
  cases rx
  cases x with
  | false => exact ⟨ms1, h1, env, Qm, Wm, rs1, re1, w1, LfR.step hq x1, lx1⟩
  | true => exact hq _ _ _ _ _ x1 rs1 rfl w1
theorem m_andV {rest : List Expr} (ha : PE X a (tE X.K ca xa nx W (we G C Cm ma))) (hb : PE X (.BoolOp .And (b :: rest) pos) (tE X.K ca xa nx W (we G C Cm mb))) :
    PE X (.BoolOp .And (a :: b :: rest) pos) (tE X.K ca xa nx W (we G C Cm (.andv ma mb))) := by
  refine PE.imp (pe_and ha hb) fun σ H Q ⟨ms, h, env, Qm, Wm, rs, re, w, hq, lx⟩ => ?_
  unfold we at w
  refine tR.go rs re w lx fun x h1 ms1 H1 V1 x1 rs1 re1 rx lx1 w1 => ?_
  cases rx with
  | bl r =>
    refine ⟨r, rfl, ?_⟩
    cases r with
    | true => exact ⟨ms1, h1, env, Qm, Wm, rs1, re1, w1, LfR.step hq x1, lx1⟩
    | false => exact hq _ _ _ _ _ x1 rs1 (.bl _) w1
  | _ => exact (show False from w1).elim
theorem m_orV {rest : List Expr} (ha : PE X a (tE X.K ca xa nx W (we G C Cm ma))) (hb : PE X (.BoolOp .Or (b :: rest) pos) (tE X.K ca xa nx W (we G C Cm mb))) :
    PE X (.BoolOp .Or (a :: b :: rest) pos) (tE X.K ca xa nx W (we G C Cm (.orv ma mb))) := by
  refine PE.imp (pe_or ha hb) fun σ H Q ⟨ms, h, env, Qm, Wm, rs, re, w, hq, lx⟩ => ?_
  unfold we at w
  refine tR.go rs re w lx fun x h1 ms1 H1 V1 x1 rs1 re1 rx lx1 w1 => ?_
  cases rx with
  | bl r =>
    refine ⟨r, rfl, ?_⟩
    cases r with
    | false => exact ⟨ms1, h1, env, Qm, Wm, rs1, re1, w1, LfR.step hq x1, lx1⟩
    | true => exact hq _ _ _ _ _ x1 rs1 (.bl _) w1
  | _ => exact (show False from w1).elim
theorem m_ite {t : Expr} {mt : B} (ht : PT X t (tT X.K ca xa nx W (wt G C Cm mt))) (ha : PE X a (tE X.K ca xa nx W (we G C Cm ma))) (hb : PE X b (tE X.K ca xa nx W (we G C Cm mb))) : PE X (.IfExp t a b pos) (tE X.K ca xa nx W (we G C Cm (.ite mt ma mb))) := by
  refine PE.imp (pe_ifExp ht ha hb) fun σ H Q ⟨ms, h, env, Qm, Wm, rs, re, w, hq, lx⟩ => ?_
  unfold we at w
  refine tR.go rs re w lx fun x h1 ms1 H1 V1 x1 rs1 re1 rx lx1 w1 => ?_
  cases rx
  cases x with
  | true => exact ⟨ms1, h1, env, Qm, Wm, rs1, re1, w1, LfR.step hq x1, lx1⟩
  | false => exact ⟨ms1, h1, env, Qm, Wm, rs1, re1, w1, LfR.step hq x1, lx1⟩
theorem m_nil : PA X [] (tA X.K ca xa nx W (wes G C Cm .nil)) := PA.imp pa_nil fun σ H Q ⟨ms, h, env, Qm, Wm, rs, re, w, hq, lx⟩ => hq _ _ _ _ _ (Xt.refl _ _) rs .nil (by unfold wes at w; exact w)
theorem m_cons (hp : plainE a = true) (ha : PE X a (tE X.K ca xa nx W (we G C Cm ma))) (hs : PA X es (tA X.K ca xa nx W (wes G C Cm mes))) : PA X (a :: es) (tA X.K ca xa nx W (wes G C Cm (.cons ma mes))) := by
  refine PA.imp (pa_cons ha hs (star_cons hp)) fun σ H Q ⟨ms, h, env, Qm, Wm, rs, re, w, hq, lx⟩ => ?_
  unfold wes at w
  refine tR.go rs re w lx fun x h1 ms1 H1 V1 x1 rs1 re1 rx lx1 w1 => ?_
  refine tR.go rs1 re1 w1 lx1 fun xs h2 ms2 H2 Vs x2 rs2 re2 rxs lx2 w2 => ?_
  exact hq _ _ _ _ _ (x1.trans x2) rs2 (.cons (rx.mono x2) rxs) w2
theorem m_tup {k : Nat} (hs : PA X es (tA X.K ca xa nx W (wes G C Cm mes))) : PE X (.Tuple es k pos) (tE X.K ca xa nx W (we G C Cm (.tup mes))) := by
  refine PE.imp (pe_tup hs) fun σ H Q ⟨ms, h, env, Qm, Wm, rs, re, w, hq, lx⟩ => ?_
  unfold we at w
  refine tR.go rs re w lx fun xs h1 ms1 H1 Vs x1 rs1 re1 rx lx1 w1 => ?_
  exact ⟨by rw [← rx.length]; exact w1.1, Lf.newT (LfR.step hq x1) rs1 rx w1.2⟩
theorem m_lst (hs : PA X es (tA X.K ca xa nx W (wes G C Cm mes))) : PE X (.List es pos) (tE X.K ca xa nx W (we G C Cm (.lst mes))) := by
  refine PE.imp (pe_lst hs) fun σ H Q ⟨ms, h, env, Qm, Wm, rs, re, w, hq, lx⟩ => ?_
  unfold we at w
  refine tR.go rs re w lx fun xs h1 ms1 H1 Vs x1 rs1 re1 rx lx1 w1 => ?_
  exact ⟨by rw [← rx.length]; exact w1.1, Lf.newL (LfR.step hq x1) rs1 rx w1.2⟩
theorem m_dnewK : PE X (.Dict [] [] pos) (tE X.K ca xa nx W (we G C Cm (.dnew false))) := by
  refine PE.imp pe_dnewK fun σ H Q ⟨ms, h, env, Qm, Wm, rs, re, w, hq, lx⟩ => ?_
  unfold we at w
  intro p n
  exact hq _ _ _ _ _ (xt_alloc n) (rs.alloc (o := .dK []) n ⟨[], upd_same, .nil⟩) (.loc (by rw [← rs.len]; simp)) w
theorem m_dnewT : PE X (.Dict [] [] pos) (tE X.K ca xa nx W (we G C Cm (.dnew true))) := by
  refine PE.imp pe_dnewT fun σ H Q ⟨ms, h, env, Qm, Wm, rs, re, w, hq, lx⟩ => ?_
  unfold we at w
  intro p n
  exact hq _ _ _ _ _ (xt_alloc n) (rs.alloc (o := .dT []) n ⟨[], upd_same, .nil⟩) (.loc (by rw [← rs.len]; simp)) w
theorem m_item (hu : X.A.units + 65 < cLine) (ha : PE X a (tE X.K ca xa nx W (we G C Cm ma))) (hb : PE X b (tE X.K ca xa nx W (we G C Cm mb))) (hp : plainE b = true) : PE X (.Subscript a b pos) (tE X.K ca xa nx W (we G C Cm (.item ma mb))) := by
  refine PE.imp (pe_ix (ix_mini (ca := ca) hu) ha hb (plain_ix hp)) fun σ H Q ⟨ms, h, env, Qm, Wm, rs, re, w, hq, lx⟩ => ?_
  unfold we at w
  refine tR.go rs re w lx fun x h1 ms1 H1 V1 x1 rs1 re1 rx lx1 w1 => ?_
  refine tR.go rs1 re1 w1 lx1 fun y h2 ms2 H2 V2 x2 rs2 re2 ry lx2 w2 => ?_
  exact ⟨ms2, h2, x, y, _, rs2, rx.mono x2, ry, w2, fun v V rv q => hq _ _ _ _ _ (x1.trans x2) rs2 rv q⟩
theorem m_fld {f : Str} (T : ∀ c, G.na c f = true → NoAttr X.K (ca c) f ∧ Cls X.K (ca c)) (ha : PE X a (tE X.K ca xa nx W (we G C Cm ma))) (hr : recvOk a = true) : PE X (.Attribute a f pos) (tE X.K ca xa nx W (we G C Cm (.fld ma f))) := by
  refine PE.imp (pe_fld ha (abase hr)) fun σ H Q ⟨ms, h, env, Qm, Wm, rs, re, w, hq, lx⟩ => ?_
  unfold we at w
  refine tR.go rs re w lx fun x h1 ms1 H1 V1 x1 rs1 re1 rx lx1 w1 => ?_
  cases x with
  | loc l =>
    have w1 : (match h1[l]? with
      | some (.ins c fs) => G.na c f = true ∧ there (fgetM fs f) fun v => Qm v h1
      | _ => False) := w1
    split at w1
    · rename_i c fs el
      obtain ⟨p, rfl, _, dx, ws, ep, rk⟩ := rs1.at el rx
      obtain ⟨w0, w1⟩ := w1
      obtain ⟨t1, t2⟩ := T c w0
      rcases rk.field f with ⟨e1, _⟩ | ⟨v, u, e1, e2, rv⟩
      · rw [e1] at w1; exact w1.elim
      · rw [e1] at w1
        exact ⟨p, ca c, dx, ws, u, rfl, ep, t2, t1, e2, hq _ _ _ _ _ x1 rs1 rv w1⟩
    · exact w1.elim
  | _ => exact (show False from w1).elim
abbrev tOp' (K : PySem.W.Frag) (ca xa : Nat → Addr) (nx : Nat) (W : WX) (m : Ev → MH → (Option Int → MH → Prop) → KX1 → Prop) : TO := tR K ca xa nx eqR W m
theorem m_onone : PO X none (tOp' X.K ca xa nx W (wo G C Cm .none)) := by
  refine ⟨fun pins s σ H Q I ⟨ms, h, env, Qm, Wm, rs, re, w, hq, lx⟩ => ?_⟩
  unfold wo at w
  exact (po_none (X := X)).run pins s σ H Q I (hq _ _ _ _ _ (Xt.refl _ _) rs rfl w)
theorem m_osome (ha : PE X a (tE X.K ca xa nx W (we G C Cm ma))) : PO X (some a) (tOp' X.K ca xa nx W (wo G C Cm (.some ma))) := by
  refine ⟨fun pins s σ H Q I ⟨ms, h, env, Qm, Wm, rs, re, w, hq, lx⟩ => ?_⟩
  unfold wo at w
  refine (po_some ha).run pins s σ H Q I (tR.go rs re w lx fun x h1 ms1 H1 V1 x1 rs1 re1 rx lx1 w1 => ?_)
  cases rx with
  | int i => exact ⟨i, rfl, hq _ _ _ _ _ x1 rs1 rfl w1⟩
  | _ => exact (show False from w1).elim
theorem m_sl {lo hi : Option Expr} {ml mh : O} {p2 : Pos} (ha : PE X a (tE X.K ca xa nx W (we G C Cm ma))) (hl : PO X lo (tOp' X.K ca xa nx W (wo G C Cm ml))) (hh : PO X hi (tOp' X.K ca xa nx W (wo G C Cm mh))) :
    PE X (.Subscript a (.Slice lo hi none p2) pos) (tE X.K ca xa nx W (we G C Cm (.sl ma ml mh))) := by
  refine PE.imp (pe_slice (sl_mini (ca := ca)) ha hl hh) fun σ H Q ⟨ms, h, env, Qm, Wm, rs, re, w, hq, lx⟩ => ?_
  unfold we at w
  refine tR.go rs re w lx fun x h1 ms1 H1 V1 x1 rs1 re1 rx lx1 w1 => ?_
  refine tR.go rs1 re1 w1 lx1 fun l h2 ms2 H2 l' x2 rs2 re2 rl lx2 w2 => ?_
  refine tR.go rs2 re2 w2 lx2 fun u h3 ms3 H3 u' x3 rs3 re3 ru lx3 w3 => ?_
  have rl : l = l' := rl
  have ru : u = u' := ru
  subst rl ru
  exact ⟨ms3, h3, x, Qm, rs3, (rx.mono x2).mono x3, w3, ((LfR.step hq x1).step x2).step x3⟩
/-! calls -/
theorem m_blt {x : Str} {p : Pos} {bi : Bi} (hc : X.calm = true) (hg : Gl X x) (hm : X.mg x = none) (hv : bootBuiltins x = some (bvB bi)) (hn : x ≠ "__name__") (hd : (x == ("__debug__" : Str)) = false) (hp : ∀ z ∈ a :: es, plainE z = true)
    (hs : PA X (a :: es) (tA X.K ca xa nx W (wes G C Cm mes))) : PE X (.Call (.Name x p) (a :: es) [] pos) (tE X.K ca xa nx W (we G C Cm (.blt bi mes))) := by
  have base : PE X (.Call (.Name x p) (a :: es) [] pos) (tCB (rBi X.K ca bi) (tA X.K ca xa nx W (wes G C Cm mes))) := by
    have h1 := star_cons (es := es) (env := X.env) (hp a List.mem_cons_self)
    have h2 := star_any (env := X.env) (pos := pos) fun z hz => hp z (List.mem_cons_of_mem a hz)
    have hc := cr_bi (ca := ca) hc bi
    cases bi <;> first
      | exact pe_callB hc hg hm hv hs hn hd h1 h2
      | exact pe_callTy hc hg hm hv hs hn hd h1 h2
  refine PE.imp base fun σ H Q ⟨ms, h, env, Qm, Wm, rs, re, w, hq, lx⟩ => ?_
  unfold we at w
  refine tR.go rs re w lx fun xs h1 ms1 H1 Vs x1 rs1 re1 rx lx1 w1 => ?_
  exact ⟨ms1, h1, xs, Qm, rs1, rx, w1, LfR.step hq x1⟩
end
end Mn

/-! Mn6: calls of defs, methods and classes; isinstance; iterators; targets; comprehensions; the theorem about expressions. -/
namespace Mn
open PySem PySem.Spec PyProof.Rows L2
section
variable {X : Cx} {W : WX} {G : Tab} {C Cm : CW} {ca xa : Nat → Addr} {k : Nat} {a b e o : Expr} {es : List Expr} {ma mb : E} {mes : Es} {pos : Pos} {g : Gm}
/-- a promise met -/
theorem sp_meet {f : Nat} {ms ms0 : List Addr} {H H0 : Hp} {h : MH} {xs : List Val} {vs : List V} {Qm : KV1} {Wm : KX1} {Q : VK} {E : XK} (rs : RS X.K ca ms H h) (rv : RVs H ms xs vs) (w : wcall G k f xs h Qm Wm)
    (x : Xt ms0 H0 ms H) (hq : Lf X.K ca ms0 H0 Qm Q) (lx : LfX X.K ca xa G.nx ms H Wm E) : spM X.K ca xa G k f vs H Q E := ⟨ms, h, xs, Qm, Wm, rs, rv, w, hq.step x, lx⟩
theorem run_fnM {f : Nat} {fa : Addr} {fd : FuncData} {ps : List Str} {pins : List (Addr × Obj)} {σ : St} {H : Hp} {s : Shared} {Q : VK} {us : List Value} {vs : List V} (F : FnOk X.prog X.w X.K X.mg X.base (L2.CX X.prog X.w) k fa fd ps (spM X.K ca xa G k f)) (hr : Room k X.A)
    (hb : Binds X.K fd ps []) (tk : Takes X W) (I : Inv X pins σ H s) (r : Vals vs us) (h : spM X.K ca xa G k f vs H Q (WE W σ)) : wpAny (model X.prog X.w) X.A (call (.ref fa) us) (EP X pins σ Q) X.xe s :=
  run_fnS (E := WE W) F hr hb (passAt tk σ) I r h
def tCl (k : Nat) (f : Nat) (K : PySem.W.Frag) (ca xa : Nat → Addr) (G : Tab) (W : WX) (t : TA) : TE := fun σ H Q => t σ H fun vs H1 => spM K ca xa G k f vs H1 Q (WE W σ)
theorem pe_fnM (hne : es ≠ []) {f : Nat} {fa : Addr} {fd : FuncData} {ps : List Str} {x : Str} {p : Pos} {t : TA} (F : FnOk X.prog X.w X.K X.mg X.base (L2.CX X.prog X.w) k fa fd ps (spM X.K ca xa G k f)) (hr : Room k X.A) (hb : Binds X.K fd ps []) (tk : Takes X W)
    (hg : Gl X x) (hm : X.mg x = some (.ref fa)) (hk : PySem.W.keepIn X.K (.ref fa) = true) (hd : (x == ("__debug__" : Str)) = false) (hp : ∀ z ∈ es, plainE z = true) (ha : PA X es t) :
    PE X (.Call (.Name x p) es [] pos) (tCl k f X.K ca xa G W t) := by
  refine ⟨fun pins s σ H Q I h => ?_⟩
  refine wpAny_Call_Name_kw (ld_glob I hg hm ?_ hd)
  cases es with
  | nil => exact (hne rfl).elim
  | cons e es =>
    refine PySem.W.callWith_K (h₀ := X.base) I.ok.mod.kin hk (thn (ha.run pos pins s σ H _ I h) fun us s1 ⟨vs, H1, I1, r, q⟩ => ⟨I1.kIn, ?_⟩) (star_cons (hp e List.mem_cons_self)) (star_any fun z hz => hp z (List.mem_cons_of_mem e hz))
    exact run_fnM F hr hb tk I1 r q
theorem pe_fnM0 {f : Nat} {fa : Addr} {fd : FuncData} {ps : List Str} {x : Str} {p : Pos} (F : FnOk X.prog X.w X.K X.mg X.base (L2.CX X.prog X.w) k fa fd ps (spM X.K ca xa G k f)) (hr : Room k X.A) (hb : Binds X.K fd ps []) (tk : Takes X W)
    (hg : Gl X x) (hm : X.mg x = some (.ref fa)) (hk : PySem.W.keepIn X.K (.ref fa) = true) (hd : (x == ("__debug__" : Str)) = false) :
    PE X (.Call (.Name x p) [] [] pos) (fun σ H Q => spM X.K ca xa G k f [] H Q (WE W σ)) := by
  refine ⟨fun pins s σ H Q I h => ?_⟩
  refine wpAny_Call_Name_kw (ld_glob I hg hm ?_ hd)
  exact PySem.W.callWith_K0 I.kIn hk (run_fnM (us := []) F hr hb tk I .nil h)
theorem m_call {f : Nat} {fa : Addr} {fd : FuncData} {ps : List Str} {x : Str} {p : Pos} (F : FnOk X.prog X.w X.K X.mg X.base (L2.CX X.prog X.w) k fa fd ps (spM X.K ca xa G k f)) (hr : Room k X.A) (hb : Binds X.K fd ps []) (tk : Takes X W)
    (hg : Gl X x) (hm : X.mg x = some (.ref fa)) (hk : PySem.W.keepIn X.K (.ref fa) = true) (hd : (x == ("__debug__" : Str)) = false) (hp : ∀ z ∈ es, plainE z = true) (h0 : es = [] → mes = .nil)
    (ha : PA X es (tA X.K ca xa G.nx W (wes G (wcall G k) Cm mes))) : PE X (.Call (.Name x p) es [] pos) (tE X.K ca xa G.nx W (we G (wcall G k) Cm (.call f mes))) := by
  by_cases hne : es = []
  · have e0 := h0 hne
    subst hne e0
    refine PE.imp (pe_fnM0 F hr hb tk hg hm hk hd) fun σ H Q ⟨ms, h, env, Qm, Wm, rs, re, w, hq, lx⟩ => ?_
    unfold we wes at w
    exact sp_meet rs .nil w (Xt.refl _ _) hq lx
  · refine PE.imp (pe_fnM hne F hr hb tk hg hm hk hd hp ha) fun σ H Q ⟨ms, h, env, Qm, Wm, rs, re, w, hq, lx⟩ => ?_
    unfold we at w
    refine tR.go rs re w lx fun xs h1 ms1 H1 Vs x1 rs1 re1 rx lx1 w1 => ?_
    exact sp_meet rs1 rx w1 x1 hq lx1
/-! methods -/
def tMt (k : Nat) (K : PySem.W.Frag) (ca xa : Nat → Addr) (G : Tab) (W : WX) (m : Str) (to : TE) (t : TA) : TE := fun σ H Q => to σ H fun x H1 => ∃ a c dx fs i ms m' f, x = V.ref a ∧ H1 a = some (.ins (ca c) dx fs) ∧ fs.lookup m = none ∧
  G.cls[c]? = some (i, ms) ∧ (ms.find? fun p => decide (p.1 = m)) = some (m', f) ∧ t σ H1 fun vs H2 => spM K ca xa G k f (x :: vs) H2 Q (WE W σ)
def tMt0 (k : Nat) (K : PySem.W.Frag) (ca xa : Nat → Addr) (G : Tab) (W : WX) (m : Str) (to : TE) : TE := fun σ H Q => to σ H fun x H1 => ∃ a c dx fs i ms m' f, x = V.ref a ∧ H1 a = some (.ins (ca c) dx fs) ∧ fs.lookup m = none ∧
  G.cls[c]? = some (i, ms) ∧ (ms.find? fun p => decide (p.1 = m)) = some (m', f) ∧ spM K ca xa G k f [x] H1 Q (WE W σ)
theorem meth_tree {o : Expr} {m : Str} {ap : Pos} {env : Env} (hr : recvOk o = true) (hl : (ap.endLine == pos.line) = true) (hp : ∀ z ∈ es, plainE z = true) (hn : es.length < 29) :
    eval (.Call (.Attribute o m ap) es [] pos) env = (do
      let ov ← eval o env
      standAt ap.atName
      let (f, first) ← holding [ov] (getMethod ov m (plainOf o env))
      callWith pos f first (backTo pos (starEach es env)) (backToKw pos (keywordEach [] env))) := by
  refine mcall_of (t := fun ov => (do
      let (f, first) ← holding [ov] (getMethod ov m (plainOf o env))
      callWith pos f first (backTo pos (starEach es env)) (backToKw pos (keywordEach [] env)))) (abase hr) fun ov => ?_
  exact mcall_line (few_ok hp hn) hl
theorem pe_mtM {m : Str} {ap : Pos} {to : TE} {t : TA} (T : TOk X.prog X.w X.K X.mg X.base g G ca xa k) (hr : Room k X.A) (tk : Takes X W) (ho : PE X o to) (hv : recvOk o = true) (hl : (ap.endLine == pos.line) = true) (hp : ∀ z ∈ es, plainE z = true) (hn : es.length < 29)
    (hne : es ≠ []) (ha : PA X es t) : PE X (.Call (.Attribute o m ap) es [] pos) (tMt k X.K ca xa G W m to t) := by
  refine ⟨fun pins s σ H Q I h => ?_⟩
  refine PySem.W.methodCall_KW (pl := plainOf o X.env) (thn (ho.run pins s σ H _ I h) fun u s1 ⟨x, H1, I1, rx, a, c, dx, fs, i, ms, m', f, ex, ea, l, e1, e2, q⟩ => ?_) (meth_tree hv hl hp hn)
  subst ex
  obtain rfl : u = Value.ref a := rx
  obtain ⟨fa, fd, ps, hm, hb, F⟩ := T.me c i ms m m' f e1 e2
  refine getmeth_ok I1 ea (T.cl c i ms e1) hm l ?_
  cases es with
  | nil => exact (hne rfl).elim
  | cons e es =>
    refine PySem.W.callWith_K (first := [.ref a]) (h₀ := X.base) I.ok.mod.kin hm.kp (thn (ha.run pos pins s1 σ H1 _ I1 q) fun us s2 ⟨vs, H2, I2, r, q2⟩ => ⟨I2.kIn, ?_⟩) (star_cons (hp e List.mem_cons_self)) (star_any fun z hz => hp z (List.mem_cons_of_mem e hz))
    exact run_fnM (us := .ref a :: us) (vs := .ref a :: vs) F hr hb tk I2 (.cons rfl r) q2
theorem pe_mtM0 {m : Str} {ap : Pos} {to : TE} (T : TOk X.prog X.w X.K X.mg X.base g G ca xa k) (hr : Room k X.A) (tk : Takes X W) (ho : PE X o to) (hv : recvOk o = true) (hl : (ap.endLine == pos.line) = true) :
    PE X (.Call (.Attribute o m ap) [] [] pos) (tMt0 k X.K ca xa G W m to) := by
  refine ⟨fun pins s σ H Q I h => ?_⟩
  refine PySem.W.methodCall_KW (pl := plainOf o X.env) (thn (ho.run pins s σ H _ I h) fun u s1 ⟨x, H1, I1, rx, a, c, dx, fs, i, ms, m', f, ex, ea, l, e1, e2, q⟩ => ?_) (meth_tree hv hl (fun _ hz => by cases hz) (by decide))
  subst ex
  obtain rfl : u = Value.ref a := rx
  obtain ⟨fa, fd, ps, hm, hb, F⟩ := T.me c i ms m m' f e1 e2
  refine getmeth_ok I1 ea (T.cl c i ms e1) hm l ?_
  exact PySem.W.callWith_K0 (first := [.ref a]) I1.kIn hm.kp (run_fnM (us := [.ref a]) (vs := [.ref a]) F hr hb tk I1 (.cons rfl .nil) q)
theorem m_meth {m : Str} {ap : Pos} (T : TOk X.prog X.w X.K X.mg X.base g G ca xa k) (hr : Room k X.A) (tk : Takes X W) (ho : PE X o (tE X.K ca xa G.nx W (we G (wcall G k) Cm ma))) (hv : recvOk o = true) (hl : (ap.endLine == pos.line) = true)
    (hp : ∀ z ∈ es, plainE z = true) (hn : es.length < 29) (h0 : es = [] → mes = .nil) (ha : PA X es (tA X.K ca xa G.nx W (wes G (wcall G k) Cm mes))) :
    PE X (.Call (.Attribute o m ap) es [] pos) (tE X.K ca xa G.nx W (we G (wcall G k) Cm (.meth m ma mes))) := by
  have core : ∀ {ms : List Addr} {h : MH} {x : Val} {H : Hp} {V1 : V} {env : Ev} {σ : St} {Wm : KX1} {Qm : KV1} {Q : VK}, RS X.K ca ms H h → RE H ms env σ → RV H ms x V1 → LfX X.K ca xa G.nx ms H Wm (WE W σ) → (match x with
    | .loc l => (match h[l]? with
      | some (.ins c fs) => (match G.cls[c]? with
        | some (_, ms) => (match (ms.find? fun p => decide (p.1 = m)) with
          | some (_, f) => fgetM fs m = none ∧ wes G (wcall G k) Cm mes env h (fun xs h2 => wcall G k f (x :: xs) h2 Qm Wm) Wm
          | none => False)
        | none => False)
      | _ => False)
    | _ => False) → ∃ a c dx fs i cs m' f, V1 = V.ref a ∧ H a = some (.ins (ca c) dx fs) ∧ fs.lookup m = none ∧ G.cls[c]? = some (i, cs) ∧ (cs.find? fun p => decide (p.1 = m)) = some (m', f) ∧
      wes G (wcall G k) Cm mes env h (fun xs h2 => wcall G k f (x :: xs) h2 Qm Wm) Wm := by
    intro ms h x H V1 env σ Wm Qm Q rs re rx lx w
    split at w
    · rename_i l
      split at w
      · rename_i c fs el
        split at w
        · rename_i i cs ec
          split at w
          · rename_i m' f ef
            obtain ⟨p, rfl, _, dx, ws, ep, rk⟩ := rs.at el rx
            refine ⟨p, c, dx, ws, i, cs, m', f, rfl, ep, ?_, ec, ef, w.2⟩
            rcases rk.field m with ⟨_, e2⟩ | ⟨v, u, e1, e2, rv⟩
            · exact e2
            · rw [w.1] at e1; cases e1
          · exact w.elim
        · exact w.elim
      · exact w.elim
    · exact w.elim
  by_cases hne : es = []
  · have e0 := h0 hne
    subst hne e0
    refine PE.imp (pe_mtM0 (m := m) T hr tk ho hv hl) fun σ H Q ⟨ms, h, env, Qm, Wm, rs, re, w, hq, lx⟩ => ?_
    unfold we at w
    refine tR.go rs re w lx fun x h1 ms1 H1 V1 x1 rs1 re1 rx lx1 w1 => ?_
    obtain ⟨a, c, dx, fs, i, cs, m', f, rfl, ep, l, ec, ef, w2⟩ := core (Q := Q) rs1 re1 rx lx1 w1
    unfold wes at w2
    exact ⟨a, c, dx, fs, i, cs, m', f, rfl, ep, l, ec, ef, sp_meet rs1 (.cons rx .nil) w2 x1 hq lx1⟩
  · refine PE.imp (pe_mtM (m := m) T hr tk ho hv hl hp hn hne ha) fun σ H Q ⟨ms, h, env, Qm, Wm, rs, re, w, hq, lx⟩ => ?_
    unfold we at w
    refine tR.go rs re w lx fun x h1 ms1 H1 V1 x1 rs1 re1 rx lx1 w1 => ?_
    obtain ⟨a, c, dx, fs, i, cs, m', f, rfl, ep, l, ec, ef, w2⟩ := core (Q := Q) rs1 re1 rx lx1 w1
    refine ⟨a, c, dx, fs, i, cs, m', f, rfl, ep, l, ec, ef, tR.go rs1 re1 w2 lx1 fun xs h2 ms2 H2 Vs x2 rs2 re2 rxs lx2 w3 => ?_⟩
    exact sp_meet rs2 (.cons (rx.mono x2) rxs) w3 (x1.trans x2) hq lx2
/-! a class called -/
theorem run_makeM {c f : Nat} {fa : Addr} {fd : FuncData} {ps : List Str} {j : Nat} {pins : List (Addr × Obj)} {σ : St} {H : Hp} {s : Shared} {Q : VK} {us : List Value} {vs : List V} (M : Mk X.K (ca c) fa) (F : FnOk X.prog X.w X.K X.mg X.base (L2.CX X.prog X.w) j fa fd ps (spM X.K ca xa G j f)) (hr : Room (j + 1) X.A)
    (hb : Binds X.K fd ps []) (tk : Takes X W) (I : Inv X pins σ H s) (r : Vals vs us)
    (h : ∀ x dx, H x = none → H dx = none → dx ≠ x → spM X.K ca xa G j f (.ref x :: vs) (upd (upd H dx (.own x)) x (.ins (ca c) dx [])) (fun v H2 => v = .non ∧ Q (.ref x) H2) (WE W σ)) :
    wpAny (model X.prog X.w) X.A (call (.ref (ca c)) us) (EP X pins σ Q) X.xe s := by
  have hq := h (s.heap.objs.size + 1) s.heap.objs.size (I.hok.fresh (Nat.le_succ _)) (I.hok.fresh (Nat.le_refl _)) (Nat.ne_of_lt (Nat.lt_succ_self _))
  have I2 := Inv.made (C := ca c) I
  have r2 : Vals (V.ref (s.heap.objs.size + 1) :: vs) (Value.ref (s.heap.objs.size + 1) :: us) := .cons rfl r
  have hl : (Value.ref (s.heap.objs.size + 1) :: us).length = ps.length := by
    have e := r2.length
    rw [F.len _ _ _ _ hq] at e
    exact e.symm
  have b := hb _ (Value.ref (s.heap.objs.size + 1) :: us) I2.kIn (by rw [List.append_nil]; exact hl)
  rw [List.append_nil] at b
  refine wpAny_call (make_map (f := fa) I.kIn M.makes M.init (beq_iff_eq.mp M.fn) (codeAny_mono (F.run _ X.stack _ _ ⟨Value.ref (s.heap.objs.size + 1) :: us, []⟩ (Value.ref (s.heap.objs.size + 1) :: us) _ _ (WE W σ) (hr.make (ca c) us [])
    (I2.env0.make (ca c) us []) b r2 hq) fun r s' hq' => ?_))
  cases r with
  | error e => exact passAt tk σ pins _ _ e s' I2 hq'
  | ok fl =>
    cases fl with
    | ret u =>
      obtain ⟨v, H', I3, rv, ev, q3⟩ := I2.after hq'
      subst ev
      exact ⟨rv, ⟨V.ref (s.heap.objs.size + 1), H', I3, rfl, q3⟩⟩
    | next => exact False.elim hq'
    | brk => exact False.elim hq'
    | cont => exact False.elim hq'
def tMk (j f c : Nat) (K : PySem.W.Frag) (ca xa : Nat → Addr) (G : Tab) (W : WX) (t : TA) : TE := fun σ H Q => t σ H fun vs H1 => ∀ x dx, H1 x = none → H1 dx = none → dx ≠ x →
  spM K ca xa G j f (.ref x :: vs) (upd (upd H1 dx (.own x)) x (.ins (ca c) dx [])) (fun v H2 => v = .non ∧ Q (.ref x) H2) (WE W σ)
theorem pe_mkM {c f j : Nat} {fa : Addr} {fd : FuncData} {ps : List Str} {x : Str} {p : Pos} {t : TA} (M : Mk X.K (ca c) fa) (F : FnOk X.prog X.w X.K X.mg X.base (L2.CX X.prog X.w) j fa fd ps (spM X.K ca xa G j f)) (hr : Room (j + 1) X.A) (hb : Binds X.K fd ps []) (tk : Takes X W)
    (hg : Gl X x) (hm : X.mg x = some (.ref (ca c))) (hd : (x == ("__debug__" : Str)) = false) (hp : ∀ z ∈ es, plainE z = true) (hne : es ≠ []) (ha : PA X es t) :
    PE X (.Call (.Name x p) es [] pos) (tMk j f c X.K ca xa G W t) := by
  refine ⟨fun pins s σ H Q I h => ?_⟩
  refine wpAny_Call_Name_kw (ld_glob I hg hm ?_ hd)
  cases es with
  | nil => exact (hne rfl).elim
  | cons e es =>
    refine PySem.W.callWith_K (h₀ := X.base) I.ok.mod.kin M.kp (thn (ha.run pos pins s σ H _ I h) fun us s1 ⟨vs, H1, I1, r, q⟩ => ⟨I1.kIn, ?_⟩) (star_cons (hp e List.mem_cons_self)) (star_any fun z hz => hp z (List.mem_cons_of_mem e hz))
    exact run_makeM M F hr hb tk I1 r q
theorem pe_mkM0 {c f j : Nat} {fa : Addr} {fd : FuncData} {ps : List Str} {x : Str} {p : Pos} (M : Mk X.K (ca c) fa) (F : FnOk X.prog X.w X.K X.mg X.base (L2.CX X.prog X.w) j fa fd ps (spM X.K ca xa G j f)) (hr : Room (j + 1) X.A) (hb : Binds X.K fd ps []) (tk : Takes X W)
    (hg : Gl X x) (hm : X.mg x = some (.ref (ca c))) (hd : (x == ("__debug__" : Str)) = false) :
    PE X (.Call (.Name x p) [] [] pos) (tMk j f c X.K ca xa G W tNil) := by
  refine ⟨fun pins s σ H Q I h => ?_⟩
  refine wpAny_Call_Name_kw (ld_glob I hg hm ?_ hd)
  exact PySem.W.callWith_K0 I.kIn M.kp (run_makeM (us := []) M F hr hb tk I .nil h)
/-- the new instance -/
theorem mk_meet {c f j : Nat} {ms ms0 : List Addr} {H H0 : Hp} {h : MH} {xs : List Val} {vs : List V} {Qm : KV1} {Wm : KX1} {Q : VK} {E : XK} (rs : RS X.K ca ms H h) (rv : RVs H ms xs vs)
    (w : wcall G j f (.loc h.length :: xs) (h ++ [.ins c []]) (fun v h2 => (match v with
      | .non => Qm (.loc h.length) h2
      | _ => False)) Wm) (x0 : Xt ms0 H0 ms H) (hq : LfR X.K ca RV ms0 H0 Qm Q) (lx : LfX X.K ca xa G.nx ms H Wm E) :
    ∀ x dx, H x = none → H dx = none → dx ≠ x → spM X.K ca xa G j f (.ref x :: vs) (upd (upd H dx (.own x)) x (.ins (ca c) dx [])) (fun v H2 => v = .non ∧ Q (.ref x) H2) E := by
  intro x dx nx nd ne
  have s1 := rs.new (O := .own x) nd
  have x1 : Xt ms H ms (upd H dx (.own x)) := xt_new nd
  have nx1 : upd H dx (.own x) x = none := by rw [upd_ne ne.symm]; exact nx
  have s2 := s1.alloc (O := .ins (ca c) dx []) (o := .ins c []) nx1 ⟨dx, [], upd_same, .nil⟩
  have x2 : Xt ms (upd H dx (.own x)) (ms ++ [x]) (upd (upd H dx (.own x)) x (.ins (ca c) dx [])) := xt_alloc nx1
  have lo : (ms ++ [x])[h.length]? = some x := by rw [← rs.len]; simp
  refine ⟨ms ++ [x], h ++ [.ins c []], .loc h.length :: xs, _, Wm, s2, .cons (.loc lo) (rv.mono (x1.trans x2)), w, fun v h' ms' H' V x' rs' r q => ?_, lx.step (x1.trans x2)⟩
  cases r with
  | non => exact ⟨rfl, hq _ _ _ _ _ (x0.trans ((x1.trans x2).trans x')) rs' (.loc (x'.pre _ _ lo)) q⟩
  | _ => exact (show False from q).elim
theorem m_make {c f j : Nat} {cs : List (Str × Nat)} {fa : Addr} {fd : FuncData} {ps : List Str} {x : Str} {p : Pos} (hk : k = j + 1) (hG : G.cls[c]? = some (some f, cs)) (M : Mk X.K (ca c) fa) (F : FnOk X.prog X.w X.K X.mg X.base (L2.CX X.prog X.w) j fa fd ps (spM X.K ca xa G j f)) (hr : Room k X.A) (hb : Binds X.K fd ps []) (tk : Takes X W)
    (hg : Gl X x) (hm : X.mg x = some (.ref (ca c))) (hd : (x == ("__debug__" : Str)) = false) (hp : ∀ z ∈ es, plainE z = true) (h0 : es = [] → mes = .nil)
    (ha : PA X es (tA X.K ca xa G.nx W (wes G C (wcall G j) mes))) : PE X (.Call (.Name x p) es [] pos) (tE X.K ca xa G.nx W (we G C (wcall G j) (.make c mes))) := by
  subst hk
  by_cases hne : es = []
  · have e0 := h0 hne
    subst hne e0
    refine PE.imp (pe_mkM0 (W := W) M F hr hb tk hg hm hd) fun σ H Q ⟨ms, h, env, Qm, Wm, rs, re, w, hq, lx⟩ => ?_
    unfold we wes at w
    rw [hG] at w
    exact mk_meet rs .nil w (Xt.refl _ _) hq lx
  · refine PE.imp (pe_mkM (W := W) M F hr hb tk hg hm hd hp hne ha) fun σ H Q ⟨ms, h, env, Qm, Wm, rs, re, w, hq, lx⟩ => ?_
    unfold we at w
    refine tR.go rs re w lx fun xs h1 ms1 H1 Vs x1 rs1 re1 rx lx1 w1 => ?_
    rw [hG] at w1
    exact mk_meet rs1 rx w1 x1 hq lx1
/-- no level is left -/
theorem m_make0 {c f : Nat} {cs : List (Str × Nat)} {x : Str} {p : Pos} (hG : G.cls[c]? = some (some f, cs)) (hg : Gl X x) (hm : X.mg x = some (.ref (ca c))) (hk : PySem.W.keepIn X.K (.ref (ca c)) = true) (hd : (x == ("__debug__" : Str)) = false)
    (hp : ∀ z ∈ es, plainE z = true) (h0 : es = [] → mes = .nil) (ha : PA X es (tA X.K ca xa G.nx W (wes G C (wcp G 0).2 mes))) : PE X (.Call (.Name x p) es [] pos) (tE X.K ca xa G.nx W (we G C (wcp G 0).2 (.make c mes))) := by
  have fin : ∀ σ H Q, tE X.K ca xa G.nx W (we G C (wcp G 0).2 (.make c mes)) σ H Q → tA X.K ca xa G.nx W (wes G C (wcp G 0).2 mes) σ H (fun _ _ => False) := fun σ H Q ⟨ms, h, env, Qm, Wm, rs, re, w, hq, lx⟩ => by
    unfold we at w
    refine tR.go rs re w lx fun xs h1 ms1 H1 Vs x1 rs1 re1 rx lx1 w1 => ?_
    rw [hG] at w1
    exact w1
  refine ⟨fun pins s σ H Q I h => ?_⟩
  have q := fin σ H Q h
  refine wpAny_Call_Name_kw (ld_glob I hg hm ?_ hd)
  cases es with
  | nil =>
    have e0 := h0 rfl
    subst e0
    obtain ⟨ms, h, env, Qm, Wm, rs, re, w, hq, lx⟩ := q
    unfold wes at w
    exact (hq _ _ _ _ _ (Xt.refl _ _) rs .nil w).elim
  | cons e es =>
    refine PySem.W.callWith_K (h₀ := X.base) I.ok.mod.kin hk (thn (ha.run pos pins s σ H _ I q) fun us s1 ⟨vs, H1, I1, r, q⟩ => q.elim) (star_cons (hp e List.mem_cons_self)) (star_any fun z hz => hp z (List.mem_cons_of_mem e hz))
end
end Mn

/-! Mn7: methods of built-in types, isinstance, iterators, targets, comprehensions; the theorem about expressions. -/
namespace Mn
open PySem PySem.Spec PyProof.Rows L2
def tyM : BM → String
  | .get => "dict" | .join => "str" | _ => "list"
def nmM : BM → Str
  | .append => "append" | .pop => "pop" | .get => "get" | .insert => "insert" | .extend => "extend" | .reverse => "reverse" | .join => "join"
theorem bmF : ∀ m : BM, PlainAttrs (tyM m) ∧ Slot (tyM m) (nmM m) (idM m) ∧ typeOf (.builtin (idM m)) = pure (.type "method_descriptor")
  | .append => ⟨PySem.F.plainAttrs_list, PySem.F.slot_list_append, PySem.F.type_list_append⟩
  | .pop => ⟨PySem.F.plainAttrs_list, PySem.F.slot_list_pop, PySem.F.type_list_pop⟩
  | .get => ⟨PySem.F.plainAttrs_dict, PySem.F.slot_dict_get, PySem.F.type_dict_get⟩
  | .insert => ⟨PySem.F.plainAttrs_list, PySem.F.slot_list_insert, PySem.F.type_list_insert⟩
  | .extend => ⟨PySem.F.plainAttrs_list, PySem.F.slot_list_extend, PySem.F.type_list_extend⟩
  | .reverse => ⟨PySem.F.plainAttrs_list, PySem.F.slot_list_reverse, PySem.F.type_list_reverse⟩
  | .join => ⟨PySem.F.plainAttrs_str, PySem.F.slot_str_join, PySem.F.type_str_join⟩
theorem bmN_ok : ∀ p ∈ bmN, p.1 = nmM p.2 := by decide +kernel
theorem kind_of {K : PySem.W.Frag} {ca : Nat → Addr} {ms : List Addr} {H : Hp} {h : MH} {m : BM} {x : Val} {V1 : V} (rs : RS K ca ms H h) (rx : RV H ms x V1) (w : bmk m x h) : tyV K (tyM m) V1 H := by
  have lst : ∀ l, (match h[l]? with
    | some (.lst _) => True
    | _ => False) → RV H ms (.loc l) V1 → tyV K "list" V1 H := fun l w rx => by
    split at w
    · rename_i xs el
      obtain ⟨a, rfl, _, ro⟩ := rs.at el rx
      obtain ⟨vs, sq, _⟩ := ro.sqlL
      exact .inl ⟨rfl, _, sq⟩
    · exact w.elim
  cases m with
  | get =>
    cases x with
    | loc l =>
      have w : (match h[l]? with
        | some (.dK _) => True
        | some (.dT _) => True
        | _ => False) := w
      split at w
      · rename_i xs el
        obtain ⟨a, rfl, _, ws, e, _⟩ := rs.at el rx
        exact .inr (.inr (.inl ⟨rfl, .inl ⟨_, e⟩⟩))
      · rename_i xs el
        obtain ⟨a, rfl, _, ws, e, _⟩ := rs.at el rx
        exact .inr (.inr (.inl ⟨rfl, .inr ⟨_, e⟩⟩))
      · exact w.elim
    | _ => exact (show False from w).elim
  | join =>
    cases x with
    | str z => cases rx; rfl
    | _ => exact (show False from w).elim
  | _ =>
    cases x with
    | loc l => exact lst l w rx
    | _ => exact (show False from w).elim
section
variable {X : Cx} {W : WX} {G : Tab} {C Cm : CW} {ca xa : Nat → Addr} {nx : Nat} {k : Nat} {a b e o : Expr} {es : List Expr} {ma mb : E} {mes : Es} {pos : Pos} {g : Gm}
theorem m_bm {bm : BM} {m : Str} {ap : Pos} (hu : X.A.units + 65 < cLine) (hm : m = nmM bm) (ho : PE X o (tE X.K ca xa nx W (we G C Cm ma))) (hv : recvOk o = true) (hl : (ap.endLine == pos.line) = true)
    (hp : ∀ z ∈ es, plainE z = true) (hn : es.length < 29) (h0 : es = [] → mes = .nil) (ha : PA X es (tA X.K ca xa nx W (wes G C Cm mes))) : PE X (.Call (.Attribute o m ap) es [] pos) (tE X.K ca xa nx W (we G C Cm (.bm bm ma mes))) := by
  subst hm
  obtain ⟨f1, f2, f3⟩ := bmF bm
  by_cases hne : es = []
  · have e0 := h0 hne
    subst hne e0
    refine PE.imp (pe_bm0 f1 f2 f3 (mt_mini (ca := ca) hu bm) ho (abase hv) hl) fun σ H Q ⟨ms, h, env, Qm, Wm, rs, re, w, hq, lx⟩ => ?_
    unfold we at w
    refine tR.go rs re w lx fun x h1 ms1 H1 V1 x1 rs1 re1 rx lx1 w1 => ?_
    have w2 := w1.2
    unfold wes at w2
    exact ⟨kind_of rs1 rx w1.1, ms1, h1, x, [], Qm, rs1, rx, .nil, w2, LfR.step hq x1⟩
  · cases es with
    | nil => exact (hne rfl).elim
    | cons e es =>
      refine PE.imp (pe_bm f1 f2 f3 (mt_mini (ca := ca) hu bm) ho ha (abase hv) (few_ok hp hn) hl (star_cons (hp e List.mem_cons_self)) (star_any fun z hz => hp z (List.mem_cons_of_mem e hz))) fun σ H Q ⟨ms, h, env, Qm, Wm, rs, re, w, hq, lx⟩ => ?_
      unfold we at w
      refine tR.go rs re w lx fun x h1 ms1 H1 V1 x1 rs1 re1 rx lx1 w1 => ?_
      refine ⟨kind_of rs1 rx w1.1, tR.go rs1 re1 w1.2 lx1 fun xs h2 ms2 H2 Vs x2 rs2 re2 rxs lx2 w2 => ?_⟩
      exact ⟨ms2, h2, x, xs, Qm, rs2, rx.mono x2, rxs, w2, (LfR.step hq x1).step x2⟩
theorem m_isi {t : Ty} {x y : Str} {p p2 : Pos} (hx : x = ("isinstance" : Str)) (hg : Gl X x) (hm : X.mg x = none) (hgy : Gl X y) (hmy : X.mg y = none) (hv : bootBuiltins y = some (.type (tyN t))) (hn : y ≠ "__name__") (hd : (y == ("__debug__" : Str)) = false) (hp : plainE a = true)
    (ha : PE X a (tE X.K ca xa nx W (we G C Cm ma))) : PE X (.Call (.Name x p) [a, .Name y p2] [] pos) (tE X.K ca xa nx W (we G C Cm (.isi ma t))) := by
  subst hx
  have pt : PE X (.Name y p2) (tC (.ty (tyN t))) := pe_bltn hgy hmy hv rfl hn hd
  have pl : ∀ z ∈ [a, Expr.Name y p2], plainE z = true := fun z hz => by
    rcases List.mem_cons.mp hz with rfl | hz
    · exact hp
    · rcases List.mem_cons.mp hz with rfl | hz
      · rfl
      · cases hz
  have args : PA X [a, .Name y p2] (tCons (tE X.K ca xa nx W (we G C Cm ma)) (tCons (tC (.ty (tyN t))) tNil)) := pa_cons ha (pa_cons pt pa_nil) (star_cons hp)
  refine PE.imp (pe_callB (cr_isi (ca := ca) t) hg hm boot_isinstance args (by decide) (by decide) (star_cons hp) (star_any fun z hz => pl z (List.mem_cons_of_mem a hz))) fun σ H Q ⟨ms, h, env, Qm, Wm, rs, re, w, hq, lx⟩ => ?_
  unfold we at w
  refine tR.go rs re w lx fun x h1 ms1 H1 V1 x1 rs1 re1 rx lx1 w1 => ?_
  exact ⟨ms1, h1, x, V1, _, rfl, rs1, rx, w1, fun r q => hq _ _ _ _ _ x1 rs1 (.bl r) q⟩

/-! ### iterators -/
structure ItM (K : PySem.W.Frag) (ca : Nat → Addr) (H0 : Hp) (ms0 : List Addr) (n : Nx) (J : L2.It) : Prop where
  stop : ∀ ms H h i, Xt ms0 H0 ms H → RS K ca ms H h → n i h = some none → J.stop i H
  go : ∀ ms H h i v, Xt ms0 H0 ms H → RS K ca ms H h → n i h = some (some v) → J.go i H ∧ ∀ V H', J.yld i H V H' → Xt ms H ms H' ∧ RS K ca ms H' h ∧ RV H' ms v V
abbrev tI (K : PySem.W.Frag) (ca xa : Nat → Addr) (nx : Nat) (W : WX) (m : Ev → MH → (Nx → MH → Prop) → KX1 → Prop) : TI := tR K ca xa nx (fun H ms n J => ItM K ca H ms n J) W m
theorem PI.imp {tg : Expr} {t t' : TI} (p : PI X tg e t) (h : ∀ σ H Q, t' σ H Q → t σ H Q) : PI X tg e t' := ⟨fun pins s σ H Q I q => p.run pins s σ H Q I (h _ _ _ q)⟩
/-- a list or a tuple -/
theorem pi_seq {tg l : Expr} {tl : TE} (hl : PE X l tl) : PI X tg l (fun σ H R => tl σ H fun x H1 => ∃ a, x = .ref a ∧ (((∃ xs, SqL X.K H1 a xs) ∧ R (Itl X.K a) H1) ∨ ((∃ xs, SqT X.K H1 a xs) ∧ R (Itt X.K a) H1))) := by
  refine ⟨fun pins s σ H R I h => ?_⟩
  refine thn (hl.run pins s σ H _ I h) fun v s1 ⟨x, H1, I1, r1, q1⟩ => ?_
  obtain ⟨a, e, q⟩ := q1
  subst e
  cases r1
  rcases q with ⟨⟨xs, hq⟩, q⟩ | ⟨⟨xs, hq⟩, q⟩
  · obtain ⟨its, rv, p, hz⟩ := I1.list hq
    refine wpAny_pyIter_list p.isList ?_
    refine ⟨s1.heap.objs.size, [s1.heap.objs.size], _, _, H1, rfl, I1.kept (t' := s1.toks) fun b o e => Heap.get?_push_of_some _ e, turn_list a _, ⟨_, Heap.get?_push_size _ rfl, rfl, rfl⟩, fun b hb => ?_, q⟩
    have e : b = s1.heap.objs.size := by simpa using hb
    subst e
    exact I1.fpOk (Nat.le_refl _) (I1.hok.fresh (Nat.le_refl _))
  · obtain ⟨its, rv, p, hz⟩ := I1.tuple hq
    refine wpAny_pyIter_tuple (show s1.heap.IsTuple a its.toArray from p) ?_
    refine ⟨s1.heap.objs.size, [s1.heap.objs.size], _, _, H1, rfl, I1.kept (t' := s1.toks) fun b o e => Heap.get?_push_of_some _ e, turn_tuple a _, ⟨_, Heap.get?_push_size _ rfl, rfl, rfl⟩, fun b hb => ?_, q⟩
    have e : b = s1.heap.objs.size := by simpa using hb
    subst e
    exact I1.fpOk (Nat.le_refl _) (I1.hok.fresh (Nat.le_refl _))
theorem seqM_cases {x : Val} {h : MH} {xs : List Val} (e : seqM x h = some xs) : x = .tup xs ∨ ∃ l, x = .loc l ∧ (h[l]? = some (.lst xs) ∨ h[l]? = some (.rol xs)) := by
  cases x with
  | tup ys => cases e; exact .inl rfl
  | loc l =>
    have e : (match h[l]? with
      | some (.lst xs) => some xs
      | some (.rol xs) => some xs
      | _ => none) = some xs := e
    split at e
    · rename_i ys el; cases e; exact .inr ⟨l, rfl, .inl el⟩
    · rename_i ys el; cases e; exact .inr ⟨l, rfl, .inr el⟩
    · cases e
  | _ => cases e
theorem itm_list {K : PySem.W.Frag} {H0 : Hp} {ms0 : List Addr} {l : Nat} {p : Addr} (hl : ms0[l]? = some p) : ItM K ca H0 ms0 (nxSeq (.loc l)) (Itl K p) := by
  have key : ∀ {ms : List Addr} {H : Hp} {h : MH} {xs : List Val}, Xt ms0 H0 ms H → RS K ca ms H h → seqM (.loc l) h = some xs → ∃ vs, SqL K H p vs ∧ RVs H ms xs vs := fun {ms H h xs} x rs e => by
    rcases seqM_cases e with z | ⟨l', z, el | el⟩
    · cases z
    · cases z
      obtain ⟨q, eq, ep, ro⟩ := rs.at el (.loc (x.pre _ _ hl))
      cases eq
      exact ro.sqlL
    · cases z
      obtain ⟨q, eq, ep, ro⟩ := rs.at el (.loc (x.pre _ _ hl))
      cases eq
      exact ro.sql
  refine ⟨fun ms H h i x rs e => ?_, fun ms H h i v x rs e => ?_⟩
  · obtain ⟨xs, e1, e2⟩ := Option.map_eq_some_iff.mp e
    obtain ⟨vs, sq, rv⟩ := key x rs e1
    exact ⟨vs, sq, by rw [← rv.length]; exact List.getElem?_eq_none_iff.mp e2⟩
  · obtain ⟨xs, e1, e2⟩ := Option.map_eq_some_iff.mp e
    obtain ⟨vs, sq, rv⟩ := key x rs e1
    obtain ⟨u, eu, ru⟩ := rv.get e2
    refine ⟨⟨vs, u, sq, eu⟩, fun V H' y => ?_⟩
    obtain ⟨y1, y2⟩ := y
    subst y1
    have := y2 vs sq
    rw [eu] at this
    cases this
    exact ⟨Xt.refl _ _, rs, ru⟩
theorem itm_tup {K : PySem.W.Frag} {H0 : Hp} {ms0 : List Addr} {xs : List Val} {vs : List V} {p : Addr} (hp : H0 p = some (.tup vs)) (rv : RVs H0 ms0 xs vs) : ItM K ca H0 ms0 (nxSeq (.tup xs)) (Itt K p) := by
  refine ⟨fun ms H h i x rs e => ?_, fun ms H h i v x rs e => ?_⟩
  · have e2 : xs[i]? = none := Option.some.inj e
    exact ⟨vs, sqT_of (x.tup _ _ hp), by rw [← rv.length]; exact List.getElem?_eq_none_iff.mp e2⟩
  · have e2 : xs[i]? = some v := Option.some.inj e
    obtain ⟨u, eu, ru⟩ := rv.get e2
    refine ⟨⟨vs, u, sqT_of (x.tup _ _ hp), eu⟩, fun V H' y => ?_⟩
    obtain ⟨y1, y2⟩ := y
    subst y1
    have := y2 vs (sqT_of (x.tup _ _ hp))
    rw [eu] at this
    cases this
    exact ⟨Xt.refl _ _, rs, ru.mono x⟩
theorem itm_rng {K : PySem.W.Frag} {H0 : Hp} {ms0 : List Addr} {lo : Int} {n : Nat} : ItM K ca H0 ms0 (nxRng lo n) (Itr lo n) := by
  refine ⟨fun ms H h i x rs e => ?_, fun ms H h i v x rs e => ?_⟩
  · have e : (if i < n then some (Val.int (lo + i)) else none) = none := Option.some.inj e
    split at e
    · cases e
    · rename_i hn; exact Nat.le_of_not_lt hn
  · have e : (if i < n then some (Val.int (lo + i)) else none) = some v := Option.some.inj e
    split at e
    · rename_i hn
      cases e
      refine ⟨hn, fun V H' y => ?_⟩
      obtain ⟨y1, y2⟩ := y
      subst y1 y2
      exact ⟨Xt.refl _ _, rs, .int _⟩
    · cases e
theorem itm_enum {K : PySem.W.Frag} {H0 : Hp} {ms0 : List Addr} {l : Nat} {p : Addr} (hl : ms0[l]? = some p) : ItM K ca H0 ms0 (nxEnum l) (Ite K p) := by
  refine ⟨fun ms H h i x rs e => ?_, fun ms H h i v x rs e => ?_⟩
  · have e : (match h[l]? with
      | some (.lst xs) => some ((xs[i]?).map fun v => Val.tup [.int i, v])
      | _ => none) = some none := e
    split at e
    · rename_i xs el
      obtain ⟨q, eq, ep, ro⟩ := rs.at el (.loc (x.pre _ _ hl))
      cases eq
      obtain ⟨vs, sq, rv⟩ := ro.sqlL
      have e2 := Option.map_eq_none_iff.mp (Option.some.inj e)
      exact ⟨vs, sq, by rw [← rv.length]; exact List.getElem?_eq_none_iff.mp e2⟩
    · cases e
  · have e : (match h[l]? with
      | some (.lst xs) => some ((xs[i]?).map fun v => Val.tup [.int i, v])
      | _ => none) = some (some v) := e
    split at e
    · rename_i xs el
      obtain ⟨q, eq, ep, ro⟩ := rs.at el (.loc (x.pre _ _ hl))
      cases eq
      obtain ⟨vs, sq, rv⟩ := ro.sqlL
      obtain ⟨w, e2, e3⟩ := Option.map_eq_some_iff.mp (Option.some.inj e)
      subst e3
      obtain ⟨u, eu, ru⟩ := rv.get e2
      refine ⟨⟨vs, u, sq, eu⟩, fun V H' y => ?_⟩
      obtain ⟨T, z, y1, y2, y3, y4⟩ := y
      subst y1 y3
      have := y4 vs sq
      rw [eu] at this
      cases this
      exact ⟨xt_new y2, rs.new y2, .tup upd_same (.cons (.int _) (.cons (ru.mono (xt_new y2)) .nil))⟩
    · cases e
theorem m_itval {tg : Expr} (ha : PE X a (tE X.K ca xa nx W (we G C Cm ma))) : PI X tg a (tI X.K ca xa nx W (wit G C Cm (.val ma))) := by
  refine PI.imp (pi_seq ha) fun σ H Q ⟨ms, h, env, Qm, Wm, rs, re, w, hq, lx⟩ => ?_
  unfold wit at w
  refine tR.go rs re w lx fun x h1 ms1 H1 V1 x1 rs1 re1 rx lx1 w1 => ?_
  split at w1
  · rename_i xs e
    rcases seqM_cases e with z | ⟨l, z, el | el⟩
    · subst z
      cases rx with
      | tup ea ra => exact ⟨_, rfl, .inr ⟨⟨_, sqT_of ea⟩, hq _ _ _ _ _ x1 rs1 (itm_tup ea ra) w1⟩⟩
    · subst z
      obtain ⟨q, rfl, ep, ro⟩ := rs1.at el rx
      obtain ⟨vs, sq, rv⟩ := ro.sqlL
      exact ⟨_, rfl, .inl ⟨⟨_, sq⟩, hq _ _ _ _ _ x1 rs1 (itm_list ep) w1⟩⟩
    · subst z
      obtain ⟨q, rfl, ep, ro⟩ := rs1.at el rx
      obtain ⟨vs, sq, rv⟩ := ro.sql
      exact ⟨_, rfl, .inl ⟨⟨_, sq⟩, hq _ _ _ _ _ x1 rs1 (itm_list ep) w1⟩⟩
  · exact w1.elim
theorem m_itrng1 {tg : Expr} {p : Pos} (hg : Gl X "range") (hm : X.mg "range" = none) (hp : plainE a = true) (ha : PE X a (tE X.K ca xa nx W (we G C Cm ma))) :
    PI X tg (.Call (.Name "range" p) [a] [] pos) (tI X.K ca xa nx W (wit G C Cm (.rng1 ma))) := by
  refine PI.imp (pi_range1 hg hm (pa_cons ha pa_nil (star_cons hp)) (star_cons hp)) fun σ H Q ⟨ms, h, env, Qm, Wm, rs, re, w, hq, lx⟩ => ?_
  unfold wit at w
  refine tR.go rs re w lx fun x h1 ms1 H1 V1 x1 rs1 re1 rx lx1 w1 => ?_
  cases rx with
  | int j => exact ⟨j, rfl, w1.1.1, w1.1.2, hq _ _ _ _ _ x1 rs1 itm_rng w1.2⟩
  | _ => exact (show False from w1).elim
theorem m_itrng2 {tg : Expr} {p : Pos} (hg : Gl X "range") (hm : X.mg "range" = none) (hp : plainE a = true) (hp2 : plainE b = true) (ha : PE X a (tE X.K ca xa nx W (we G C Cm ma))) (hb : PE X b (tE X.K ca xa nx W (we G C Cm mb))) :
    PI X tg (.Call (.Name "range" p) [a, b] [] pos) (tI X.K ca xa nx W (wit G C Cm (.rng2 ma mb))) := by
  refine PI.imp (pi_range2 hg hm (pa_cons ha (pa_cons hb pa_nil (star_cons hp2)) (star_cons hp)) (by rw [star_cons hp, star_cons hp2]; rfl) (star_cons hp2)) fun σ H Q ⟨ms, h, env, Qm, Wm, rs, re, w, hq, lx⟩ => ?_
  unfold wit at w
  refine tR.go rs re w lx fun x h1 ms1 H1 V1 x1 rs1 re1 rx lx1 w1 => ?_
  refine tR.go rs1 re1 w1 lx1 fun y h2 ms2 H2 V2 x2 rs2 re2 ry lx2 w2 => ?_
  cases rx with
  | int i =>
    cases ry with
    | int j => exact ⟨i, j, rfl, w2.1, hq _ _ _ _ _ (x1.trans x2) rs2 itm_rng w2.2⟩
    | _ => exact (show False from w2).elim
  | _ => cases ry <;> exact (show False from w2).elim
theorem m_itenum {p tpos : Pos} {elts : List Expr} {kk : Nat} (hg : Gl X "enumerate") (hm : X.mg "enumerate" = none) (hp : plainE a = true) (ha : PE X a (tE X.K ca xa nx W (we G C Cm ma))) :
    PI X (.Tuple elts kk tpos) (.Call (.Name "enumerate" p) [a] [] pos) (tI X.K ca xa nx W (wit G C Cm (.enum ma))) := by
  refine PI.imp (pi_enum hg hm (pa_cons ha pa_nil (star_cons hp)) (star_cons hp)) fun σ H Q ⟨ms, h, env, Qm, Wm, rs, re, w, hq, lx⟩ => ?_
  unfold wit at w
  refine tR.go rs re w lx fun x h1 ms1 H1 V1 x1 rs1 re1 rx lx1 w1 => ?_
  cases x with
  | loc l =>
    have w1 : (match h1[l]? with
      | some (.lst _) => Qm (nxEnum l) h1
      | _ => False) := w1
    split at w1
    · rename_i xs el
      obtain ⟨q, rfl, ep, ro⟩ := rs1.at el rx
      obtain ⟨vs, sq, rv⟩ := ro.sqlL
      exact ⟨_, _, rfl, sq, hq _ _ _ _ _ x1 rs1 (itm_enum ep) w1⟩
    · exact w1.elim
  | _ => exact (show False from w1).elim

/-! ### targets -/
/-- alike but at these slots -/
def Agr (sl : List Nat) (σ σ' : St) : Prop := σ'.length = σ.length ∧ ∀ j, j ∉ sl → σ'[j]? = σ[j]?
theorem Agr.refl {sl : List Nat} {σ : St} : Agr sl σ σ := ⟨rfl, fun _ _ => rfl⟩
theorem Agr.trans {sl sl' : List Nat} {σ σ1 σ2 : St} (a : Agr sl σ σ1) (b : Agr sl' σ1 σ2) : Agr (sl ++ sl') σ σ2 := ⟨b.1.trans a.1, fun j hj => by
  rw [List.mem_append, not_or] at hj
  exact (b.2 j hj.2).trans (a.2 j hj.1)⟩
theorem Agr.set {i : Nat} {σ : St} {v : Option V} : Agr [i] σ (σ.set i v) := ⟨by simp, fun j hj => by
  have : i ≠ j := fun e => hj (by simp [e])
  rw [List.getElem?_set_ne this]⟩
theorem wipe_get : ∀ (vs : List Nat) (σ : St) (j : Nat), (wipe σ vs)[j]? = if j ∈ vs then (σ[j]?).map (fun _ => none) else σ[j]?
  | [], σ, j => by simp [wipe]
  | v :: vs, σ, j => by
    unfold wipe
    by_cases h : v = j
    · subst h
      rw [if_pos List.mem_cons_self]
      by_cases hl : v < σ.length
      · rw [List.getElem?_set_self (by rw [wipe_length]; exact hl), List.getElem?_eq_getElem hl]
        rfl
      · rw [List.getElem?_eq_none (by rw [List.length_set, wipe_length]; omega), List.getElem?_eq_none (by omega)]
        rfl
    · rw [List.getElem?_set_ne h, wipe_get vs σ j]
      by_cases h2 : j ∈ vs
      · rw [if_pos h2, if_pos (List.mem_cons_of_mem _ h2)]
      · rw [if_neg h2, if_neg (by
          rw [List.mem_cons, not_or]
          exact ⟨fun e => h e.symm, h2⟩)]
theorem Agr.wipe {sl own : List Nat} {σ σ' : St} (a : Agr sl σ σ') (h : ∀ i ∈ sl, i ∈ own) : L2.wipe σ' own = L2.wipe σ own := by
  refine List.ext_getElem? fun j => ?_
  rw [wipe_get, wipe_get]
  by_cases hj : j ∈ own
  · rw [if_pos hj, if_pos hj]
    by_cases hl : j < σ.length
    · rw [List.getElem?_eq_getElem hl, List.getElem?_eq_getElem (by rw [a.1]; exact hl)]
      rfl
    · rw [List.getElem?_eq_none (by rw [a.1]; omega), List.getElem?_eq_none (by omega)]
  · rw [if_neg hj, if_neg hj, a.2 j fun z => hj (h j z)]
theorem wipe_wipe {σ : St} {own : List Nat} : L2.wipe (L2.wipe σ own) own = L2.wipe σ own := by
  refine List.ext_getElem? fun j => ?_
  rw [wipe_get, wipe_get]
  by_cases hj : j ∈ own
  · rw [if_pos hj, if_pos hj, Option.map_map]
    rfl
  · rw [if_neg hj, if_neg hj]
def LfT (K : PySem.W.Frag) (ca : Nat → Addr) (sl : List Nat) (σ : St) (ms : List Addr) (H : Hp) (Qm : Ev → MH → Prop) (Q : St → Hp → Prop) : Prop := ∀ env' h' ms' H' σ', Agr sl σ σ' → Xt ms H ms' H' → RS K ca ms' H' h' → RE H' ms' env' σ' → Qm env' h' → Q σ' H'
theorem LfT.step {K : PySem.W.Frag} {sl : List Nat} {σ : St} {ms ms1 : List Addr} {H H1 : Hp} {Qm : Ev → MH → Prop} {Q : St → Hp → Prop} (q : LfT K ca sl σ ms H Qm Q) (x : Xt ms H ms1 H1) : LfT K ca sl σ ms1 H1 Qm Q := fun e h' ms' H' s ag x' rs re w => q e h' ms' H' s ag (x.trans x') rs re w
def tGt (K : PySem.W.Frag) (ca xa : Nat → Addr) (nx : Nat) (W : WX) (sl : List Nat) (m : Val → Ev → MH → (Ev → MH → Prop) → KX1 → Prop) : TG := fun V σ H Q => ∃ ms h env v Qm Wm, RS K ca ms H h ∧ RE H ms env σ ∧ RV H ms v V ∧ m v env h Qm Wm ∧ LfT K ca sl σ ms H Qm Q ∧ LfX K ca xa nx ms H Wm (WE W σ)
def tGts (K : PySem.W.Frag) (ca : Nat → Addr) (sl : List Nat) (m : List Val → Ev → MH → (Ev → MH → Prop) → Prop) : TGs := fun Vs σ H Q => ∃ ms h env vs Qm, RS K ca ms H h ∧ RE H ms env σ ∧ RVs H ms vs Vs ∧ m vs env h Qm ∧ LfT K ca sl σ ms H Qm Q
theorem PG.imp {t t' : TG} (p : PG X e t) (h : ∀ V σ H Q, t' V σ H Q → t V σ H Q) : PG X e t' := ⟨fun pins s σ H v u Q I r q => p.run pins s σ H v u Q I r (h _ _ _ _ q)⟩
theorem PGs.imp {t t' : TGs} (p : PGs X es t) (h : ∀ V σ H Q, t' V σ H Q → t V σ H Q) : PGs X es t' := ⟨fun pins s σ H v u Q I r q => p.run pins s σ H v u Q I r (h _ _ _ _ q)⟩
theorem m_tnm {i : Nat} {x : Str} (hN : X.N.Nodup) (hi : X.N[i]? = some x) (hx : Loc X.env.scope x) (hf : X.fn x = true ∨ X.env.scope.names.lookup x = some .local) : PG X (.Name x pos) (tGt X.K ca xa nx W [i] (wtg G C Cm (.nm i))) := by
  refine PG.imp (pg_name hN hi hx hf) fun V σ H Q ⟨ms, h, env, v, Qm, Wm, rs, re, rv, w, hq, lx⟩ => ?_
  unfold wtg at w
  exact hq _ _ _ _ _ Agr.set (Xt.refl _ _) rs (re.set i rv) w
theorem m_tnil : PGs X [] (tGts X.K ca [] (wtgs G C Cm .nil)) := by
  refine PGs.imp pgs_nil fun V σ H Q ⟨ms, h, env, v, Qm, rs, re, rv, w, hq⟩ => ?_
  unfold wtgs at w
  cases rv with
  | nil => exact ⟨rfl, hq _ _ _ _ _ Agr.refl (Xt.refl _ _) rs re w⟩
  | cons _ _ => exact w.elim
theorem asg_cons {t : Expr} {ts : List Expr} {env : Env} (h : plainE t = true) : assignEach (t :: ts) env = (false, assign t env) :: assignEach ts env := by
  cases t <;> first | rfl | cases h
theorem m_tcons {mt : T} {mts : Ts} {s1 s2 : List Nat} (hp : plainE e = true) (ht : PG X e (tGt X.K ca xa nx W s1 (wtg G C Cm mt))) (hts : PGs X es (tGts X.K ca s2 (wtgs G C Cm mts))) : PGs X (e :: es) (tGts X.K ca (s1 ++ s2) (wtgs G C Cm (.cons mt mts))) := by
  refine PGs.imp (pgs_cons ht hts (by rw [asg_cons hp]; rfl)) fun V σ H Q ⟨ms, h, env, v, Qm, rs, re, rv, w, hq⟩ => ?_
  unfold wtgs at w
  cases rv with
  | nil => exact w.elim
  | cons r t =>
    refine ⟨_, _, rfl, ms, h, env, _, _, _, rs, re, r, w, fun env1 h1 ms1 H1 σ1 ag x1 rs1 re1 w1 => ?_, LfX.no⟩
    exact ⟨ms1, h1, env1, _, Qm, rs1, re1, t.mono x1, w1, fun e' h' ms' H' σ' ag' x' rs' re' w' => hq e' h' ms' H' σ' (ag.trans ag') (x1.trans x') rs' re' w'⟩
theorem asg_len : ∀ {ts : List Expr} {env : Env}, (assignEach ts env).length = ts.length
  | [], _ => rfl
  | t :: ts, env => by cases t <;> (show (assignEach ts env).length + 1 = ts.length + 1; rw [asg_len])
theorem asg_find : ∀ {ts : List Expr} {env : Env}, (∀ t ∈ ts, plainE t = true) → (assignEach ts env).findIdx? (·.1) = none
  | [], _, _ => rfl
  | t :: ts, env, h => by
    rw [asg_cons (h t List.mem_cons_self), List.findIdx?_cons, asg_find fun z hz => h z (List.mem_cons_of_mem _ hz)]
    rfl
theorem m_ttup {mts : Ts} {kk : Nat} (hc : X.calm = true) (hp : ∀ t ∈ es, plainE t = true) (hl : mts.len = es.length) {sl : List Nat} (hts : PGs X es (tGts X.K ca sl (wtgs G C Cm mts))) : PG X (.Tuple es kk pos) (tGt X.K ca xa nx W sl (wtg G C Cm (.tup mts))) := by
  refine PG.imp (pg_tup hc hts (n := es.length) asg_len (asg_find hp)) fun V σ H Q ⟨ms, h, env, v, Qm, Wm, rs, re, rv, w, hq, lx⟩ => ?_
  unfold wtg at w
  cases rv with
  | tup ea ra => exact ⟨_, _, rfl, sqT_of ea, by rw [← ra.length, w.1, hl], ms, h, env, _, Qm, rs, re, ra, w.2, hq⟩
  | _ => exact (show False from w).elim
theorem m_tsub (hu : X.A.units + 65 < cLine) (hp : plainE b = true) (ha : PE X a (tE X.K ca xa nx W (we G C Cm ma))) (hb : PE X b (tE X.K ca xa nx W (we G C Cm mb))) : PG X (.Subscript a b pos) (tGt X.K ca xa nx W [] (wtg G C Cm (.sub ma mb))) := by
  refine PG.imp (pg_sub ha hb (set_mini (ca := ca) hu) (fun v => by cases b <;> first | rfl | cases hp)) fun V σ H Q ⟨ms, h, env, v, Qm, Wm, rs, re, rv, w, hq, lx⟩ => ?_
  unfold wtg at w
  refine tR.go rs re w lx fun x h1 ms1 H1 V1 x1 rs1 re1 rx lx1 w1 => ?_
  refine tR.go rs1 re1 w1 lx1 fun y h2 ms2 H2 V2 x2 rs2 re2 ry lx2 w2 => ?_
  exact ⟨ms2, h2, x, y, v, _, rs2, rx.mono x2, ry, rv.mono (x1.trans x2), w2, fun h' H' x3 rs3 q => hq _ _ _ _ _ Agr.refl ((x1.trans x2).trans x3) rs3 (re2.mono x3) q⟩

/-! ### comprehensions -/
def tIfs (K : PySem.W.Frag) (ca xa : Nat → Addr) (nx : Nat) (W : WX) (m : Ev → MH → (Bool → MH → Prop) → KX1 → Prop) : TT := tR K ca xa nx eqR W m
theorem PTs.imp {ifs : List Expr} {t t' : TT} (p : PTs X ifs t) (h : ∀ σ H Q, t' σ H Q → t σ H Q) : PTs X ifs t' := ⟨fun pins s σ H Q I q => p.run pins s σ H Q I (h _ _ _ q)⟩
theorem m_ifs0 : PTs X [] (tIfs X.K ca xa nx W (wbs G C Cm .nil)) := PTs.imp pts_nil fun σ H Q ⟨ms, h, env, Qm, Wm, rs, re, w, hq, lx⟩ => by
  unfold wbs at w
  exact hq _ _ _ _ _ (Xt.refl _ _) rs rfl w
theorem m_ifs1 {mb : B} (hb : PT X b (tT X.K ca xa nx W (wt G C Cm mb))) : PTs X [b] (tIfs X.K ca xa nx W (wbs G C Cm (.cons mb .nil))) := PTs.imp (pts_one hb) fun σ H Q ⟨ms, h, env, Qm, Wm, rs, re, w, hq, lx⟩ => by
  unfold wbs at w
  refine tR.go rs re w lx fun x h1 ms1 H1 V1 x1 rs1 re1 rx lx1 w1 => ?_
  cases rx
  cases x with
  | true =>
    unfold wbs at w1
    exact hq _ _ _ _ _ x1 rs1 rfl w1
  | false => exact hq _ _ _ _ _ x1 rs1 rfl w1
abbrev W0 : WX := fun _ _ _ _ => False
/-- what a comprehension's reading asks, from the core language's -/
theorem lc_read {K : PySem.W.Frag} {mit : Mn.It} {mt : T} {mbs : Bs} {mel : E} {own sl : List Nat} (hsl : ∀ i ∈ sl, i ∈ own) {σ : St} {H : Hp} {Q : VK} (q : tE K ca xa nx W (we G C Cm (.lc mt mit mbs own mel)) σ H Q) :
    tLc (tI K ca xa nx W (wit G C Cm mit)) (tGt K ca xa nx W0 sl (wtg G C Cm mt)) (tIfs K ca xa nx W0 (wbs G C Cm mbs)) (tE K ca xa nx W0 (we G C Cm mel)) own σ H Q := by
  obtain ⟨ms, h, env, Qm, Wm, rs, re, w, hq, lx⟩ := q
  unfold we at w
  refine tR.go rs re w lx fun n h1 ms1 H1 J x1 rs1 re1 rj lx1 w1 => ?_
  intro D nD
  obtain ⟨I, ⟨m0, i0⟩, turn⟩ := w1
  have x2 : Xt ms1 H1 (ms1 ++ [D]) (upd H1 D (.lst [])) := xt_alloc nD
  have rs2 := rs1.alloc (o := .lst []) nD ⟨[], upd_same, .nil⟩
  have lD : (ms1 ++ [D])[h1.length]? = some D := by rw [← rs1.len]; simp
  refine ⟨fun i m H2 => ∃ ms2 h2, Xt (ms1 ++ [D]) (upd H1 D (.lst [])) ms2 H2 ∧ RS K ca ms2 H2 h2 ∧ I i m h2, ⟨m0, _, _, Xt.refl _ _, rs2, i0⟩, ?_⟩
  rintro i m H2 ⟨ms2, h2, x3, rs3, w2⟩
  have w3 := turn i m h2 w2
  split at w3
  · exact w3.elim
  · rename_i e
    exact .inl ⟨rj.stop ms2 H2 h2 i (x2.trans x3) rs3 e, hq _ _ _ _ _ ((x1.trans x2).trans x3) rs3 (.loc (x3.pre _ _ lD)) w3⟩
  · rename_i v e
    obtain ⟨go, yl⟩ := rj.go ms2 H2 h2 i v (x2.trans x3) rs3 e
    refine .inr ⟨go, fun H' => ∃ m', m' < m ∧ ∃ ms2 h2, Xt (ms1 ++ [D]) (upd H1 D (.lst [])) ms2 H' ∧ RS K ca ms2 H' h2 ∧ I (i + 1) m' h2, fun H' ⟨m', hm, z⟩ => ⟨m', hm, z⟩, fun x H' y => ?_⟩
    obtain ⟨x4, rs4, rv4⟩ := yl x H' y
    have x34 := x3.trans x4
    refine ⟨ms2, h2, wipeM env own, v, _, _, rs4, (re1.mono (x2.trans x34)).wipe own, rv4, w3, fun env3 h3 ms3 H3 σ3 ag x5 rs5 re5 w5 => ?_, LfX.no⟩
    refine ⟨by rw [ag.wipe hsl, wipe_wipe], tR.go rs5 re5 w5 LfX.no fun r h4 ms4 H4 r' x6 rs6 re6 rr lx6 w6 => ?_⟩
    have rr : r = r' := rr
    subst rr
    cases r with
    | true =>
      rw [if_pos rfl] at w6 ⊢
      refine tR.go rs6 re6 w6 LfX.no fun z h7 ms7 H7 Z x7 rs7 re7 rz lx7 w7 => ?_
      have w7 : (match h7[h1.length]? with
        | some (.lst acc) => acc.length < sizeLine ∧ ∃ m', m' < m ∧ I (i + 1) m' (h7.set h1.length (.lst (acc ++ [z])))
        | _ => False) := w7
      split at w7
      · rename_i acc el
        have x57 := (x34.trans x5).trans (x6.trans x7)
        obtain ⟨p, ep, ea, vs, ev, rvs⟩ := rs7.at el (.loc (x57.pre _ _ lD))
        cases ep
        refine ⟨vs, ev, by rw [← rvs.length]; exact w7.1, ?_⟩
        obtain ⟨m', hm, i7⟩ := w7.2
        have x8 : Xt ms7 H7 ms7 (upd H7 D (.lst (vs ++ [Z]))) := xt_put ev (fun _ z => nomatch z)
        exact ⟨m', hm, ms7, _, x57.trans x8, rs7.put (o' := .lst (acc ++ [z])) el (fun _ z => nomatch z) ea ev (fun _ z => nomatch z) ⟨_, upd_same, (rvs.append (.cons rz .nil)).mono x8⟩, i7⟩
      · exact w7.elim
    | false =>
      rw [if_neg Bool.false_ne_true] at w6 ⊢
      obtain ⟨m', hm, i6⟩ := w6
      exact ⟨m', hm, ms4, h4, (x34.trans x5).trans x6, rs6, i6⟩
end
end Mn

/-! Mn8: every translated expression reads as the core language says. -/
namespace Mn
open PySem PySem.Spec PyProof.Rows L2
theorem relab_keep {scope : Scope} {env : Env} {x : Str} {k : NameKind} (hk : k ≠ .free) (h : scope.names.lookup x = some k) : (relabel scope env).names.lookup x = some k := lookup_relS_keep (sc := env.scope) hk h
theorem relab_free {env : Env} : ∀ {names : List (Str × NameKind)} {x : Str}, names.lookup x = some .free →
    (names.map fun (n, k) => if (k == NameKind.free && env.scope.kind == .function && env.kindOf n == some .cell) then (n, NameKind.cell) else (n, k)).lookup x = some .cell ∨
    (names.map fun (n, k) => if (k == NameKind.free && env.scope.kind == .function && env.kindOf n == some .cell) then (n, NameKind.cell) else (n, k)).lookup x = some .free
  | [], _, h => by simp at h
  | (n, k) :: r, x, h => by
    have ih := @relab_free env r x
    show List.lookup x ((if (k == NameKind.free && env.scope.kind == .function && env.kindOf n == some .cell) = true then (n, NameKind.cell) else (n, k)) :: (r.map _)) = _ ∨ List.lookup x ((if (k == NameKind.free && env.scope.kind == .function && env.kindOf n == some .cell) = true then (n, NameKind.cell) else (n, k)) :: (r.map _)) = _
    cases hx : x == n with
    | true =>
      simp only [List.lookup_cons, hx] at h
      cases h
      by_cases hc : (NameKind.free == NameKind.free && env.scope.kind == .function && env.kindOf n == some .cell) = true
      · rw [if_pos hc]; left; simp only [List.lookup_cons, hx]
      · rw [if_neg hc]; right; simp only [List.lookup_cons, hx]
    | false =>
      simp only [List.lookup_cons, hx] at h
      by_cases hc : (k == NameKind.free && env.scope.kind == .function && env.kindOf n == some .cell) = true
      · rw [if_pos hc]; simp only [List.lookup_cons, hx]; exact ih h
      · rw [if_neg hc]; simp only [List.lookup_cons, hx]; exact ih h
section
variable {g : Gm} {N : List Str} {G : Tab} {ca xa : Nat → Addr} {k : Nat}
theorem XE.blk {X : Cx} {sc : Scope} {W : WX} (O : XE X g N G ca xa k sc false W) (scope : Scope) (s : Shared) (H : Hp) (A : Addr) (cl : List (Str × Addr)) (fp : List Addr) :
    XE (X.blk s H scope (compEnvC scope cl A X.env) fp) g N G ca xa k scope false W0 where
  eN := O.eN
  nd := O.nd
  vis := fun x hx => by
    unfold visB at hx
    split at hx
    · rename_i e; exact .inl (relab_keep (by decide) e)
    · rename_i e; exact .inr (.inl (relab_keep (by decide) e))
    · rename_i e
      rcases relab_free (env := X.env) e with z | z
      · exact .inr (.inl z)
      · exact .inr (.inr z)
    · cases hx
  loc := fun x hx => by
    unfold locB at hx
    split at hx
    · rename_i e; exact ⟨.inl (relab_keep (by decide) e), .inr (relab_keep (by decide) e)⟩
    · rename_i e
      refine ⟨.inr (relab_keep (by decide) e), .inl ?_⟩
      show (scope.names.lookup x == some .cell) = true
      rw [e]
      rfl
    · cases hx
  cap := fun x hx => by
    rcases hx with e | e
    · exact .inl (relab_keep (by decide) e)
    · exact relab_free (env := X.env) e
  gl := fun x hx => by
    unfold glB at hx
    split at hx
    · rename_i e; exact relab_keep (by decide) e
    · cases hx
  hu := O.hu
  calm := O.calm
  tk := takes0
  tok := O.tok
theorem blk_of {sc sc' scope : Scope} {own : List (Str × Nat)} (cap : ∀ x, (sc.names.lookup x = some .cell ∨ sc.names.lookup x = some .free) → (sc'.names.lookup x = some .cell ∨ sc'.names.lookup x = some .free)) (b : BlkOk N sc scope own) : BlkOk N sc' scope own :=
  ⟨b.kind, b.uniq, b.ix, fun y hy e => cap _ (b.free y hy e), b.own⟩

/-- what is shown of a translation -/
structure Snd (g : Gm) (N : List Str) (G : Tab) (ca xa : Nat → Addr) (k : Nat) (c : Cp) : Prop where
  pl : ∀ hot sc e m, c.e hot sc e = some m → plainE e = true
  e : ∀ X sc hot W e m, XE X g N G ca xa k sc hot W → c.e hot sc e = some m → PE X e (tE X.K ca xa G.nx W (we G (wcall G k) (wcp G k).2 m))
  b : ∀ X sc hot W e m, XE X g N G ca xa k sc hot W → c.b hot sc e = some m → PT X e (tT X.K ca xa G.nx W (wt G (wcall G k) (wcp G k).2 m))
  it : ∀ X sc hot W tg e m, XE X g N G ca xa k sc hot W → c.it hot sc tg e = some m → PI X tg e (tI X.K ca xa G.nx W (wit G (wcall G k) (wcp G k).2 m)) ∧ plainE e = true
  t : ∀ X sc hot W e m, XE X g N G ca xa k sc hot W → c.t hot sc e = some m → PG X e (tGt X.K ca xa G.nx W m.sl (wtg G (wcall G k) (wcp G k).2 m)) ∧ plainE e = true
section
variable {c : Cp} (Z : Snd g N G ca xa k c)
include Z
variable {X : Cx} {sc : Scope} {hot : Bool} {W : WX}
theorem Snd.es (Y : XE X g N G ca xa k sc hot W) : ∀ {es : List Expr} {ms : Es}, cEs (c.e hot sc) es = some ms → PA X es (tA X.K ca xa G.nx W (wes G (wcall G k) (wcp G k).2 ms))
  | [], ms, h => by cases h; exact m_nil
  | e :: r, ms, h => by
    unfold cEs at h
    obtain ⟨a, h1, h2⟩ := Option.bind_eq_some_iff.mp h
    obtain ⟨b, h3, h4⟩ := Option.bind_eq_some_iff.mp h2
    cases h4
    exact m_cons (Z.pl _ _ _ _ h1) (Z.e X sc hot W e a Y h1) (Snd.es Y h3)
theorem Snd.esp {es : List Expr} {ms : Es} (h : cEs (c.e hot sc) es = some ms) : ∀ e ∈ es, plainE e = true := ces_plain (fun e m q => Z.pl _ _ _ _ q) h
omit Z in
theorem ces_nil {f : Expr → Option E} {es : List Expr} {ms : Es} (h : cEs f es = some ms) : es = [] → ms = .nil := fun e => by subst e; cases h; rfl
theorem Snd.ts (Y : XE X g N G ca xa k sc hot W) : ∀ {es : List Expr} {ms : Ts}, cTs (c.t hot sc) es = some ms → PGs X es (tGts X.K ca ms.sl (wtgs G (wcall G k) (wcp G k).2 ms)) ∧ (∀ t ∈ es, plainE t = true) ∧ ms.len = es.length
  | [], ms, h => by cases h; exact ⟨m_tnil, fun _ h => (by cases h), rfl⟩
  | e :: r, ms, h => by
    unfold cTs at h
    obtain ⟨a, h1, h2⟩ := Option.bind_eq_some_iff.mp h
    obtain ⟨b, h3, h4⟩ := Option.bind_eq_some_iff.mp h2
    cases h4
    obtain ⟨p1, p2⟩ := Z.t X sc hot W e a Y h1
    obtain ⟨q1, q2, q3⟩ := Snd.ts Y h3
    refine ⟨m_tcons p2 p1 q1, fun t ht => ?_, by show b.len + 1 = r.length + 1; rw [q3]⟩
    rcases List.mem_cons.mp ht with rfl | ht
    · exact p2
    · exact q2 t ht
theorem Snd.andV (Y : XE X g N G ca xa k sc hot W) {pos : Pos} : ∀ {es : List Expr} {m : E}, cBin .andv (c.e hot sc) es = some m → PE X (.BoolOp .And es pos) (tE X.K ca xa G.nx W (we G (wcall G k) (wcp G k).2 m))
  | [], m, h => by cases h
  | [a], m, h => pe_one (Z.e X sc hot W a m Y h)
  | a :: b :: r, m, h => by
    unfold cBin at h
    obtain ⟨x, h1, h2⟩ := Option.bind_eq_some_iff.mp h
    obtain ⟨y, h3, h4⟩ := Option.bind_eq_some_iff.mp h2
    cases h4
    exact m_andV (Z.e X sc hot W a x Y h1) (Snd.andV Y h3)
theorem Snd.orV (Y : XE X g N G ca xa k sc hot W) {pos : Pos} : ∀ {es : List Expr} {m : E}, cBin .orv (c.e hot sc) es = some m → PE X (.BoolOp .Or es pos) (tE X.K ca xa G.nx W (we G (wcall G k) (wcp G k).2 m))
  | [], m, h => by cases h
  | [a], m, h => pe_one (Z.e X sc hot W a m Y h)
  | a :: b :: r, m, h => by
    unfold cBin at h
    obtain ⟨x, h1, h2⟩ := Option.bind_eq_some_iff.mp h
    obtain ⟨y, h3, h4⟩ := Option.bind_eq_some_iff.mp h2
    cases h4
    exact m_orV (Z.e X sc hot W a x Y h1) (Snd.orV Y h3)
theorem Snd.andT (Y : XE X g N G ca xa k sc hot W) {pos : Pos} : ∀ {es : List Expr} {m : B}, cBinB .and (c.b hot sc) es = some m → PW X (.BoolOp .And es pos) (tT X.K ca xa G.nx W (wt G (wcall G k) (wcp G k).2 m))
  | [], m, h => by cases h
  | [a], m, h => pw_and1 (Z.b X sc hot W a m Y h)
  | a :: b :: r, m, h => by
    unfold cBinB at h
    obtain ⟨x, h1, h2⟩ := Option.bind_eq_some_iff.mp h
    obtain ⟨y, h3, h4⟩ := Option.bind_eq_some_iff.mp h2
    cases h4
    exact m_andT (Z.b X sc hot W a x Y h1) (Snd.andT Y h3)
theorem Snd.orT (Y : XE X g N G ca xa k sc hot W) {pos : Pos} : ∀ {es : List Expr} {m : B}, cBinB .or (c.b hot sc) es = some m → PW X (.BoolOp .Or es pos) (tT X.K ca xa G.nx W (wt G (wcall G k) (wcp G k).2 m))
  | [], m, h => by cases h
  | [a], m, h => pw_or1 (Z.b X sc hot W a m Y h)
  | a :: b :: r, m, h => by
    unfold cBinB at h
    obtain ⟨x, h1, h2⟩ := Option.bind_eq_some_iff.mp h
    obtain ⟨y, h3, h4⟩ := Option.bind_eq_some_iff.mp h2
    cases h4
    exact m_orT (Z.b X sc hot W a x Y h1) (Snd.orT Y h3)
theorem Snd.o (Y : XE X g N G ca xa k sc hot W) : ∀ {e : Option Expr} {m : O}, cO (c.e hot sc) e = some m → PO X e (tOp' X.K ca xa G.nx W (wo G (wcall G k) (wcp G k).2 m))
  | none, m, h => by cases h; exact m_onone
  | some e, m, h => by
    obtain ⟨a, h1, rfl⟩ := Option.map_eq_some_iff.mp h
    exact m_osome (Z.e X sc hot W e a Y h1)
theorem Snd.ifs (Y : XE X g N G ca xa k sc hot W) : ∀ {es : List Expr} {m : Bs}, cIfs (c.b hot sc) es = some m → PTs X es (tIfs X.K ca xa G.nx W (wbs G (wcall G k) (wcp G k).2 m))
  | [], m, h => by cases h; exact m_ifs0
  | [a], m, h => by
    obtain ⟨b, h1, rfl⟩ := Option.map_eq_some_iff.mp h
    exact m_ifs1 (Z.b X sc hot W a b Y h1)
  | _ :: _ :: _, m, h => by cases h
omit Z in
theorem dbg_of {x : Str} (h : notSpecial x = true) : (x == ("__debug__" : Str)) = false := by
  unfold notSpecial at h
  simp only [Bool.and_eq_true, Bool.not_eq_true'] at h
  exact h.1
omit Z in
theorem free_of (Y : XE X g N G ca xa k sc hot W) {x : Str} (h : frees.contains x = true) : X.mg x = none := Y.tok.free x h
/-- a call by a name -/
theorem Snd.call (Y : XE X g N G ca xa k sc hot W) {x : Str} {p pos : Pos} {args : List Expr} {m : E} (h : cExpr g N c hot sc (.Call (.Name x p) args [] pos) = some m) : PE X (.Call (.Name x p) args [] pos) (tE X.K ca xa G.nx W (we G (wcall G k) (wcp G k).2 m)) := by
  have h : (if glB sc x && notSpecial x then
      (if x == ("isinstance" : Str) then cIsi c hot sc args else if hot then none else (match g.fn.lookup x with
        | some f => (cEs (c.e hot sc) args).map (.call f)
        | none => (match g.cl.lookup x with
          | some k => (cEs (c.e hot sc) args).map (.make k)
          | none => if args.isEmpty then none else (biN.lookup x).bind fun b => (cEs (c.e hot sc) args).map (.blt b))))
    else none) = some m := h
  split at h
  · rename_i hc
    rw [Bool.and_eq_true] at hc
    have gl := Y.gl x hc.1
    have hd := dbg_of hc.2
    split at h
    · rename_i hx
      have ex : x = ("isinstance" : Str) := beq_iff_eq.mp hx
      unfold cIsi at h
      split at h
      · split at h
        · rename_i ht
          obtain ⟨ty, h1, h2⟩ := Option.bind_eq_some_iff.mp h
          obtain ⟨ma, h3, rfl⟩ := Option.map_eq_some_iff.mp h2
          obtain ⟨f1, f2, f3, f4⟩ := tyNs_ok _ (lookup_mem h1)
          exact m_isi ex gl (Y.tok.free x (by rw [ex]; decide +kernel)) (Y.gl _ ht) (Y.tok.free _ f2) f1 f3 f4 (Z.pl _ _ _ _ h3) (Z.e X sc hot W _ ma Y h3)
        · cases h
      · cases h
    · split at h
      · cases h
      · rename_i hh
        have cr := Y.calm (by simpa using hh)
        split at h
        · rename_i f ef
          obtain ⟨mes, h1, rfl⟩ := Option.map_eq_some_iff.mp h
          obtain ⟨a, fd, ps, f1, f2, f3, f4⟩ := Y.tok.fn x f ef
          exact m_call f4 cr.2 f3 Y.tk gl f1 f2 hd (Z.esp h1) (ces_nil h1) (Z.es Y h1)
        · split at h
          · rename_i kc ek
            obtain ⟨mes, h1, rfl⟩ := Option.map_eq_some_iff.mp h
            obtain ⟨f, cs, hG, hm, a, fd, ps, M, hb, F⟩ := Y.tok.mkr x kc ek
            cases hk : k with
            | zero =>
              have es := Z.es Y h1
              rw [hk] at es
              exact m_make0 hG gl hm M.kp hd (Z.esp h1) (ces_nil h1) es
            | succ j =>
              have es := Z.es Y h1
              rw [hk] at es
              exact m_make (k := j + 1) rfl hG M (F j hk) (by rw [← hk]; exact cr.2) hb Y.tk gl hm hd (Z.esp h1) (ces_nil h1) es
          · split at h
            · cases h
            · rename_i hne
              obtain ⟨b, h1, h2⟩ := Option.bind_eq_some_iff.mp h
              obtain ⟨mes, h3, rfl⟩ := Option.map_eq_some_iff.mp h2
              obtain ⟨f1, f2, f3, f4⟩ := biN_ok _ (lookup_mem h1)
              match args, hne, h3 with
              | [], hne, h3 => exact (hne rfl).elim
              | a :: es, hne, h3 => exact m_blt cr.1 gl (Y.tok.free _ f2) f1 f3 f4 (Z.esp h3) (Z.es Y h3)
  · cases h
theorem Snd.meth (Y : XE X g N G ca xa k sc hot W) {o : Expr} {x : Str} {p pos : Pos} {args : List Expr} {m : E} (h : cExpr g N c hot sc (.Call (.Attribute o x p) args [] pos) = some m) : PE X (.Call (.Attribute o x p) args [] pos) (tE X.K ca xa G.nx W (we G (wcall G k) (wcp G k).2 m)) := by
  have h : (if recvOk o && (p.endLine == pos.line) && decide (args.length < 29) then
      (if g.um.contains x then (if hot then none else (c.e hot sc o).bind fun y => (cEs (c.e hot sc) args).map (.meth x y))
      else (bmN.lookup x).bind fun b => (c.e hot sc o).bind fun y => (cEs (c.e hot sc) args).map (.bm b y))
    else none) = some m := h
  split at h
  · rename_i hc
    rw [Bool.and_eq_true, Bool.and_eq_true] at hc
    obtain ⟨⟨c1, c2⟩, c3⟩ := hc
    have c3 := of_decide_eq_true c3
    split at h
    · split at h
      · cases h
      · rename_i hh
        have cr := Y.calm (by simpa using hh)
        obtain ⟨mo, h1, h2⟩ := Option.bind_eq_some_iff.mp h
        obtain ⟨mes, h3, rfl⟩ := Option.map_eq_some_iff.mp h2
        exact m_meth Y.tok cr.2 Y.tk (Z.e X sc hot W o mo Y h1) c1 c2 (Z.esp h3) c3 (ces_nil h3) (Z.es Y h3)
    · obtain ⟨b, h0, h9⟩ := Option.bind_eq_some_iff.mp h
      obtain ⟨mo, h1, h2⟩ := Option.bind_eq_some_iff.mp h9
      obtain ⟨mes, h3, rfl⟩ := Option.map_eq_some_iff.mp h2
      exact m_bm Y.hu (bmN_ok _ (lookup_mem h0)) (Z.e X sc hot W o mo Y h1) c1 c2 (Z.esp h3) c3 (ces_nil h3) (Z.es Y h3)
  · cases h
theorem Snd.comp (Y : XE X g N G ca xa k sc hot W) {el tg iter : Expr} {ifs : List Expr} {scope : Scope} {pos : Pos} {m : E} (h : cExpr g N c hot sc (.ListComp el [⟨tg, iter, ifs, 0⟩] scope pos) = some m) :
    ∃ t it bs mel own, m = .lc t it bs (own.map (·.2)) mel ∧ (∀ i ∈ t.sl, i ∈ own.map (·.2)) ∧ hot = false ∧ BlkOk X.N X.env.scope scope own ∧ PI X tg iter (tI X.K ca xa G.nx W (wit G (wcall G k) (wcp G k).2 it)) ∧ plainE iter = true ∧
      (∀ (s : Shared) (H : Hp) (C : Addr) (cl : List (Str × Addr)) (fp : List Addr), PG (X.blk s H scope (compEnvC scope cl C X.env) fp) tg (tGt X.K ca xa G.nx W0 t.sl (wtg G (wcall G k) (wcp G k).2 t))) ∧
      (∀ (s : Shared) (H : Hp) (C : Addr) (cl : List (Str × Addr)) (fp : List Addr), PTs (X.blk s H scope (compEnvC scope cl C X.env) fp) ifs (tIfs X.K ca xa G.nx W0 (wbs G (wcall G k) (wcp G k).2 bs))) ∧
      (∀ (s : Shared) (H : Hp) (C : Addr) (cl : List (Str × Addr)) (fp : List Addr), PE (X.blk s H scope (compEnvC scope cl C X.env) fp) el (tE X.K ca xa G.nx W0 (we G (wcall G k) (wcp G k).2 mel))) := by
  have h : (if hot then none else if blkC N sc scope (ownOf N scope.names) then
      (c.t hot scope tg).bind fun t => (c.it hot sc tg iter).bind fun it => (cIfs (c.b hot scope) ifs).bind fun bs => (c.e hot scope el).bind fun m => if (t.sl.all fun i => ((ownOf N scope.names).map (·.2)).contains i) then some (.lc t it bs ((ownOf N scope.names).map (·.2)) m) else none
    else none) = some m := h
  split at h
  · cases h
  · rename_i hh
    have hh : hot = false := by simpa using hh
    subst hh
    split at h
    · rename_i hb
      obtain ⟨t, h1, h⟩ := Option.bind_eq_some_iff.mp h
      obtain ⟨it, h2, h⟩ := Option.bind_eq_some_iff.mp h
      obtain ⟨bs, h3, h⟩ := Option.bind_eq_some_iff.mp h
      obtain ⟨mel, h4, h⟩ := Option.bind_eq_some_iff.mp h
      split at h
      · rename_i hs
        cases h
        have ok : BlkOk X.N X.env.scope scope (ownOf N scope.names) := by
          rw [Y.eN]
          exact blk_of Y.cap (blkOk_by hb)
        obtain ⟨i1, i2⟩ := Z.it X sc false W tg iter it Y h2
        refine ⟨t, it, bs, mel, _, rfl, fun i hi => ?_, rfl, ok, i1, i2, fun s H C cl fp => (Z.t _ _ _ _ tg t (Y.blk scope s H C cl fp) h1).1, fun s H C cl fp => Z.ifs (Y.blk scope s H C cl fp) h3, fun s H C cl fp => Z.e _ _ _ _ el mel (Y.blk scope s H C cl fp) h4⟩
        have := List.all_eq_true.mp hs i hi
        simpa using this
      · cases h
    · cases h
theorem Snd.expr (Y : XE X g N G ca xa k sc hot W) {e : Expr} {m : E} (h : cExpr g N c hot sc e = some m) : PE X e (tE X.K ca xa G.nx W (we G (wcall G k) (wcp G k).2 m)) := by
  unfold cExpr at h
  split at h
  · -- a name
    split at h
    · rename_i hc
      rw [Bool.and_eq_true] at hc
      obtain ⟨i, h1, rfl⟩ := Option.map_eq_some_iff.mp h
      exact m_var (by rw [Y.eN]; exact ixOf_get h1) (Y.vis _ hc.1) hc.2
    · split at h
      · rename_i hc
        rw [Bool.and_eq_true] at hc
        obtain ⟨v, h1, rfl⟩ := Option.map_eq_some_iff.mp h
        obtain ⟨u, V, f1, f2, f3⟩ := Y.tok.ct _ _ h1
        exact m_con (pe_glob (Y.gl _ hc.1) f1 f2 (dbg_of hc.2)) f3
      · cases h
  · -- a constant
    split at h
    · cases h; exact m_con pe_non fun _ _ => .non
    · cases h; exact m_con pe_bl fun _ _ => .bl _
    · cases h; exact m_con pe_int fun _ _ => .int _
    · cases h; exact m_con pe_str fun _ _ => .str _
    · cases h
  · obtain ⟨o, h1, h⟩ := Option.bind_eq_some_iff.mp h
    obtain ⟨x, h2, h⟩ := Option.bind_eq_some_iff.mp h
    obtain ⟨y, h3, h⟩ := Option.bind_eq_some_iff.mp h
    cases h
    have e := opB_of h1
    subst e
    exact m_bin (op := o) (Z.e X sc hot W _ x Y h2) (Z.e X sc hot W _ y Y h3)
  · obtain ⟨x, h2, rfl⟩ := Option.map_eq_some_iff.mp h
    exact m_neg (Z.e X sc hot W _ x Y h2)
  · obtain ⟨x, h2, rfl⟩ := Option.map_eq_some_iff.mp h
    exact m_notv (Z.e X sc hot W _ x Y h2)
  · exact Z.andV Y h
  · exact Z.orV Y h
  · obtain ⟨o, h1, h⟩ := Option.bind_eq_some_iff.mp h
    obtain ⟨x, h2, h⟩ := Option.bind_eq_some_iff.mp h
    obtain ⟨y, h3, h⟩ := Option.bind_eq_some_iff.mp h
    cases h
    exact m_ite (Z.b X sc hot W _ o Y h1) (Z.e X sc hot W _ x Y h2) (Z.e X sc hot W _ y Y h3)
  · rename_i o _ ps
    obtain ⟨x, h2, h⟩ := Option.bind_eq_some_iff.mp h
    obtain ⟨y, h3, h⟩ := Option.bind_eq_some_iff.mp h
    cases h
    have := m_cmp (pos := ps) (op := coOf o) Y.hu (Z.e X sc hot W _ x Y h2) (Z.e X sc hot W _ y Y h3) (Z.pl _ _ _ _ h3)
    rw [opC_of o] at this
    exact this
  · obtain ⟨mes, h2, rfl⟩ := Option.map_eq_some_iff.mp h
    exact m_tup (Z.es Y h2)
  · obtain ⟨mes, h2, rfl⟩ := Option.map_eq_some_iff.mp h
    exact m_lst (Z.es Y h2)
  · cases h
    cases g.tk.contains _ with
    | true => exact m_dnewT
    | false => exact m_dnewK
  · obtain ⟨x, h2, h⟩ := Option.bind_eq_some_iff.mp h
    obtain ⟨l, h3, h⟩ := Option.bind_eq_some_iff.mp h
    obtain ⟨u, h4, h⟩ := Option.bind_eq_some_iff.mp h
    cases h
    exact m_sl (Z.e X sc hot W _ x Y h2) (Z.o Y h3) (Z.o Y h4)
  · obtain ⟨x, h2, h⟩ := Option.bind_eq_some_iff.mp h
    obtain ⟨y, h3, h⟩ := Option.bind_eq_some_iff.mp h
    cases h
    exact m_item Y.hu (Z.e X sc hot W _ x Y h2) (Z.e X sc hot W _ y Y h3) (Z.pl _ _ _ _ h3)
  · split at h
    · rename_i hr
      obtain ⟨x, h2, rfl⟩ := Option.map_eq_some_iff.mp h
      exact m_fld (fun c => Y.tok.na c _) (Z.e X sc hot W _ x Y h2) hr
    · cases h
  · exact Z.call Y h
  · exact Z.meth Y h
  · rename_i ps
    obtain ⟨t, it, bs, mel, own, rfl, hsl, hh, ok, i1, i2, p1, p2, p3⟩ := Z.comp (pos := ps) Y h
    subst hh
    have cr := Y.calm rfl
    refine PE.imp (pe_lc cr.1 (by rw [Y.eN]; exact Y.nd) i1 ok p1 p2 p3 (plain_fold i2)) fun σ H Q q => lc_read hsl q
  · cases h
theorem Snd.test (Y : XE X g N G ca xa k sc hot W) {e : Expr} {m : B} (h : cTest c hot sc e = some m) : PT X e (tT X.K ca xa G.nx W (wt G (wcall G k) (wcp G k).2 m)) := by
  unfold cTest at h
  split at h
  · obtain ⟨x, h2, rfl⟩ := Option.map_eq_some_iff.mp h
    exact m_not (Z.b X sc hot W _ x Y h2)
  · exact (Z.andT Y h).pt
  · exact (Z.orT Y h).pt
  · cases h
  · rename_i o _ ps
    obtain ⟨x, h2, h⟩ := Option.bind_eq_some_iff.mp h
    obtain ⟨y, h3, h⟩ := Option.bind_eq_some_iff.mp h
    cases h
    have := m_cmpT (pos := ps) (op := coOf o) Y.hu (Z.e X sc hot W _ x Y h2) (Z.e X sc hot W _ y Y h3) (Z.pl _ _ _ _ h3)
    rw [opC_of o] at this
    exact this
  · cases h
  · rename_i q1 q2 q3 q4 q5 q6
    obtain ⟨x, h2, rfl⟩ := Option.map_eq_some_iff.mp h
    refine m_truth (Z.e X sc hot W _ x Y h2) fun whole => ?_
    cases e with
    | UnaryOp op a p =>
      cases op with
      | Not => exact (q1 _ _ rfl).elim
      | _ => rfl
    | BoolOp op vs p =>
      cases op with
      | And => exact (q2 _ _ rfl).elim
      | Or => exact (q3 _ _ rfl).elim
    | IfExp t b o p => exact (q4 _ _ _ _ rfl).elim
    | Compare l os cs p => exact (q6 _ _ _ _ rfl).elim
    | _ => rfl
theorem Snd.iter (Y : XE X g N G ca xa k sc hot W) {tg e : Expr} {m : Mn.It} (h : cIter c hot sc tg e = some m) : PI X tg e (tI X.K ca xa G.nx W (wit G (wcall G k) (wcp G k).2 m)) ∧ plainE e = true := by
  unfold cIter at h
  split at h
  · rename_i x p args q
    split at h
    · rename_i hc
      rw [Bool.and_eq_true] at hc
      have ex : x = ("range" : Str) := beq_iff_eq.mp hc.2
      subst ex
      have gl := Y.gl _ hc.1
      have fr := Y.tok.free "range" (by decide +kernel)
      split at h
      · obtain ⟨u, h2, rfl⟩ := Option.map_eq_some_iff.mp h
        exact ⟨m_itrng1 gl fr (Z.pl _ _ _ _ h2) (Z.e X sc hot W _ u Y h2), rfl⟩
      · obtain ⟨u, h2, h⟩ := Option.bind_eq_some_iff.mp h
        obtain ⟨v, h3, h⟩ := Option.bind_eq_some_iff.mp h
        cases h
        exact ⟨m_itrng2 gl fr (Z.pl _ _ _ _ h2) (Z.pl _ _ _ _ h3) (Z.e X sc hot W _ u Y h2) (Z.e X sc hot W _ v Y h3), rfl⟩
      · cases h
    · split at h
      · rename_i hc
        rw [Bool.and_eq_true] at hc
        have ex : x = ("enumerate" : Str) := beq_iff_eq.mp hc.2
        subst ex
        split at h
        · split at h
          · rename_i ht
            obtain ⟨u, h2, rfl⟩ := Option.map_eq_some_iff.mp h
            cases tg <;> first
              | exact ⟨m_itenum (Y.gl _ hc.1) (Y.tok.free "enumerate" (by decide +kernel)) (Z.pl _ _ _ _ h2) (Z.e X sc hot W _ u Y h2), rfl⟩
              | cases ht
          · cases h
        · cases h
      · obtain ⟨u, h2, rfl⟩ := Option.map_eq_some_iff.mp h
        exact ⟨m_itval (Z.e X sc hot W _ u Y h2), rfl⟩
  · obtain ⟨u, h2, rfl⟩ := Option.map_eq_some_iff.mp h
    exact ⟨m_itval (Z.e X sc hot W _ u Y h2), Z.pl _ _ _ _ h2⟩
theorem Snd.target (Y : XE X g N G ca xa k sc hot W) {e : Expr} {m : T} (h : cTarget N c hot sc e = some m) : PG X e (tGt X.K ca xa G.nx W m.sl (wtg G (wcall G k) (wcp G k).2 m)) ∧ plainE e = true := by
  unfold cTarget at h
  split at h
  · split at h
    · rename_i hc
      obtain ⟨i, h1, rfl⟩ := Option.map_eq_some_iff.mp h
      obtain ⟨l1, l2⟩ := Y.loc _ hc
      exact ⟨m_tnm (by rw [Y.eN]; exact Y.nd) (by rw [Y.eN]; exact ixOf_get h1) l1 l2, rfl⟩
    · cases h
  · split at h
    · cases h
    · rename_i hh
      have cr := Y.calm (by simpa using hh)
      obtain ⟨ts, h1, rfl⟩ := Option.map_eq_some_iff.mp h
      obtain ⟨q1, q2, q3⟩ := Z.ts Y h1
      exact ⟨m_ttup cr.1 q2 q3 q1, rfl⟩
  · obtain ⟨x, h2, h⟩ := Option.bind_eq_some_iff.mp h
    obtain ⟨y, h3, h⟩ := Option.bind_eq_some_iff.mp h
    cases h
    exact ⟨m_tsub Y.hu (Z.pl _ _ _ _ h3) (Z.e X sc hot W _ x Y h2) (Z.e X sc hot W _ y Y h3), rfl⟩
  · cases h
end
/-- THE THEOREM about expressions -/
theorem snd : ∀ n : Nat, Snd g N G ca xa k (cp g N n)
  | 0 => {
      pl := fun _ _ _ m h => nomatch (show (none : Option E) = some m from h)
      e := fun _ _ _ _ _ m _ h => nomatch (show (none : Option E) = some m from h)
      b := fun _ _ _ _ _ m _ h => nomatch (show (none : Option B) = some m from h)
      it := fun _ _ _ _ _ _ m _ h => nomatch (show (none : Option Mn.It) = some m from h)
      t := fun _ _ _ _ _ m _ h => nomatch (show (none : Option T) = some m from h) }
  | n + 1 => ⟨fun _ _ _ _ h => cexpr_plain h, fun X sc hot W e m Y h => (snd n).expr Y h, fun X sc hot W e m Y h => (snd n).test Y h, fun X sc hot W tg e m Y h => (snd n).iter Y h, fun X sc hot W e m Y h => (snd n).target Y h⟩
end
end Mn

/-! Mn9: statements: the translation, and the theorem about them. -/
namespace Mn
open PySem PySem.Spec PyProof.Rows L2
def notComp : Expr → Bool
  | .ListComp .. => false | .SetComp .. => false | .DictComp .. => false | _ => true
def isTupE : Expr → Bool
  | .Tuple .. => true | _ => false
def cBlk (f : Stmt → Option S) : List Stmt → Option Ss
  | [] => some .nil
  | s :: r => (f s).bind fun a => (cBlk f r).bind fun b => some (.cons a b)
def lcLine : Expr → Nat
  | .ListComp _ _ _ p => p.line
  | _ => 0
def lcScope : Expr → Scope
  | .ListComp _ _ s _ => s
  | _ => { kind := .function, names := [], isGenerator := false, isCoroutine := false }
def isLc : Expr → Bool
  | .ListComp _ [⟨_, _, _, 0⟩] _ _ => true
  | _ => false
def cSt (g : Gm) (N : List Str) (c : Cp) (bl : Bool → Scope → List Stmt → Option Ss) (hot : Bool) (sc : Scope) : Stmt → Option S
  | .Expr (.Constant (.str _) _ _) _ => some .pass
  | .Expr e _ => if notComp e then (c.e hot sc e).map .exp else none
  | .Return (some e) _ => (c.e hot sc e).map .ret
  | .Return none _ => some .retN
  | .Assign [.Name x py] e _ => if locB sc x then (if notComp e then (ixOf N x).bind fun i => (c.e hot sc e).map fun m => .asg (.nm i) m
      else if isLc e && decide (sc.names.lookup x = some .local) && (py.line == lcLine e) && !((lcScope e).names.any fun (n, k) => n == x && (k == .local || k == .cell)) then
        (ixOf N x).bind fun i => (c.e hot sc e).map fun m => .asg (.nm i) m else none) else none
  | .Assign [.Attribute o f _] e _ => if notComp e then (c.e hot sc e).bind fun m => (c.e hot sc o).map fun x => .asg (.fld x f) m else none
  | .Assign [.Tuple ts kk tp] e _ => if notComp e && !(isTupE e) then (c.t hot sc (.Tuple ts kk tp)).bind fun t => (c.e hot sc e).map fun m => .asg t m else none
  | .Assign [.Subscript o i p] e _ => if notComp e then (c.t hot sc (.Subscript o i p)).bind fun t => (c.e hot sc e).map fun m => .asg t m else none
  | .If t a b _ => (c.b hot sc t).bind fun t => (bl hot sc a).bind fun a => (bl hot sc b).bind fun b => some (.ite t a b)
  | .While t b [] _ => if hot then none else (c.b hot sc t).bind fun t => (bl hot sc b).bind fun b => some (.whl t b)
  | .For tg it b [] _ => if hot then none else (c.t hot sc tg).bind fun t => (c.it hot sc tg it).bind fun i => (bl hot sc b).bind fun b => some (.fr t i b)
  | .Break _ => some .brk
  | .Continue _ => some .cnt
  | .Pass _ => some .pass
  | .Raise (some (.Call (.Name x _) [.Constant (.str _) _ _] [] _)) none _ => if hot then none else if glB sc x && notSpecial x then (g.xc.lookup x).map .raise else none
  | .Try b [.ExceptHandler (some (.Name x _)) none (b0 :: su) _] [] [] _ => if hot then none else if glB sc x && notSpecial x then
      (g.xc.lookup x).bind fun i => (bl false sc b).bind fun mb => (bl true sc (b0 :: su)).bind fun ms => some (.trye mb i ms) else none
  | _ => none
def cs (g : Gm) (N : List Str) (c : Cp) : Nat → Bool → Scope → Stmt → Option S
  | 0 => fun _ _ _ => none
  | n + 1 => cSt g N c (fun hot sc => cBlk (cs g N c n hot sc))

/-! ### readings -/
section
variable (K : PySem.W.Frag) (ca xa : Nat → Addr) (nX : Nat)
structure EdL (ms : List Addr) (H : Hp) (Dm : Ed) (D : Ends) (W : WX) : Prop where
  nx : ∀ env' h' ms' H' σ', Xt ms H ms' H' → RS K ca ms' H' h' → RE H' ms' env' σ' → Dm.nx env' h' → D.nx σ' H'
  rt : LfR K ca RV ms H Dm.rt D.rt
  bk : ∀ env' h' ms' H' σ', Xt ms H ms' H' → RS K ca ms' H' h' → RE H' ms' env' σ' → Dm.bk env' h' → D.bk σ' H'
  ct : ∀ env' h' ms' H' σ', Xt ms H ms' H' → RS K ca ms' H' h' → RE H' ms' env' σ' → Dm.ct env' h' → D.ct σ' H'
  ex : ∀ x env' h' ms' H' σ' d, Xt ms H ms' H' → RS K ca ms' H' h' → RE H' ms' env' σ' → x.c < nX → RX H' ms' x d → Dm.ex x env' h' → W (.ref (xa x.c)) d σ' H'
def tS (W : WX) (m : Ev → MH → Ed → Prop) : TS := fun D σ H => ∃ ms h env Dm, RS K ca ms H h ∧ RE H ms env σ ∧ m env h Dm ∧ EdL K ca xa nX ms H Dm D W
end
section
variable {K : PySem.W.Frag} {ca xa : Nat → Addr} {nX : Nat} {ms ms1 : List Addr} {H H1 : Hp} {Dm : Ed} {D : Ends} {W : WX} {env : Ev} {σ : St}
theorem EdL.step (l : EdL K ca xa nX ms H Dm D W) (x : Xt ms H ms1 H1) : EdL K ca xa nX ms1 H1 Dm D W :=
  ⟨fun e h m H s x' => l.nx e h m H s (x.trans x'), l.rt.step x, fun e h m H s x' => l.bk e h m H s (x.trans x'), fun e h m H s x' => l.ct e h m H s (x.trans x'), fun z e h m H s d x' => l.ex z e h m H s d (x.trans x')⟩
theorem EdL.lx (l : EdL K ca xa nX ms H Dm D W) (re : RE H ms env σ) : LfX K ca xa nX ms H (fun x h1 => Dm.ex x env h1) (WE W σ) := fun x h' ms' H' d x' rs c r w => l.ex x env h' ms' H' σ d x' rs (re.mono x') c r w
end
theorem PS.imp {X : Cx} {s : Stmt} {t t' : TS} (p : PS X s t) (h : ∀ D σ H, t' D σ H → t D σ H) : PS X s t' := ⟨fun pins s σ H D I q => p.run pins s σ H D I (h _ _ _ q)⟩
theorem PSs.imp {X : Cx} {s : List Stmt} {t t' : TS} (p : PSs X s t) (h : ∀ D σ H, t' D σ H → t D σ H) : PSs X s t' := ⟨fun pins s σ H D I q => p.run pins s σ H D I (h _ _ _ q)⟩
structure XS (X : Cx) (g : Gm) (N : List Str) (G : Tab) (ca xa : Nat → Addr) (k : Nat) (sc : Scope) (hot : Bool) (W : WX) : Prop where
  x : XE X g N G ca xa k sc hot W
  po : PassesOwn (model X.prog X.w) X.A X.env X.xe
  stk : hot = false → X.stack = X.env :: X.outer ∧ X.env.frame = some X.env.locals
  lcl : ∀ x, sc.names.lookup x = some .local → X.env.scope.names.lookup x = some .local
  kind : X.env.scope.kind = .function
section
variable {X : Cx} {W : WX} {G : Tab} {C Cm : CW} {ca xa : Nat → Addr} {nx : Nat} {a b e o : Expr} {st : Stmt} {sts : List Stmt} {ma mb : E} {pos : Pos} {mc : B} {t u : Expr} {mt : T} {ba bb : List Stmt} {sa sb : Ss} {s0 : S}
theorem q_nil : PSs X [] (tS X.K ca xa nx W (wss G C Cm .nil)) := PSs.imp pss_nil fun D σ H ⟨ms, h, env, Dm, rs, re, w, l⟩ => l.nx _ _ _ _ _ (Xt.refl _ _) rs re (by unfold wss at w; exact w)
theorem q_cons (h1 : PS X st (tS X.K ca xa nx W (ws G C Cm s0))) (h2 : PSs X sts (tS X.K ca xa nx W (wss G C Cm sa))) : PSs X (st :: sts) (tS X.K ca xa nx W (wss G C Cm (.cons s0 sa))) := by
  refine PSs.imp (pss_cons h1 h2) fun D σ H ⟨ms, h, env, Dm, rs, re, w, l⟩ => ?_
  unfold wss at w
  exact ⟨ms, h, env, _, rs, re, w, ⟨fun e' h' ms' H' σ' x' rs' re' w' => ⟨ms', h', e', Dm, rs', re', w', l.step x'⟩, l.rt, l.bk, l.ct, l.ex⟩⟩
theorem comp_drop (h : notComp e = true) {n : Nat} {env : Env} : swapsWith e none n env = pure false := by cases e <;> first | rfl | cases h
theorem comp_swap (h : notComp e = true) {z : Option Expr} {n : Nat} {env : Env} : swapsWith e z n env = pure false := by cases e <;> first | rfl | cases h
theorem sole_of (h : notComp e = true) {n : Nat} {env : Env} : swapsWithSole [t] e n env = pure false := by cases e <;> first | rfl | cases h
theorem swp_ok {ts : List Expr} {kk tp} {env : Env} (h : isTupE e = false) : swappedStores [.Tuple ts kk tp] e env = pure none := by cases e <;> first | rfl | cases h
theorem q_exp (hn : notComp e = true) (ha : PE X e (tE X.K ca xa nx W (we G C Cm ma))) : PS X (.Expr e pos) (tS X.K ca xa nx W (ws G C Cm (.exp ma))) := by
  refine PS.imp (ps_expr ha (comp_drop hn)) fun D σ H ⟨ms, h, env, Dm, rs, re, w, l⟩ => ?_
  unfold ws at w
  refine tR.go rs re w (l.lx re) fun x h1 ms1 H1 V1 x1 rs1 re1 rx lx1 w1 => l.nx _ _ _ _ _ x1 rs1 re1 w1
theorem q_ret (ha : PE X e (tE X.K ca xa nx W (we G C Cm ma))) : PS X (.Return (some e) pos) (tS X.K ca xa nx W (ws G C Cm (.ret ma))) := by
  refine PS.imp (ps_ret ha) fun D σ H ⟨ms, h, env, Dm, rs, re, w, l⟩ => ?_
  unfold ws at w
  refine tR.go rs re w (l.lx re) fun x h1 ms1 H1 V1 x1 rs1 re1 rx lx1 w1 => l.rt _ _ _ _ _ x1 rs1 rx w1
theorem q_retN : PS X (.Return none pos) (tS X.K ca xa nx W (ws G C Cm .retN)) := by
  refine PS.imp ps_retN fun D σ H ⟨ms, h, env, Dm, rs, re, w, l⟩ => ?_
  unfold ws at w
  exact l.rt _ _ _ _ _ (Xt.refl _ _) rs .non w
theorem q_pass {st : Stmt} (p : PS X st tNext) : PS X st (tS X.K ca xa nx W (ws G C Cm .pass)) := by
  refine PS.imp p fun D σ H ⟨ms, h, env, Dm, rs, re, w, l⟩ => ?_
  unfold ws at w
  exact l.nx _ _ _ _ _ (Xt.refl _ _) rs re w
theorem q_brk : PS X (.Break pos) (tS X.K ca xa nx W (ws G C Cm .brk)) := by
  refine PS.imp ps_break fun D σ H ⟨ms, h, env, Dm, rs, re, w, l⟩ => ?_
  unfold ws at w
  exact l.bk _ _ _ _ _ (Xt.refl _ _) rs re w
theorem q_cnt : PS X (.Continue pos) (tS X.K ca xa nx W (ws G C Cm .cnt)) := by
  refine PS.imp ps_continue fun D σ H ⟨ms, h, env, Dm, rs, re, w, l⟩ => ?_
  unfold ws at w
  exact l.ct _ _ _ _ _ (Xt.refl _ _) rs re w
theorem nm_read {i : Nat} {D : Ends} {σ : St} {H : Hp} (q : tS X.K ca xa nx W (ws G C Cm (.asg (.nm i) ma)) D σ H) : tAsg (tE X.K ca xa nx W (we G C Cm ma)) (gName i) D σ H := by
  obtain ⟨ms, h, env, Dm, rs, re, w, l⟩ := q
  unfold ws at w
  refine tR.go rs re w (l.lx re) fun x h1 ms1 H1 V1 x1 rs1 re1 rx lx1 w1 => ?_
  unfold wtg at w1
  exact l.nx _ _ _ _ _ x1 rs1 (re1.set i rx) w1
theorem q_set {i : Nat} {x : Str} {py : Pos} (hN : X.N.Nodup) (hi : X.N[i]? = some x) (hx : Loc X.env.scope x) (hf : X.fn x = true ∨ X.env.scope.names.lookup x = some .local) (hn : notComp e = true) (ha : PE X e (tE X.K ca xa nx W (we G C Cm ma))) :
    PS X (.Assign [.Name x py] e pos) (tS X.K ca xa nx W (ws G C Cm (.asg (.nm i) ma))) := PS.imp (ps_set hN hi hx ha (comp_swap hn) hf) fun D σ H q => nm_read q
theorem q_asg (hp : swapsWithSole [t] e pos.line X.env = pure false) (hw : swappedStores [t] e X.env = pure none) (hpl : plainE t = true) (ha : PE X e (tE X.K ca xa nx W (we G C Cm ma))) {sl : List Nat} (ht : PG X t (tGt X.K ca xa nx W sl (wtg G C Cm mt))) :
    PS X (.Assign [t] e pos) (tS X.K ca xa nx W (ws G C Cm (.asg mt ma))) := by
  refine PS.imp (ps_asg ha ht hp hw (by rw [asg_cons hpl]; rfl)) fun D σ H ⟨ms, h, env, Dm, rs, re, w, l⟩ => ?_
  unfold ws at w
  refine tR.go rs re w (l.lx re) fun x h1 ms1 H1 V1 x1 rs1 re1 rx lx1 w1 => ?_
  exact ⟨ms1, h1, env, x, _, _, rs1, re1, rx, w1, fun e' h' ms' H' σ' _ x' rs' re' w' => l.nx _ _ _ _ _ (x1.trans x') rs' re' w', lx1⟩
theorem q_fld {f : Str} {p2 : Pos} (T : ∀ c, G.na c f = true → NoAttr X.K (ca c) f ∧ Cls X.K (ca c)) (hn : notComp e = true) (ha : PE X e (tE X.K ca xa nx W (we G C Cm ma))) (ho : PE X o (tE X.K ca xa nx W (we G C Cm mb))) :
    PS X (.Assign [.Attribute o f p2] e pos) (tS X.K ca xa nx W (ws G C Cm (.asg (.fld mb f) ma))) := by
  refine PS.imp (ps_fld ho ha (comp_swap hn)) fun D σ H ⟨ms, h, env, Dm, rs, re, w, l⟩ => ?_
  unfold ws at w
  refine tR.go rs re w (l.lx re) fun v h1 ms1 H1 V1 x1 rs1 re1 rv lx1 w1 => ?_
  unfold wtg at w1
  refine tR.go rs1 re1 w1 lx1 fun x h2 ms2 H2 V2 x2 rs2 re2 rx lx2 w2 => ?_
  cases x with
  | loc q =>
    have w2 : (match h2[q]? with
      | some (.ins c fs) => (G.na c f = true ∧ fs.length < 1000) ∧ Dm.nx env (h2.set q (.ins c (fputM fs f v)))
      | _ => False) := w2
    split at w2
    · rename_i c fs el
      obtain ⟨p, rfl, ep, dx, wsz, ew, rk⟩ := rs2.at el rx
      obtain ⟨⟨n1, n2⟩, w2⟩ := w2
      obtain ⟨t1, t2⟩ := T c n1
      have x3 : Xt ms2 H2 ms2 (upd H2 p (.ins (ca c) dx (putF f V1 wsz))) := xt_put ew (fun _ z => nomatch z)
      refine ⟨p, ca c, dx, wsz, rfl, ew, t2, t1, by rw [← rk.len]; exact n2, ?_⟩
      exact l.nx _ _ _ _ _ ((x1.trans x2).trans x3) (rs2.put (o' := .ins c (fputM fs f v)) el (fun _ z => nomatch z) ep ew (fun _ z => nomatch z) ⟨dx, _, upd_same, (rk.fput f (rv.mono x2)).mono x3⟩) (re2.mono x3) w2
    · exact w2.elim
  | _ => exact (show False from w2).elim
theorem q_if (hc : PT X t (tT X.K ca xa nx W (wt G C Cm mc))) (h1 : PSs X ba (tS X.K ca xa nx W (wss G C Cm sa))) (h2 : PSs X bb (tS X.K ca xa nx W (wss G C Cm sb))) : PS X (.If t ba bb pos) (tS X.K ca xa nx W (ws G C Cm (.ite mc sa sb))) := by
  refine PS.imp (ps_if hc h1 h2) fun D σ H ⟨ms, h, env, Dm, rs, re, w, l⟩ => ?_
  unfold ws at w
  refine tR.go rs re w (l.lx re) fun x h1 ms1 H1 V1 x1 rs1 re1 rx lx1 w1 => ?_
  have rx : x = V1 := rx
  subst rx
  cases x with
  | true => exact ⟨ms1, h1, env, Dm, rs1, re1, w1, l.step x1⟩
  | false => exact ⟨ms1, h1, env, Dm, rs1, re1, w1, l.step x1⟩
theorem q_whl (po : PassesOwn (model X.prog X.w) X.A X.env X.xe) (hc : PT X t (tT X.K ca xa nx W (wt G C Cm mc))) (h1 : PSs X ba (tS X.K ca xa nx W (wss G C Cm sa))) : PS X (.While t ba [] pos) (tS X.K ca xa nx W (ws G C Cm (.whl mc sa))) := by
  refine PS.imp (ps_while po hc h1) fun D σ H ⟨ms, h, env, Dm, rs, re, w, l⟩ => ?_
  unfold ws at w
  obtain ⟨I, ⟨m0, i0⟩, turn⟩ := w
  refine ⟨fun m σ1 H1 => ∃ ms1 h1 env1, Xt ms H ms1 H1 ∧ RS X.K ca ms1 H1 h1 ∧ RE H1 ms1 env1 σ1 ∧ I m env1 h1, ⟨m0, ms, h, env, Xt.refl _ _, rs, re, i0⟩, ?_⟩
  rintro m σ1 H1 ⟨ms1, h1, env1, x1, rs1, re1, w1⟩
  refine tR.go rs1 re1 (turn m env1 h1 w1) ((l.step x1).lx re1) fun x h2 ms2 H2 V2 x2 rs2 re2 rx lx2 w2 => ?_
  have rx : x = V2 := rx
  subst rx
  cases x with
  | true =>
    refine ⟨fun σ' H' => ∃ m', m' < m ∧ ∃ ms1 h1 env1, Xt ms H ms1 H' ∧ RS X.K ca ms1 H' h1 ∧ RE H' ms1 env1 σ' ∧ I m' env1 h1, fun σ' H' z => z, ms2, h2, env1, _, rs2, re2, w2, ?_⟩
    have lp := (l.step x1).step x2
    have fin : ∀ env' h' ms' H' σ', Xt ms2 H2 ms' H' → RS X.K ca ms' H' h' → RE H' ms' env' σ' → (∃ m', m' < m ∧ I m' env' h') → ∃ m', m' < m ∧ ∃ ms1 h1 env1, Xt ms H ms1 H' ∧ RS X.K ca ms1 H' h1 ∧ RE H' ms1 env1 σ' ∧ I m' env1 h1 :=
      fun env' h' ms' H' σ' x' rs' re' ⟨m', hm, i'⟩ => ⟨m', hm, ms', h', env', (x1.trans x2).trans x', rs', re', i'⟩
    exact ⟨fin, lp.rt, lp.nx, fin, lp.ex⟩
  | false => exact l.nx _ _ _ _ _ (x1.trans x2) rs2 re2 w2
theorem q_for {mi : Mn.It} {sl : List Nat} (po : PassesOwn (model X.prog X.w) X.A X.env X.xe) (hcm : X.calm = true) (hi : PI X t u (tI X.K ca xa nx W (wit G C Cm mi))) (hpl : plainE u = true) (ht : PG X t (tGt X.K ca xa nx W sl (wtg G C Cm mt)))
    (h1 : PSs X ba (tS X.K ca xa nx W (wss G C Cm sa))) : PS X (.For t u ba [] pos) (tS X.K ca xa nx W (ws G C Cm (.fr mt mi sa))) := by
  refine PS.imp (ps_for po hcm hi ht h1 (plain_fold hpl)) fun D σ H ⟨ms, h, env, Dm, rs, re, w, l⟩ => ?_
  unfold ws at w
  refine tR.go rs re w (l.lx re) fun n h0 ms0 H0 J x0 rs0 re0 rj lx0 w0 => ?_
  obtain ⟨I, ⟨m0, i0⟩, turn⟩ := w0
  refine ⟨fun i m σ1 H1 => ∃ ms1 h1 env1, Xt ms0 H0 ms1 H1 ∧ RS X.K ca ms1 H1 h1 ∧ RE H1 ms1 env1 σ1 ∧ I i m env1 h1, ⟨m0, ms0, h0, env, Xt.refl _ _, rs0, re0, i0⟩, ?_⟩
  rintro i m σ1 H1 ⟨ms1, h1, env1, x1, rs1, re1, w1⟩
  have w2 := turn i m env1 h1 w1
  split at w2
  · exact w2.elim
  · rename_i e
    exact .inl ⟨rj.stop ms1 H1 h1 i x1 rs1 e, l.nx _ _ _ _ _ (x0.trans x1) rs1 re1 w2⟩
  · rename_i v e
    obtain ⟨go, yl⟩ := rj.go ms1 H1 h1 i v x1 rs1 e
    refine .inr ⟨go, fun σ' H' => ∃ m', m' < m ∧ ∃ ms1 h1 env1, Xt ms0 H0 ms1 H' ∧ RS X.K ca ms1 H' h1 ∧ RE H' ms1 env1 σ' ∧ I (i + 1) m' env1 h1, fun σ' H' z => z, fun x H' y => ?_⟩
    obtain ⟨x4, rs4, rv4⟩ := yl x H' y
    have x14 := x1.trans x4
    have re4 := re1.mono x4
    have l4 := (l.step x0).step x14
    refine ⟨ms1, h1, env1, v, _, _, rs4, re4, rv4, w2, fun env5 h5 ms5 H5 σ5 _ x5 rs5 re5 w5 => ?_, l4.lx re4⟩
    have fin : ∀ env' h' ms' H' σ', Xt ms5 H5 ms' H' → RS X.K ca ms' H' h' → RE H' ms' env' σ' → (∃ m', m' < m ∧ I (i + 1) m' env' h') → ∃ m', m' < m ∧ ∃ ms1 h1 env1, Xt ms0 H0 ms1 H' ∧ RS X.K ca ms1 H' h1 ∧ RE H' ms1 env1 σ' ∧ I (i + 1) m' env1 h1 :=
      fun env' h' ms' H' σ' x' rs' re' ⟨m', hm, i'⟩ => ⟨m', hm, ms', h', env', (x14.trans x5).trans x', rs', re', i'⟩
    have l5 := l4.step x5
    exact ⟨ms5, h5, env5, _, rs5, re5, w5, ⟨fin, l5.rt, l5.nx, fin, l5.ex⟩⟩
theorem q_raise {g : Gm} {P : Program} {w0 : World} {c : Nat} {x m : Str} {j : Nat} {p p2 p3 : Pos} (hc : X.calm = true) (tk : Takes X W) (hg : Gl X x) (hd : (x == ("__debug__" : Str)) = false)
    (T : c < nx ∧ X.mg x = some (.ref (xa c)) ∧ PySem.W.excIn X.K (xa c) He.veBase "ValueError.__new__" = true ∧ PySem.W.keepIn X.K (.ref (xa c)) = true ∧ PySem.W.subIn X.K (.ref (xa c)) (.type "BaseException") = some true ∧ PySem.W.typeIn X.K (.ref (xa c)) = some (.type "type")) :
    PS X (.Raise (some (.Call (.Name x p) [.Constant (.str m) j p2] [] p3)) none pos) (tS X.K ca xa nx W (ws G C Cm (.raise c))) := by
  obtain ⟨t0, t1, t2, t3, t4, t5⟩ := T
  refine PS.imp (ps_raise hc tk (pmk_own PySem.F.excBase_ValueError t2 t1 t3 (raises_own t4 t5) hg hd)) fun D σ H ⟨ms, h, env, Dm, rs, re, w, l⟩ => ?_
  unfold ws at w
  exact l.ex ⟨c, []⟩ _ _ _ _ _ none (Xt.refl _ _) rs re t0 (.inl ⟨rfl, rfl⟩) w
/-- try .. except X: suite -/
theorem q_try {c : Nat} {x : Str} {np p2 : Pos} {b0 : Stmt} (hs : X.stack = X.env :: X.outer) (hf : X.env.frame = some X.env.locals) (hx : Names X x (.ref (xa c))) (tk : Takes X W) (hc : c < G.nx)
    (T : ∀ c d, c < G.nx → d < G.nx → PySem.W.exmOne X.K (.ref (xa c)) (.ref (xa d)) = some (G.sub c d))
    (hb : ∀ (W' : WX) (pn : List (Addr × Obj)) (xe : Value → Shared → Prop), Takes (X.tr pn xe) W' → PassesOwn (model X.prog X.w) X.A X.env xe → PSs (X.tr pn xe) ba (tS X.K ca xa G.nx W' (wss G C Cm sa)))
    (hsu : ∀ (a : Addr) (oe : Obj) (cls : Value) (d : Option Addr) (pn : List (Addr × Obj)), Zc cls d oe → (∃ vs, oe.data = .fields vs) → PSs (X.suite a ((a, oe) :: pn)) (b0 :: bb) (tS X.K ca xa G.nx W0 (wss G C Cm sb))) :
    PS X (.Try ba [.ExceptHandler (some (.Name x np)) none (b0 :: bb) p2] [] [] pos) (tS X.K ca xa G.nx W (ws G C Cm (.trye sa c sb))) := by
  refine PS.imp (ps_try_only (tb := fun W' => tS X.K ca xa G.nx W' (wss G C Cm sa)) (ts := fun _ _ _ => tS X.K ca xa G.nx W0 (wss G C Cm sb)) hs hf hx tk hb hsu) fun D σ H ⟨ms, h, env, Dm, rs, re, w, l⟩ => ?_
  unfold ws at w
  refine ⟨ms, h, env, _, rs, re, w, l.nx, l.rt, l.bk, l.ct, fun z env' h' ms' H' σ' d x' rs' re' hz rx w' => ?_⟩
  refine ⟨G.sub z.c c, T _ _ hz hc, fun e a na => ?_, fun e => ?_⟩
  · have w' : (if G.sub z.c c = true then wss G C Cm sb env' h' { Dm with ex := fun _ _ _ => False } else Dm.ex z env' h') := w'
    rw [if_pos e] at w'
    exact ⟨ms', h', env', _, rs', re', w', (l.step x').nx, (l.step x').rt, (l.step x').bk, (l.step x').ct, fun _ _ _ _ _ _ _ _ _ _ _ _ w => w.elim⟩
  · have w' : (if G.sub z.c c = true then wss G C Cm sb env' h' { Dm with ex := fun _ _ _ => False } else Dm.ex z env' h') := w'
    rw [if_neg (by rw [e]; exact Bool.false_ne_true)] at w'
    exact l.ex z env' h' ms' H' σ' d x' rs' re' hz rx w'
end
/-! ### the theorem -/
section
variable {g : Gm} {N : List Str} {G : Tab} {ca xa : Nat → Addr} {k : Nat}
theorem XS.tr {X : Cx} {sc : Scope} {hot : Bool} {W W' : WX} (Y : XS X g N G ca xa k sc hot W) {pn : List (Addr × Obj)} {xe : Value → Shared → Prop} (tk : Takes (X.tr pn xe) W') (po : PassesOwn (model X.prog X.w) X.A X.env xe) : XS (X.tr pn xe) g N G ca xa k sc hot W' :=
  ⟨⟨Y.x.eN, Y.x.nd, Y.x.vis, Y.x.loc, Y.x.cap, Y.x.gl, Y.x.hu, Y.x.calm, tk, Y.x.tok⟩, po, Y.stk, Y.lcl, Y.kind⟩
theorem XS.suite {X : Cx} {sc : Scope} {hot : Bool} {W : WX} (Y : XS X g N G ca xa k sc hot W) (a : Addr) (pn : List (Addr × Obj)) : XS (X.suite a pn) g N G ca xa k sc true W0 :=
  ⟨⟨Y.x.eN, Y.x.nd, Y.x.vis, Y.x.loc, Y.x.cap, Y.x.gl, Y.x.hu, (fun h => Bool.noConfusion h), takes0, Y.x.tok⟩, PassesOwn.never, (fun h => Bool.noConfusion h), Y.lcl, Y.kind⟩
abbrev StOk (g : Gm) (N : List Str) (G : Tab) (ca xa : Nat → Addr) (k : Nat) (f : Bool → Scope → Stmt → Option S) : Prop :=
  ∀ X sc hot W s m, XS X g N G ca xa k sc hot W → f hot sc s = some m → PS X s (tS X.K ca xa G.nx W (ws G (wcall G k) (wcp G k).2 m))
theorem blk_ok {f : Bool → Scope → Stmt → Option S} (F : StOk g N G ca xa k f) {X : Cx} {sc : Scope} {hot : Bool} {W : WX} (Y : XS X g N G ca xa k sc hot W) : ∀ {sts : List Stmt} {m : Ss}, cBlk (f hot sc) sts = some m → PSs X sts (tS X.K ca xa G.nx W (wss G (wcall G k) (wcp G k).2 m))
  | [], m, h => by cases h; exact q_nil
  | s :: r, m, h => by
    unfold cBlk at h
    obtain ⟨a, h1, h2⟩ := Option.bind_eq_some_iff.mp h
    obtain ⟨b, h3, h4⟩ := Option.bind_eq_some_iff.mp h2
    cases h4
    exact q_cons (F X sc hot W s a Y h1) (blk_ok F Y h3)
theorem st_ok {f : Bool → Scope → Stmt → Option S} {c : Cp} (F : StOk g N G ca xa k f) (Z : Snd g N G ca xa k c) (hc : ∀ hot sc el tg iter ifs scope pos m, c.e hot sc (.ListComp el [⟨tg, iter, ifs, 0⟩] scope pos) = some m → ∃ c', Snd g N G ca xa k c' ∧ cExpr g N c' hot sc (.ListComp el [⟨tg, iter, ifs, 0⟩] scope pos) = some m) : StOk g N G ca xa k (cSt g N c (fun hot sc => cBlk (f hot sc))) := by
  intro X sc hot W s m Y h
  have E := Y.x
  unfold cSt at h
  split at h
  · cases h; exact q_pass ps_doc
  · split at h
    · rename_i hn
      obtain ⟨a, h1, rfl⟩ := Option.map_eq_some_iff.mp h
      exact q_exp hn (Z.e X sc hot W _ a E h1)
    · cases h
  · obtain ⟨a, h1, rfl⟩ := Option.map_eq_some_iff.mp h
    exact q_ret (Z.e X sc hot W _ a E h1)
  · cases h; exact q_retN
  · -- x = e
    split at h
    · rename_i hl
      obtain ⟨l1, l2⟩ := E.loc _ hl
      split at h
      · rename_i hn
        obtain ⟨i, h1, h⟩ := Option.bind_eq_some_iff.mp h
        obtain ⟨a, h2, rfl⟩ := Option.map_eq_some_iff.mp h
        exact q_set (by rw [E.eN]; exact E.nd) (by rw [E.eN]; exact ixOf_get h1) l1 l2 hn (Z.e X sc hot W _ a E h2)
      · split at h
        · rename_i x py e ps _ hcond
          rw [Bool.and_eq_true, Bool.and_eq_true, Bool.and_eq_true] at hcond
          obtain ⟨⟨⟨c1, c2⟩, c3⟩, c4⟩ := hcond
          obtain ⟨i, h1, h⟩ := Option.bind_eq_some_iff.mp h
          obtain ⟨a, h2, rfl⟩ := Option.map_eq_some_iff.mp h
          unfold isLc at c1
          split at c1
          · rename_i el tg iter ifs scope lp _ _
            obtain ⟨c', Z', h3⟩ := hc _ _ _ _ _ _ _ _ _ h2
            obtain ⟨t, it, bs, mel, own, rfl, hsl, hh, ok, i1, i2, p1, p2, p3⟩ := Z'.comp (pos := lp) E h3
            subst hh
            have cr := E.calm rfl
            have c2 := Y.lcl _ (of_decide_eq_true c2)
            have c4 : (scope.names.any fun (n, k) => n == x && (k == .local || k == .cell)) = false := by
              have c4 : (!(scope.names.any fun (n, k) => n == x && (k == .local || k == .cell))) = true := c4
              simpa using c4
            refine PS.imp (ps_setLc (i := i) cr.1 (by rw [E.eN]; exact E.nd) (by rw [E.eN]; exact ixOf_get h1) c2 (sw_true Y.kind c2 c3 c4) i1 ok p1 p2 p3 (plain_fold i2)) fun D σ H q => ?_
            have q1 := nm_read q
            exact lc_read hsl q1
          · cases c1
        · cases h
    · cases h
  · split at h
    · rename_i hn
      obtain ⟨a, h1, h⟩ := Option.bind_eq_some_iff.mp h
      obtain ⟨b, h2, rfl⟩ := Option.map_eq_some_iff.mp h
      exact q_fld (fun c => E.tok.na c _) hn (Z.e X sc hot W _ a E h1) (Z.e X sc hot W _ b E h2)
    · cases h
  · split at h
    · rename_i hn
      rw [Bool.and_eq_true] at hn
      obtain ⟨t, h1, h⟩ := Option.bind_eq_some_iff.mp h
      obtain ⟨a, h2, rfl⟩ := Option.map_eq_some_iff.mp h
      obtain ⟨g1, g2⟩ := Z.t X sc hot W _ t E h1
      refine q_asg (sole_of hn.1) ?_ g2 (Z.e X sc hot W _ a E h2) g1
      exact swp_ok (by simpa using hn.2)
    · cases h
  · split at h
    · rename_i hn
      obtain ⟨t, h1, h⟩ := Option.bind_eq_some_iff.mp h
      obtain ⟨a, h2, rfl⟩ := Option.map_eq_some_iff.mp h
      obtain ⟨g1, g2⟩ := Z.t X sc hot W _ t E h1
      exact q_asg (sole_of hn) rfl g2 (Z.e X sc hot W _ a E h2) g1
    · cases h
  · obtain ⟨t, h1, h⟩ := Option.bind_eq_some_iff.mp h
    obtain ⟨a, h2, h⟩ := Option.bind_eq_some_iff.mp h
    obtain ⟨b, h3, h⟩ := Option.bind_eq_some_iff.mp h
    cases h
    exact q_if (Z.b X sc hot W _ t E h1) (blk_ok F Y h2) (blk_ok F Y h3)
  · split at h
    · cases h
    · obtain ⟨t, h1, h⟩ := Option.bind_eq_some_iff.mp h
      obtain ⟨a, h2, h⟩ := Option.bind_eq_some_iff.mp h
      cases h
      exact q_whl Y.po (Z.b X sc hot W _ t E h1) (blk_ok F Y h2)
  · split at h
    · cases h
    · rename_i hh
      have cr := E.calm (by simpa using hh)
      obtain ⟨t, h1, h⟩ := Option.bind_eq_some_iff.mp h
      obtain ⟨i, h2, h⟩ := Option.bind_eq_some_iff.mp h
      obtain ⟨a, h3, h⟩ := Option.bind_eq_some_iff.mp h
      cases h
      obtain ⟨g1, g2⟩ := Z.it X sc hot W _ _ i E h2
      exact q_for Y.po cr.1 g1 g2 (Z.t X sc hot W _ t E h1).1 (blk_ok F Y h3)
  · cases h; exact q_brk
  · cases h; exact q_cnt
  · cases h; exact q_pass ps_pass
  · split at h
    · cases h
    · rename_i hh
      have cr := E.calm (by simpa using hh)
      split at h
      · rename_i hg
        rw [Bool.and_eq_true] at hg
        obtain ⟨i, h1, rfl⟩ := Option.map_eq_some_iff.mp h
        exact q_raise (g := g) (P := X.prog) (w0 := X.w) cr.1 E.tk (E.gl _ hg.1) (dbg_of hg.2) (E.tok.xc _ _ h1)
      · cases h
  · split at h
    · cases h
    · rename_i hh
      have hh : hot = false := by simpa using hh
      subst hh
      split at h
      · rename_i hg
        rw [Bool.and_eq_true] at hg
        obtain ⟨i, h1, h⟩ := Option.bind_eq_some_iff.mp h
        obtain ⟨mb, h2, h⟩ := Option.bind_eq_some_iff.mp h
        obtain ⟨msu, h3, h⟩ := Option.bind_eq_some_iff.mp h
        cases h
        have T := E.tok.xc _ _ h1
        obtain ⟨s1, s2⟩ := Y.stk rfl
        exact q_try s1 s2 ⟨E.gl _ hg.1, dbg_of hg.2, .inl T.2.1⟩ E.tk T.1 E.tok.exm (fun W' pn xe tk po => blk_ok F (Y.tr tk po) h2) (fun a oe cls d pn _ _ => blk_ok F (Y.suite a _) h3)
      · cases h
  · cases h
end
end Mn

/-! Mn10: defs, the program's tables, the law's end. -/
namespace Mn
open PySem PySem.Spec PyProof.Rows L2
/-! ### all statements -/
section
variable {g : Gm} {N : List Str} {G : Tab} {ca xa : Nat → Addr} {k : Nat}
theorem cs_ok {n : Nat} : ∀ f : Nat, StOk g N G ca xa k (fun hot sc s => cs g N (cp g N (n + 1)) f hot sc s)
  | 0 => fun X sc hot W s m Y h => nomatch (show (none : Option S) = some m from h)
  | f + 1 => fun X sc hot W s m Y h => st_ok (f := fun hot sc s => cs g N (cp g N (n + 1)) f hot sc s) (c := cp g N (n + 1)) (cs_ok f) (snd (n + 1)) (fun _ _ _ _ _ _ _ _ _ h => ⟨cp g N n, snd n, h⟩) X sc hot W s m Y h
end
/-! ### a def -/
structure Fi where
  d : He.DefD
  N : List Str
  n : Nat
def Fi.ps (f : Fi) : List Str := f.N.take f.n
def cFi (g : Gm) (z : Nat) (f : Fi) : Option Ss := cBlk (cs g f.N (cp g f.N (z + 1)) z false f.d.scope) f.d.body
structure FOk (g : Gm) (z : Nat) (f : Fi) (m : FnD) : Prop where
  sc : FnScope f.N f.ps f.d.scope
  np : m.np = f.n
  pl : f.ps.length = f.n
  ns : m.ns = f.N.length
  dfl : f.d.dfl = []
  kwd : f.d.kwd = []
  bn : ∀ (kV doc pm : Value) (an : Option Addr) (cdv ct : Value) (us : List Value), us.length = f.ps.length → bindArgs (PySem.W.fnOf f.d.name f.d.qual f.d.params f.d.body f.d.scope .none kV doc pm an cdv ct) ⟨us, []⟩ = pure (f.ps.zip us)
  bd : cFi g z f = some m.body
theorem RVs.toE {H : Hp} {ms : List Addr} {xs : List Val} {vs : List V} (r : RVs H ms xs vs) {N : List Str} {n : Nat} (hn : n = N.length) : RE H ms (xs.map some ++ List.replicate (n - xs.length) none) (L2.start N vs) := by
  subst hn
  refine ⟨by unfold L2.start; simp [r.length], fun i v e => ?_⟩
  unfold L2.start
  by_cases hi : i < xs.length
  · rw [List.getElem?_append_left (by simpa using hi), List.getElem?_map] at e
    obtain ⟨x, ex, e2⟩ := Option.map_eq_some_iff.mp e
    cases e2
    obtain ⟨u, eu, ru⟩ := r.get ex
    refine ⟨u, ?_, ru⟩
    rw [List.getElem?_append_left (by rw [List.length_map, ← r.length]; exact hi), List.getElem?_map, eu]
    rfl
  · rw [List.getElem?_append_right (by simpa using hi), List.getElem?_replicate] at e
    split at e <;> cases e
section
variable {P : Program} {wd : World} {K : PySem.W.Frag} {mg : Str → Option Value} {base : Heap} {g : Gm} {G : Tab} {ca xa : Nat → Addr} {k : Nat}
theorem fok_ok {z : Nat} {f : Fi} {m : FnD} {i : Nat} {fa : Addr} {fd : FuncData} (T : TOk P wd K mg base g G ca xa k) (o : FOk g z f m) (hi : G.fns[i]? = some m) (F : FunD K f.d.name f.d.qual f.d.params f.d.body f.d.scope [] [] fa fd) :
    FnOk P wd K mg base (L2.CX P wd) (k + 1) fa fd f.ps (spM K ca xa G (k + 1) i) := by
  refine F.ok o.sc (fun vs H Q E h => ?_) (fun cdv A outer s H vs Q E hr h => ?_)
  · obtain ⟨ms, h, xs, Qm, Wm, rs, rv, w, _, _⟩ := h
    unfold wcall wcp at w
    simp only [hi] at w
    rw [← rv.length, w.1, o.np, o.pl]
  · obtain ⟨ms, h, xs, Qm, Wm, rs, rv, w, hq, lx⟩ := h
    unfold wcall wcp at w
    simp only [hi] at w
    obtain ⟨w0, w⟩ := w
    have Y : XS (cxOf (L2.CX P wd) P wd K mg base f.N f.d.qual f.d.scope fa cdv A outer s H E) g f.N G ca xa k f.d.scope false (fun cls d _ H => E cls d H) := by
      refine ⟨⟨rfl, o.sc.nd, fun x hx => ?_, fun x hx => ⟨?_, .inl rfl⟩, fun x hx => hx, fun x hx => ?_, ?_, fun _ => ⟨rfl, hr⟩, takes_of rfl rfl rfl rfl, T⟩, passes_of rfl, fun _ => ⟨rfl, rfl⟩, fun x hx => hx, o.sc.kind⟩
      · show L2.Vis f.d.scope x
        unfold visB at hx
        unfold Vis
        split at hx
        · rename_i e; exact .inl e
        · rename_i e; exact .inr (.inl e)
        · rename_i e; exact .inr (.inr e)
        · cases hx
      · show L2.Loc f.d.scope x
        unfold locB at hx
        unfold L2.Loc
        split at hx
        · rename_i e; exact .inl e
        · rename_i e; exact .inr e
        · cases hx
      · show f.d.scope.names.lookup x = some .globalImplicit
        unfold glB at hx
        split at hx
        · rename_i e; exact e
        · cases hx
      · have := hr.un
        show (A.deeper _).units + 65 < cLine
        omega
    refine ⟨_, blk_ok (cs_ok (n := z) z) Y o.bd, ?_⟩
    refine ⟨ms, h, _, _, rs, rv.toE (N := f.N) o.ns, w, ⟨fun env' h' ms' H' σ' x rs' re' w' => hq .non h' ms' H' .non x rs' .non w', hq, fun _ _ _ _ _ _ _ _ w' => w'.elim, fun _ _ _ _ _ _ _ _ w' => w'.elim, fun x env' h' ms' H' σ' d x' rs' re' hc rx w' => lx x h' ms' H' d x' rs' hc rx w'⟩⟩
end
/-! ### a program's tables -/
structure Pg where
  g : Gm
  fs : List Fi
  cn : List Str
  xn : List Str
  G : Tab
  fl : List Str
def Pg.ca (p : Pg) (K : PySem.W.Frag) (c : Nat) : Addr := He.ga K (p.cn.getD c Str.empty)
def Pg.xa (p : Pg) (K : PySem.W.Frag) (c : Nat) : Addr := He.ga K (p.xn.getD c Str.empty)
def ctF : Str × Val → List He.Fa
  | (x, .int i) => [.int x i]
  | (x, .str z) => [.str x z]
  | _ => []
def ctB : Val → Bool
  | .int _ => true
  | .str _ => true
  | _ => false
def Pg.f0 (p : Pg) : List He.Fa := frees.map He.Fa.free
def Pg.f1 (p : Pg) : List He.Fa := p.g.fn.map fun q => He.Fa.glo q.1
def Pg.f2 (p : Pg) : List He.Fa := p.g.cl.flatMap fun q => [He.Fa.glo q.1, .mkr q.1]
def Pg.f3 (p : Pg) : List He.Fa := p.g.xc.flatMap fun q => [He.Fa.glo q.1, .exc q.1]
def Pg.f4 (p : Pg) : List He.Fa := p.g.ct.flatMap ctF
def Pg.f5 (p : Pg) : List He.Fa := p.cn.map He.Fa.cls
def Pg.f6 (p : Pg) : List He.Fa := p.cn.flatMap fun x => p.fl.map fun f => He.Fa.noat x f
def Pg.f7 (p : Pg) : List He.Fa := (p.cn.zip p.G.cls).flatMap (fun q => q.2.2.map fun r => He.Fa.meth q.1 r.1)
def Pg.f8 (p : Pg) : List He.Fa := (List.range p.xn.length).flatMap (fun i => (List.range p.xn.length).map fun j => He.Fa.exm (p.xn.getD i Str.empty) (p.xn.getD j Str.empty) (p.G.sub i j))
def Pg.fa (p : Pg) : List He.Fa := p.f0 ++ p.f1 ++ p.f2 ++ p.f3 ++ p.f4 ++ p.f5 ++ p.f6 ++ p.f7 ++ p.f8
theorem Pg.m0 {p : Pg} {a : He.Fa} (h : a ∈ p.f0) : a ∈ p.fa := by unfold Pg.fa; simp only [List.mem_append, h, true_or, or_true]
theorem Pg.m1 {p : Pg} {a : He.Fa} (h : a ∈ p.f1) : a ∈ p.fa := by unfold Pg.fa; simp only [List.mem_append, h, true_or, or_true]
theorem Pg.m2 {p : Pg} {a : He.Fa} (h : a ∈ p.f2) : a ∈ p.fa := by unfold Pg.fa; simp only [List.mem_append, h, true_or, or_true]
theorem Pg.m3 {p : Pg} {a : He.Fa} (h : a ∈ p.f3) : a ∈ p.fa := by unfold Pg.fa; simp only [List.mem_append, h, true_or, or_true]
theorem Pg.m4 {p : Pg} {a : He.Fa} (h : a ∈ p.f4) : a ∈ p.fa := by unfold Pg.fa; simp only [List.mem_append, h, true_or, or_true]
theorem Pg.m5 {p : Pg} {a : He.Fa} (h : a ∈ p.f5) : a ∈ p.fa := by unfold Pg.fa; simp only [List.mem_append, h, true_or, or_true]
theorem Pg.m6 {p : Pg} {a : He.Fa} (h : a ∈ p.f6) : a ∈ p.fa := by unfold Pg.fa; simp only [List.mem_append, h, true_or, or_true]
theorem Pg.m7 {p : Pg} {a : He.Fa} (h : a ∈ p.f7) : a ∈ p.fa := by unfold Pg.fa; simp only [List.mem_append, h, true_or, or_true]
theorem Pg.m8 {p : Pg} {a : He.Fa} (h : a ∈ p.f8) : a ∈ p.fa := by unfold Pg.fa; simp only [List.mem_append, h, true_or, or_true]
def Pg.at_ (p : Pg) (f : Nat) (z : Str × Option Str) : Bool := match p.fs[f]? with
  | some i => decide (i.d.at_ = z)
  | none => false
structure POk (p : Pg) (z : Nat) : Prop where
  len : p.fs.length = p.G.fns.length
  fok : ∀ (i : Nat) (f : Fi) (m : FnD), p.fs[i]? = some f → p.G.fns[i]? = some m → FOk p.g z f m
  fn : (p.g.fn.all fun q => p.at_ q.2 (q.1, none)) = true
  cl : (p.g.cl.all fun q => decide (p.cn[q.2]? = some q.1) && (match p.G.cls[q.2]? with
    | some (some f, _) => p.at_ f (q.1, some "__init__")
    | _ => false)) = true
  me : ((p.cn.zip p.G.cls).all fun q => q.2.2.all fun r => p.at_ r.2 (q.1, some r.1)) = true
  cll : p.cn.length = p.G.cls.length
  na : p.G.na = fun c f => decide (c < p.cn.length) && p.fl.contains f
  ct : (p.g.ct.all fun q => ctB q.2) = true
  xc : (p.g.xc.all fun q => decide (p.xn[q.2]? = some q.1)) = true
  xl : p.G.nx = p.xn.length
section
variable {P : Program} {w : World} {K : PySem.W.Frag} {mg : Str → Option Value} {base h0 : Heap} {p : Pg} {z : Nat}
theorem fa_of (c : He.SaysD p.fa (p.fs.map (·.d)) K) {f : He.Fa} (h : f ∈ p.fa) : f.ok K = true := by
  obtain ⟨i, hi⟩ := List.getElem?_of_mem h
  exact c.fact i hi
theorem fd_of (c : He.SaysD p.fa (p.fs.map (·.d)) K) (O : POk p z) {i : Nat} {f : Fi} (h : p.fs[i]? = some f) : ∃ fd m, p.G.fns[i]? = some m ∧ FOk p.g z f m ∧ FunD K f.d.name f.d.qual f.d.params f.d.body f.d.scope [] [] (He.fAd K f.d.at_) fd := by
  obtain ⟨fd, F⟩ := c.def_ i (d := f.d) (by rw [List.getElem?_map, h]; rfl)
  have hl : i < p.G.fns.length := by rw [← O.len]; exact (List.getElem?_eq_some_iff.mp h).1
  have hm := List.getElem?_eq_getElem hl
  have o := O.fok i f _ h hm
  refine ⟨fd, _, hm, o, ?_⟩
  have e1 : f.d.dvs K = [] := by unfold He.DefD.dvs; rw [o.dfl]; rfl
  have e2 : f.d.kws K = [] := by unfold He.DefD.kws; rw [o.kwd]; rfl
  rw [e1, e2] at F
  exact F
theorem at_of {f : Nat} {q : Str × Option Str} (h : p.at_ f q = true) : ∃ i, p.fs[f]? = some i ∧ i.d.at_ = q := by
  unfold Pg.at_ at h
  split at h
  · rename_i i e
    exact ⟨i, e, of_decide_eq_true h⟩
  · cases h
abbrev FnAll (P : Program) (w : World) (K : PySem.W.Frag) (mg : Str → Option Value) (base : Heap) (p : Pg) (k : Nat) : Prop :=
  ∀ (i : Nat) (f : Fi), p.fs[i]? = some f → ∃ fd, Binds K fd f.ps [] ∧ PySem.W.keepIn K (.ref (He.fAd K f.d.at_)) = true ∧ FnOk P w K mg base (L2.CX P w) k (He.fAd K f.d.at_) fd f.ps (spM K (p.ca K) (p.xa K) p.G k i)
theorem mem_bind {α β : Type} {l : List α} {f : α → List β} {a : α} {b : β} (h : a ∈ l) (hb : b ∈ f a) : b ∈ l.flatMap f := List.mem_flatMap.mpr ⟨a, h, hb⟩
theorem tok_of (cc : He.SaysD p.fa (p.fs.map (·.d)) K) (X : K.In h0) (S : h0.Ns mainGlobals mg) (O : POk p z) {k : Nat} (F : FnAll P w K mg base p k) (F1 : ∀ j, k = j + 1 → FnAll P w K mg base p j) : TOk P w K mg base p.g p.G (p.ca K) (p.xa K) k := by
  have ff : ∀ {f : He.Fa}, f ∈ p.fa → f.ok K = true := fun h => fa_of cc h
  have clsAt : ∀ c i ms, p.G.cls[c]? = some (i, ms) → ∃ x, p.cn[c]? = some x ∧ p.ca K c = He.ga K x ∧ (x, (i, ms)) ∈ p.cn.zip p.G.cls := fun c i ms e => by
    have hl : c < p.cn.length := by rw [O.cll]; exact (List.getElem?_eq_some_iff.mp e).1
    refine ⟨p.cn[c], List.getElem?_eq_getElem hl, ?_, ?_⟩
    · unfold Pg.ca
      rw [List.getD_eq_getElem?_getD, List.getElem?_eq_getElem hl]; rfl
    · refine List.mem_of_getElem? (i := c) ?_
      rw [List.getElem?_zip_eq_some]
      exact ⟨List.getElem?_eq_getElem hl, e⟩
  refine ⟨fun x f h => ?_, fun x c h => ?_, fun c i ms m m' f h1 h2 => ?_, fun c i ms h => ?_, fun c f h => ?_, fun x v h => ?_, fun x h => ?_, fun x c h => ?_, fun c d h1 h2 => ?_⟩
  · have hm := lookup_mem h
    obtain ⟨i, e1, e2⟩ := at_of (List.all_eq_true.mp O.fn _ hm)
    obtain ⟨fd, b, kp, q⟩ := F f i e1
    have e3 : He.fAd K i.d.at_ = He.ga K x := by rw [e2]; rfl
    rw [e3] at kp q
    exact ⟨_, fd, i.ps, He.glo_ok X S (ff (Pg.m1 (List.mem_map.mpr ⟨_, hm, rfl⟩))), kp, b, q⟩
  · have hm := lookup_mem h
    have h1 := List.all_eq_true.mp O.cl _ hm
    rw [Bool.and_eq_true] at h1
    obtain ⟨h1, h2⟩ := h1
    have h1 : p.cn[c]? = some x := of_decide_eq_true h1
    have h2 : (match p.G.cls[c]? with
      | some (some f, _) => p.at_ f (x, some "__init__")
      | _ => false) = true := h2
    split at h2
    · rename_i f ms e
      obtain ⟨i, e1, e2⟩ := at_of h2
      have ex : p.ca K c = He.ga K x := by unfold Pg.ca; rw [List.getD_eq_getElem?_getD, h1]; rfl
      have mm : ∀ {a : He.Fa}, a ∈ [He.Fa.glo x, He.Fa.mkr x] → a ∈ p.fa := fun ha => Pg.m2 (mem_bind hm ha)
      obtain ⟨fd0, m0, e0, o0, F0⟩ := fd_of cc O e1
      refine ⟨f, ms, e, by rw [ex]; exact He.glo_ok X S (ff (mm (by simp))), ?_⟩
      have e3 : He.fAd K i.d.at_ = He.ma K (He.ga K x) "__init__" := by rw [e2]; rfl
      have mk : Mk K (p.ca K c) (He.fAd K i.d.at_) := by rw [ex, e3]; exact He.mkr_ok (ff (mm (by simp)))
      cases k with
      | zero => exact ⟨_, fd0, i.ps, mk, F0.bindsN o0.bn, fun j hj => by cases hj⟩
      | succ j =>
        obtain ⟨fd, b, kp, q⟩ := F1 j rfl f i e1
        exact ⟨_, fd, i.ps, mk, b, fun j' hj => by cases hj; exact q⟩
    · cases h2
  · obtain ⟨x, h3, h4, h5⟩ := clsAt c i ms h1
    have h6 := List.all_eq_true.mp O.me _ h5
    have h7 := List.mem_of_find?_eq_some h2
    have h8 : m' = m := by simpa using List.find?_some h2
    subst h8
    obtain ⟨j, e1, e2⟩ := at_of (List.all_eq_true.mp h6 _ h7)
    obtain ⟨fd, b, kp, q⟩ := F f j e1
    have e3 : He.fAd K j.d.at_ = He.ma K (He.ga K x) m' := by rw [e2]; rfl
    rw [e3] at q
    refine ⟨_, fd, j.ps, by rw [h4]; exact He.meth_ok (ff (Pg.m7 (mem_bind h5 (List.mem_map.mpr ⟨_, h7, rfl⟩)))), b, q⟩
  · obtain ⟨x, h3, h4, h5⟩ := clsAt c i ms h
    rw [h4]
    exact He.cls_ok (ff (Pg.m5 (List.mem_map.mpr ⟨x, List.mem_of_getElem? h3, rfl⟩)))
  · rw [O.na] at h
    rw [Bool.and_eq_true] at h
    have hl : c < p.cn.length := of_decide_eq_true h.1
    have ex : p.ca K c = He.ga K p.cn[c] := by unfold Pg.ca; rw [List.getD_eq_getElem?_getD, List.getElem?_eq_getElem hl]; rfl
    rw [ex]
    exact ⟨He.noat_ok (ff (Pg.m6 (mem_bind (List.getElem_mem hl) (List.mem_map.mpr ⟨f, List.contains_iff_mem.mp h.2, rfl⟩)))), He.cls_ok (ff (Pg.m5 (List.mem_map.mpr ⟨_, List.getElem_mem hl, rfl⟩)))⟩
  · have hm := lookup_mem h
    have hb := List.all_eq_true.mp O.ct _ hm
    have mm : ∀ {a : He.Fa}, a ∈ ctF (x, v) → a ∈ p.fa := fun ha => Pg.m4 (mem_bind hm ha)
    cases v with
    | int i =>
      obtain ⟨t, e⟩ := He.int_ok X S (ff (mm (List.mem_singleton.mpr rfl)))
      exact ⟨_, .int i, e, ⟨t, rfl⟩, fun _ _ => .int i⟩
    | str i =>
      obtain ⟨t, e⟩ := He.str_ok X S (ff (mm (List.mem_singleton.mpr rfl)))
      exact ⟨_, .str i, e, ⟨t, rfl⟩, fun _ _ => .str i⟩
    | _ => cases hb
  · exact He.free_ok X S (ff (Pg.m0 (List.mem_map.mpr ⟨x, List.contains_iff_mem.mp h, rfl⟩)))
  · have hm := lookup_mem h
    have h1 : p.xn[c]? = some x := of_decide_eq_true (List.all_eq_true.mp O.xc _ hm)
    have ex : p.xa K c = He.ga K x := by unfold Pg.xa; rw [List.getD_eq_getElem?_getD, h1]; rfl
    have mm : ∀ {a : He.Fa}, a ∈ [He.Fa.glo x, He.Fa.exc x] → a ∈ p.fa := fun ha => Pg.m3 (mem_bind hm ha)
    obtain ⟨a1, a2, a3, a4⟩ := He.exc_ok (ff (mm (a := .exc x) (by simp)))
    rw [ex, O.xl]
    exact ⟨(List.getElem?_eq_some_iff.mp h1).1, He.glo_ok X S (ff (mm (by simp))), a1, a2, a3, a4⟩
  · rw [O.xl] at h1 h2
    refine He.exm_ok (x := p.xn.getD c Str.empty) (y := p.xn.getD d Str.empty) (ff (Pg.m8 (mem_bind (List.mem_range.mpr h1) (List.mem_map.mpr ⟨d, List.mem_range.mpr h2, rfl⟩))))
theorem fnall (c : He.SaysD p.fa (p.fs.map (·.d)) K) (X : K.In h0) (S : h0.Ns mainGlobals mg) (O : POk p z) : ∀ k : Nat, FnAll P w K mg base p k ∧ ∀ j, k = j + 1 → FnAll P w K mg base p j
  | 0 => ⟨fun i f h => by
      obtain ⟨fd, m, hm, o, F⟩ := fd_of c O h
      refine ⟨fd, F.bindsN o.bn, F.kp, ⟨fun vs H Q E q => ?_, fun A outer s H args us vs Q E _ _ _ _ q => ?_⟩⟩
      · obtain ⟨_, _, _, _, _, _, _, w, _⟩ := q
        exact (show False from w).elim
      · obtain ⟨_, _, _, _, _, _, _, w, _⟩ := q
        exact (show False from w).elim, fun j h => by cases h⟩
  | k + 1 => by
    obtain ⟨a, b⟩ := fnall c X S O k
    refine ⟨fun i f h => ?_, fun j h => by cases h; exact a⟩
    obtain ⟨fd, m, hm, o, F⟩ := fd_of c O h
    exact ⟨fd, F.bindsN o.bn, F.kp, fok_ok (tok_of c X S O a b) o hm F⟩
end
end Mn

/-! Mn11: the law's end: what is left of a row is a wish of the core language. -/
namespace Mn
open PySem PySem.Spec PyProof.Rows L2
theorem rvs_ints {H : Hp} {ms : List Addr} : ∀ ns : List Int, RVs H ms (ns.map Val.int) (ns.map V.int)
  | [] => .nil
  | n :: r => .cons (.int n) (rvs_ints r)
theorem walk_of {l : PySem.W.OpenLaw} {n k i : Nat} {q : Program} {loose : List Str} {XP : (Str → Option Value) → Heap → Prop} {YP : World → Heap → Prop} {d : DefRec} {p : Pg} {z : Nat} {f : Fi} {x : Str}
    (hn : l.most = some n) (hn2 : n ≤ sizeLine) (hdf : d.params.defaults = []) (hr : Room (k + 1) callerA)
    (hY : ∀ (w : World) (h : Heap), YP w h → ∃ K : PySem.W.Frag, K.In h ∧ He.SaysD p.fa (p.fs.map (·.d)) K)
    (O : POk p z) (hg : (d.name, i) ∈ p.g.fn) (hi : p.fs[i]? = some f) (hat : f.d.at_ = (d.name, none)) (hps : f.ps = [x])
    (law : ∀ ns : List Int, ns.length ≤ n → (∀ z ∈ ns, Builtin.Int.intBits z ≤ 1048576) → wcall p.G (k + 1) i [.loc 0] [.rol (ns.map Val.int)] (fun v _ => v = .bl true) (fun _ _ => False)) :
    PySem.W.WalkO q loose XP YP l.row.toRowW d [] (fun f vs => PySem.call f vs) := by
  refine Att.attach_callB hn hdf fun w s₀ s₁ mg mb fa o pm cd doc a vs ns G Y ho hd hcd hmg hobj hints hlen hbits hgen => ?_
  obtain ⟨K, KX, c⟩ := hY w _ Y
  obtain ⟨fd, m, hm, o, F⟩ := fd_of c O hi
  have e1 : He.fAd K f.d.at_ = He.ga K d.name := by rw [hat]; rfl
  have e2 := hmg.symm.trans (He.glo_ok KX G.T.g (fa_of c (Pg.m1 (List.mem_map.mpr ⟨_, hg, rfl⟩))))
  cases e2
  rw [e1] at F
  refine law_call (fd := fd) (CX := L2.CX l.prog w) (sp := spM K (p.ca K) (p.xa K) p.G (k + 1) i) (x := x) KX G.T.g G.T.b G.T.builtins G.T.nolimit hgen hobj hints (Nat.le_trans hlen hn2) hr (fun base _ _ => ?_) (fun s u => ?_) (fun H _ hS => ?_) fun H e s' h => ?_
  · rw [← hps]
    exact fok_ok (tok_of c KX G.T.g O (fnall c KX G.T.g O k).1 (fnall c KX G.T.g O k).2) o hm F
  · have b := FunD.bindsA F o.bn s [u] (by rw [hps]; rfl)
    rw [hps] at b
    exact b
  · refine ⟨[a], [.rol (ns.map Val.int)], [.loc 0], _, _, ⟨rfl, fun i j b h1 h2 => .inl ?_, fun i u e => ?_⟩, .cons (.loc rfl) .nil, law ns hlen hbits, fun v h' ms' H' V _ _ rv e => ?_, LfX.no⟩
    · cases i with
      | zero => cases j with
        | zero => rfl
        | succ j => simp at h2
      | succ i => simp at h1
    · cases i with
      | zero =>
        cases e
        exact ⟨a, rfl, _, hS, rvs_ints ns⟩
      | succ i => simp at e
    · subst e
      cases rv
      rfl
  · obtain ⟨_, _, _, _, _, _, _, _, _, _, _, _, hF⟩ := h
    exact hF
end Mn
namespace Mn
open PySem PySem.Spec PyProof.Rows L2
theorem foks_nil {g : Gm} {z : Nat} : ∀ (i : Nat) (f : Fi) (m : FnD), ([] : List Fi)[i]? = some f → ([] : List FnD)[i]? = some m → FOk g z f m := fun i f m h => by simp at h
theorem foks_cons {g : Gm} {z : Nat} {f0 : Fi} {fs : List Fi} {m0 : FnD} {ms : List FnD} (h : FOk g z f0 m0) (t : ∀ (i : Nat) (f : Fi) (m : FnD), fs[i]? = some f → ms[i]? = some m → FOk g z f m) :
    ∀ (i : Nat) (f : Fi) (m : FnD), (f0 :: fs)[i]? = some f → (m0 :: ms)[i]? = some m → FOk g z f m := fun i f m h1 h2 => by
  cases i with
  | zero => cases h1; cases h2; exact h
  | succ i => exact t i f m (by simpa using h1) (by simpa using h2)
end Mn

/-! Mn12: running the core language by hand: equations, entering a def, the heap. -/
namespace Mn
open PySem PySem.Spec PyProof.Rows L2
section
variable {i j : Int} {a b : Str} {xs ys : List Val} {h : MH} {Q : KV1} {P : Bool → Prop} {R : Val → Prop} {l : Nat} {x y : Val}
theorem x_addi : wbin .add (.int i) (.int j) h Q = Q (.int (i + j)) h := rfl
theorem x_adds : wbin .add (.str a) (.str b) h Q = (a.length + b.length ≤ sizeLine ∧ Q (.str (a ++ b)) h) := rfl
theorem x_addt : wbin .add (.tup xs) (.tup ys) h Q = (xs.length + ys.length ≤ sizeLine ∧ Q (.tup (xs ++ ys)) h) := rfl
theorem x_addl {l m : Nat} : wbin .add (.loc l) (.loc m) h Q = (match h[l]?, h[m]? with
    | some (.lst xs), some (.lst ys) => xs.length + ys.length ≤ sizeLine ∧ Q (.loc h.length) (h ++ [.lst (xs ++ ys)])
    | _, _ => False) := rfl
theorem x_sub : wbin .sub (.int i) (.int j) h Q = Q (.int (i - j)) h := rfl
theorem x_mul : wbin .mul (.int i) (.int j) h Q = ((CMul i j ∨ CMulW i j) ∧ Q (.int (i * j)) h) := rfl
theorem x_fdiv : wbin .fdiv (.int i) (.int j) h Q = (CDivN i j ∧ Q (.int (i.fdiv j)) h) := rfl
theorem x_mod : wbin .mod (.int i) (.int j) h Q = (j ≠ 0 ∧ Q (.int (i.fmod j)) h) := rfl
theorem x_shr : wbin .shr (.int i) (.int j) h Q = (0 ≤ j ∧ Q (.int (i / 2 ^ j.toNat)) h) := rfl
theorem x_shl : wbin .shl (.int i) (.int j) h Q = ((CPow i j ∨ CShl i j) ∧ Q (.int (i * 2 ^ j.toNat)) h) := rfl
theorem x_band : wbin .band (.int i) (.int j) h Q = Q (.int (Builtin.bitAnd i j)) h := rfl
theorem x_bor : wbin .bor (.int i) (.int j) h Q = Q (.int (Builtin.bitOr i j)) h := rfl
theorem x_eq : wcmp .eq x y h P = weq x y h P := by cases x <;> cases y <;> rfl
theorem x_ne : wcmp .ne x y h P = weq x y h fun b => P (!b) := by cases x <;> cases y <;> rfl
theorem x_lt : wcmp .lt (.int i) (.int j) h P = P (decide (i < j)) := rfl
theorem x_le : wcmp .le (.int i) (.int j) h P = P (decide (i ≤ j)) := rfl
theorem x_gt : wcmp .gt (.int i) (.int j) h P = P (decide (j < i)) := rfl
theorem x_ge : wcmp .ge (.int i) (.int j) h P = P (decide (j ≤ i)) := rfl
theorem x_in : wcmp .isin x y h P = win x y h P := by cases x <;> cases y <;> rfl
theorem x_notin : wcmp .notin x y h P = win x y h fun b => P (!b) := by cases x <;> cases y <;> rfl
theorem x_isN : wcmp .is .non .non h P = P true := rfl
theorem x_isi : wcmp .is (.int i) .non h P = P false := rfl
theorem x_isb {r : Bool} : wcmp .is (.bl r) .non h P = P false := rfl
theorem x_iss : wcmp .is (.str a) .non h P = P false := rfl
theorem x_ist : wcmp .is (.tup xs) .non h P = P false := rfl
theorem x_isl : wcmp .is (.loc l) .non h P = P false := rfl
theorem x_isnN : wcmp .isnot .non .non h P = P false := rfl
theorem x_isni : wcmp .isnot (.int i) .non h P = P true := rfl
theorem x_isnb {r : Bool} : wcmp .isnot (.bl r) .non h P = P true := rfl
theorem x_isns : wcmp .isnot (.str a) .non h P = P true := rfl
theorem x_isnt : wcmp .isnot (.tup xs) .non h P = P true := rfl
theorem x_isnl : wcmp .isnot (.loc l) .non h P = P true := rfl
theorem x_eqi : weq (.int i) (.int j) h P = P (decide (i = j)) := rfl
theorem x_eqs : weq (.str a) (.str b) h P = P (decide (a = b)) := rfl
theorem x_eqb {r s : Bool} : weq (.bl r) (.bl s) h P = P (decide (r = s)) := rfl
theorem x_eqn : weq .non .non h P = P true := rfl
theorem x_tn : wtru .non h P = P false := rfl
theorem x_tb {r : Bool} : wtru (.bl r) h P = P r := rfl
theorem x_ti : wtru (.int i) h P = P (i != 0) := rfl
theorem x_ts : wtru (.str a) h P = (a.length ≤ sizeLine ∧ P ((a.length : Int) != 0)) := rfl
theorem x_tt : wtru (.tup xs) h P = P (!xs.isEmpty) := rfl
theorem x_tl : wtru (.loc l) h P = (match h[l]? with
    | some (.lst xs) => P (!xs.isEmpty)
    | some (.rol xs) => P (!xs.isEmpty)
    | some (.dK kvs) => P (!kvs.isEmpty)
    | _ => False) := rfl
theorem x_itt : witem (.tup xs) y h R = wat xs y R := rfl
theorem x_itl : witem (.loc l) y h R = (match h[l]? with
    | some (.lst xs) => wat xs y R
    | some (.rol xs) => wat xs y R
    | some o => getM o y fun r => there r R
    | none => False) := rfl
theorem x_its : witem (.str a) y h R = wats a y R := rfl
theorem x_at : wat xs (.int i) R = (match atI xs i with
    | some v => R v
    | none => False) := rfl
theorem x_slt {lo hi : Option Int} : wslice (.tup xs) lo hi h Q = Q (.tup (cutM xs lo hi)) h := rfl
theorem x_sll {lo hi : Option Int} : wslice (.loc l) lo hi h Q = (match h[l]? with
    | some (.lst xs) => Q (.loc h.length) (h ++ [.lst (cutM xs lo hi)])
    | some (.rol xs) => Q (.loc h.length) (h ++ [.lst (cutM xs lo hi)])
    | _ => False) := rfl
theorem x_lent : wbi .len [.tup xs] h Q = Q (.int xs.length) h := rfl
theorem x_lens : wbi .len [.str a] h Q = (a.length ≤ sizeLine ∧ Q (.int a.length) h) := rfl
theorem x_lenl : wbi .len [.loc l] h Q = (match h[l]? with
    | some (.lst xs) => Q (.int xs.length) h
    | some (.rol xs) => Q (.int xs.length) h
    | some (.dK kvs) => Q (.int kvs.length) h
    | _ => False) := rfl
theorem x_int : wbi .int [.int i] h Q = Q (.int i) h := rfl
theorem x_intb {r : Bool} : wbi .int [.bl r] h Q = Q (.int (if r then 1 else 0)) h := rfl
theorem x_abs : wbi .abs [.int i] h Q = Q (.int (if i < 0 then -i else i)) h := rfl
theorem x_max2 : wbi .max [.int i, .int j] h Q = Q (.int (if j > i then j else i)) h := rfl
theorem x_min2 : wbi .min [.int i, .int j] h Q = Q (.int (if j < i then j else i)) h := rfl
theorem x_list : wbi .list [x] h Q = (match seqM x h with
    | some xs => Q (.loc h.length) (h ++ [.lst xs])
    | none => False) := rfl
theorem x_tuple : wbi .tuple [x] h Q = (match seqM x h with
    | some xs => Q (.tup xs) h
    | none => False) := rfl
theorem x_str : wbi .str [.int i] h Q = (i.natAbs.log2 < 1920 ∧ Q (.str (toString i)) h) := rfl
theorem x_seqt : seqM (.tup xs) h = some xs := rfl
theorem x_seql : seqM (.loc l) h = (match h[l]? with
    | some (.lst xs) => some xs
    | some (.rol xs) => some xs
    | _ => none) := rfl
theorem x_app : wbm .append (.loc l) [x] h Q = (match h[l]? with
    | some (.lst xs) => xs.length < sizeLine ∧ Q .non (h.set l (.lst (xs ++ [x])))
    | _ => False) := rfl
theorem x_pop : wbm .pop (.loc l) [] h Q = (match h[l]? with
    | some (.lst xs) => (match xs[xs.length - 1]? with
      | some v => Q v (h.set l (.lst xs.dropLast))
      | none => False)
    | _ => False) := rfl
theorem x_get : wbm .get (.loc l) [x, y] h Q = (match h[l]? with
    | some o => getM o x fun r => Q (r.getD y) h
    | none => False) := rfl
theorem x_kap : bmk .append (.loc l) h = (match h[l]? with
    | some (.lst _) => True
    | _ => False) := rfl
theorem x_kpop : bmk .pop (.loc l) h = (match h[l]? with
    | some (.lst _) => True
    | _ => False) := rfl
theorem x_kget : bmk .get (.loc l) h = (match h[l]? with
    | some (.dK _) => True
    | some (.dT _) => True
    | _ => False) := rfl
theorem x_isM_n {t : Ty} : isM .non h t P = P false := rfl
theorem x_isM_b {r : Bool} {t : Ty} : isM (.bl r) h t P = P (tBl t) := rfl
theorem x_isM_i {t : Ty} : isM (.int i) h t P = P (tIn t) := rfl
theorem x_isM_s {t : Ty} : isM (.str a) h t P = P (tSt t) := rfl
theorem x_isM_t {t : Ty} : isM (.tup xs) h t P = P (tTu t) := rfl
theorem x_isM_l {t : Ty} : isM (.loc l) h t P = (match h[l]? with
    | some (.lst _) => P (tLi t)
    | some (.rol _) => P (tLi t)
    | _ => False) := rfl
theorem x_set {v : Val} {U : MH → Prop} : wset (.loc l) x v h U = (match h[l]? with
    | some (.lst xs) => wputL xs x v fun ys => U (h.set l (.lst ys))
    | some (.dK kvs) => wputK kvs x v fun ys => U (h.set l (.dK ys))
    | some (.dT kvs) => wputT kvs x v fun ys => U (h.set l (.dT ys))
    | _ => False) := rfl
theorem x_putL {v : Val} {U : List Val → Prop} : wputL xs (.int i) v U = (match ixN xs.length i with
    | some j => U (xs.set j v)
    | none => False) := rfl
theorem x_fset {na : Nat → Str → Bool} {f : Str} {v : Val} {U : MH → Prop} : wfset na (.loc l) v f h U = (match h[l]? with
    | some (.ins c fs) => (na c f = true ∧ fs.length < 1000) ∧ U (h.set l (.ins c (fputM fs f v)))
    | _ => False) := rfl
theorem x_there {v : Val} : there (some v) R = R v := rfl
end
/-! ### the heap -/
theorem h_app {h : MH} {o : MO} {l : Nat} : (h ++ [o])[l]? = (h[l]?).or (if l = h.length then some o else none) := by
  rcases Nat.lt_trichotomy l h.length with c | c | c
  · rw [List.getElem?_append_left c, List.getElem?_eq_getElem c]; rfl
  · subst c
    rw [List.getElem?_concat_length, List.getElem?_eq_none (Nat.le_refl _)]; simp
  · rw [List.getElem?_eq_none (by simp; omega), List.getElem?_eq_none (by omega), if_neg (by omega)]; rfl
theorem h_set {h : MH} {o : MO} {l : Nat} : (h.set l o)[l]? = (h[l]?).map fun _ => o := by
  by_cases c : l < h.length
  · rw [List.getElem?_set_self c, List.getElem?_eq_getElem c]; rfl
  · rw [List.getElem?_eq_none (by simpa using c), List.getElem?_eq_none (by omega)]; rfl
theorem h_lt {h : MH} {l : Nat} {o : MO} (e : h[l]? = some o) : l < h.length := (List.getElem?_eq_some_iff.mp e).1
/-- what is not named in S is as it was -/
def Old (h h' : MH) (S : Nat → Prop) : Prop := h.length ≤ h'.length ∧ ∀ l o, ¬ S l → h[l]? = some o → h'[l]? = some o
theorem Old.refl (h : MH) (S : Nat → Prop) : Old h h S := ⟨Nat.le_refl _, fun _ _ _ e => e⟩
theorem Old.trans {h h1 h2 : MH} {S : Nat → Prop} (a : Old h h1 S) (b : Old h1 h2 S) : Old h h2 S := ⟨Nat.le_trans a.1 b.1, fun l o n e => b.2 l o n (a.2 l o n e)⟩
theorem Old.mono {h h1 : MH} {S S' : Nat → Prop} (a : Old h h1 S) (s : ∀ l, S l → S' l) : Old h h1 S' := ⟨a.1, fun l o n e => a.2 l o (fun z => n (s l z)) e⟩
theorem Old.set {h : MH} {S : Nat → Prop} {l : Nat} {o : MO} (s : S l) : Old h (h.set l o) S := ⟨by simp, fun m p n e => by rw [List.getElem?_set_ne (fun (z : l = m) => n (z ▸ s))]; exact e⟩
theorem Old.app {h : MH} {S : Nat → Prop} {o : MO} : Old h (h ++ [o]) S := ⟨by simp, fun m p n e => by rw [h_app, e]; rfl⟩
/-! ### calls -/
theorem enter {G : Tab} {n f np ns : Nat} {body : Ss} {args : List Val} {h : MH} {Q : KV1} {W : KX1} (hd : G.fns[f]? = some ⟨np, ns, body⟩) (hl : args.length = np)
    (w : wss G (wcall G n) (wcp G n).2 body (args.map some ++ List.replicate (ns - args.length) none) h { nx := fun _ h' => Q .non h', rt := Q, ex := fun x _ h' => W x h' }) : wcall G (n + 1) f args h Q W := by
  unfold wcall wcp
  simp only [hd]
  exact ⟨hl, w⟩
theorem cm_succ {G : Tab} {n : Nat} : (wcp G (n + 1)).2 = wcall G n := rfl
theorem ofStr_inj {a b : String} : (Str.ofString a = Str.ofString b) = (a = b) := by
  apply propext
  constructor
  · intro h
    rw [Str.ofString_eq_toList, Str.ofString_eq_toList] at h
    have h1 : (a.toList.map Char.toNat) = (b.toList.map Char.toNat) := by
      have := congrArg Str.cps h
      simpa using this
    have h2 : a.toList = b.toList := by
      refine List.map_inj_right (f := Char.toNat) (fun x y e => ?_) |>.mp h1
      exact Char.ext (UInt32.toNat_inj.mp e)
    exact String.toList_inj.mp h2
  · intro h; rw [h]
end Mn

/-! Mn13: running the core language by hand: equations of expressions and statements, loops, comprehensions. -/
namespace Mn
open PySem PySem.Spec PyProof.Rows L2
section
variable {G : Tab} {C Cm : CW} {env : Ev} {h : MH} {Q : KV1} {W : KX1} {a b o : E} {es : Es} {D : Ed} {P : Bool → MH → Prop} {ss : Ss} {s : S} {U : Ev → MH → Prop}
theorem e_var {i : Nat} : we G C Cm (.var i) env h Q W = (match env[i]? with
    | some (some v) => Q v h
    | _ => False) := by (simp only [we]) <;> rfl
theorem e_con {v : Val} : we G C Cm (.con v) env h Q W = Q v h := by (simp only [we]) <;> rfl
theorem e_bin {p : BO} : we G C Cm (.bin p a b) env h Q W = we G C Cm a env h (fun x h1 => we G C Cm b env h1 (fun y h2 => wbin p x y h2 Q) W) W := by (simp only [we]) <;> rfl
theorem e_cmp {p : CO} : we G C Cm (.cmp p a b) env h Q W = we G C Cm a env h (fun x h1 => we G C Cm b env h1 (fun y h2 => wcmp p x y h2 fun r => Q (.bl r) h2) W) W := by (simp only [we]) <;> rfl
theorem e_neg : we G C Cm (.neg a) env h Q W = we G C Cm a env h (fun x h1 => match x with
    | .int i => Q (.int (-i)) h1
    | _ => False) W := by (simp only [we]) <;> rfl
theorem e_notv : we G C Cm (.notv a) env h Q W = we G C Cm a env h (fun x h1 => wtru x h1 fun r => Q (.bl (!r)) h1) W := by (simp only [we]) <;> rfl
theorem e_andv : we G C Cm (.andv a b) env h Q W = we G C Cm a env h (fun x h1 => match x with
    | .bl r => if r = true then we G C Cm b env h1 Q W else Q (.bl false) h1
    | _ => False) W := by (simp only [we]) <;> rfl
theorem e_orv : we G C Cm (.orv a b) env h Q W = we G C Cm a env h (fun x h1 => match x with
    | .bl r => if r = true then Q (.bl true) h1 else we G C Cm b env h1 Q W
    | _ => False) W := by (simp only [we]) <;> rfl
theorem e_ite {c : B} : we G C Cm (.ite c a b) env h Q W = wt G C Cm c env h (fun r h1 => if r = true then we G C Cm a env h1 Q W else we G C Cm b env h1 Q W) W := by (simp only [we]) <;> rfl
theorem e_tup : we G C Cm (.tup es) env h Q W = wes G C Cm es env h (fun xs h1 => xs.length ≤ sizeLine ∧ Q (.tup xs) h1) W := by (simp only [we]) <;> rfl
theorem e_lst : we G C Cm (.lst es) env h Q W = wes G C Cm es env h (fun xs h1 => xs.length ≤ sizeLine ∧ Q (.loc h1.length) (h1 ++ [.lst xs])) W := by (simp only [we]) <;> rfl
theorem e_dnewT : we G C Cm (.dnew true) env h Q W = Q (.loc h.length) (h ++ [.dT []]) := by simp only [we]; rfl
theorem e_dnewK : we G C Cm (.dnew false) env h Q W = Q (.loc h.length) (h ++ [.dK []]) := by simp only [we]; rfl
theorem e_item : we G C Cm (.item a b) env h Q W = we G C Cm a env h (fun x h1 => we G C Cm b env h1 (fun y h2 => witem x y h2 fun v => Q v h2) W) W := by (simp only [we]) <;> rfl
theorem e_sl {lo hi : O} : we G C Cm (.sl a lo hi) env h Q W = we G C Cm a env h (fun x h1 => wo G C Cm lo env h1 (fun l h2 => wo G C Cm hi env h2 (fun u h3 => wslice x l u h3 Q) W) W) W := by (simp only [we]) <;> rfl
theorem e_fld {f : Str} : we G C Cm (.fld a f) env h Q W = we G C Cm a env h (fun x h1 => match x with
    | .loc l => (match h1[l]? with
      | some (.ins c fs) => G.na c f = true ∧ there (fgetM fs f) fun v => Q v h1
      | _ => False)
    | _ => False) W := by (simp only [we]) <;> rfl
theorem e_call {f : Nat} : we G C Cm (.call f es) env h Q W = wes G C Cm es env h (fun xs h1 => C f xs h1 Q W) W := by (simp only [we]) <;> rfl
theorem e_make {c : Nat} : we G C Cm (.make c es) env h Q W = wes G C Cm es env h (fun xs h1 => match G.cls[c]? with
    | some (some f, _) => Cm f (.loc h1.length :: xs) (h1 ++ [.ins c []]) (fun v h2 => (match v with
      | .non => Q (.loc h1.length) h2
      | _ => False)) W
    | _ => False) W := by (simp only [we]) <;> rfl
/-- the method of a class -/
def mfind (G : Tab) (c : Nat) (m : Str) : Option Nat := (match G.cls[c]? with
  | some (_, ms) => (ms.find? fun p => decide (p.1 = m)).map (·.2)
  | none => none)
theorem e_meth {m : Str} : we G C Cm (.meth m o es) env h Q W = we G C Cm o env h (fun x h1 => match x with
    | .loc l => (match h1[l]? with
      | some (.ins c fs) => (match mfind G c m with
        | some f => fgetM fs m = none ∧ wes G C Cm es env h1 (fun xs h2 => C f (x :: xs) h2 Q W) W
        | none => False)
      | _ => False)
    | _ => False) W := by
  simp only [we]
  congr 1
  funext x h1
  cases x <;> try rfl
  rename_i l
  dsimp only
  cases e : h1[l]? with
  | none => rfl
  | some ob =>
    cases ob <;> try rfl
    rename_i c fs
    dsimp only
    unfold mfind
    cases e2 : G.cls[c]? with
    | none => rfl
    | some r =>
      obtain ⟨i, ms⟩ := r
      dsimp only
      cases (ms.find? fun p => decide (p.1 = m)) with
      | none => rfl
      | some q => rfl
theorem e_blt {p : Bi} : we G C Cm (.blt p es) env h Q W = wes G C Cm es env h (fun xs h1 => wbi p xs h1 Q) W := by (simp only [we]) <;> rfl
theorem e_bm {m : BM} : we G C Cm (.bm m o es) env h Q W = we G C Cm o env h (fun x h1 => bmk m x h1 ∧ wes G C Cm es env h1 (fun xs h2 => wbm m x xs h2 Q) W) W := by (simp only [we]) <;> rfl
theorem e_isi {t : Ty} : we G C Cm (.isi a t) env h Q W = we G C Cm a env h (fun x h1 => isM x h1 t fun r => Q (.bl r) h1) W := by (simp only [we]) <;> rfl
theorem o_none {Q : Option Int → MH → Prop} : wo G C Cm .none env h Q W = Q none h := by (simp only [wo]) <;> rfl
theorem o_some {Q : Option Int → MH → Prop} : wo G C Cm (.some a) env h Q W = we G C Cm a env h (fun x h1 => match x with
    | .int i => Q (some i) h1
    | _ => False) W := by (simp only [wo]) <;> rfl
theorem es_nil {Q : List Val → MH → Prop} : wes G C Cm .nil env h Q W = Q [] h := by (simp only [wes]) <;> rfl
theorem es_cons {Q : List Val → MH → Prop} : wes G C Cm (.cons a es) env h Q W = we G C Cm a env h (fun x h1 => wes G C Cm es env h1 (fun xs h2 => Q (x :: xs) h2) W) W := by (simp only [wes]) <;> rfl
theorem t_e : wt G C Cm (.e a) env h P W = we G C Cm a env h (fun x h1 => wtru x h1 fun r => P r h1) W := by (simp only [wt]) <;> rfl
theorem t_not {c : B} : wt G C Cm (.not c) env h P W = wt G C Cm c env h (fun r h1 => P (!r) h1) W := by (simp only [wt]) <;> rfl
theorem t_and {c d : B} : wt G C Cm (.and c d) env h P W = wt G C Cm c env h (fun r h1 => if r = true then wt G C Cm d env h1 P W else P false h1) W := by (simp only [wt]) <;> rfl
theorem t_or {c d : B} : wt G C Cm (.or c d) env h P W = wt G C Cm c env h (fun r h1 => if r = true then P true h1 else wt G C Cm d env h1 P W) W := by (simp only [wt]) <;> rfl
theorem bs_nil : wbs G C Cm .nil env h P W = P true h := by (simp only [wbs]) <;> rfl
theorem bs_cons {c : B} {bs : Bs} : wbs G C Cm (.cons c bs) env h P W = wt G C Cm c env h (fun r h1 => if r = true then wbs G C Cm bs env h1 P W else P false h1) W := by (simp only [wbs]) <;> rfl
theorem g_nm {i : Nat} {v : Val} : wtg G C Cm (.nm i) v env h U W = U (env.set i (some v)) h := by (simp only [wtg]) <;> rfl
theorem g_tup {ts : Ts} {xs : List Val} : wtg G C Cm (.tup ts) (.tup xs) env h U W = (xs.length = ts.len ∧ wtgs G C Cm ts xs env h U) := by (simp only [wtg]) <;> rfl
theorem g_sub {i : E} {v : Val} : wtg G C Cm (.sub o i) v env h U W = we G C Cm o env h (fun x h1 => we G C Cm i env h1 (fun y h2 => wset x y v h2 fun h3 => U env h3) W) W := by (simp only [wtg]) <;> rfl
theorem g_fld {f : Str} {v : Val} : wtg G C Cm (.fld o f) v env h U W = we G C Cm o env h (fun x h1 => wfset G.na x v f h1 fun h2 => U env h2) W := by (simp only [wtg]) <;> rfl
theorem gs_nil : wtgs G C Cm .nil [] env h U = U env h := by (simp only [wtgs]) <;> rfl
theorem gs_cons {t : T} {ts : Ts} {v : Val} {r : List Val} : wtgs G C Cm (.cons t ts) (v :: r) env h U = wtg G C Cm t v env h (fun env1 h1 => wtgs G C Cm ts r env1 h1 U) (fun _ _ => False) := by (simp only [wtgs]) <;> rfl
theorem s_exp : ws G C Cm (.exp a) env h D = we G C Cm a env h (fun _ h1 => D.nx env h1) (fun x h1 => D.ex x env h1) := by (simp only [ws]) <;> rfl
theorem s_ret : ws G C Cm (.ret a) env h D = we G C Cm a env h D.rt (fun x h1 => D.ex x env h1) := by (simp only [ws]) <;> rfl
theorem s_retN : ws G C Cm .retN env h D = D.rt .non h := by (simp only [ws]) <;> rfl
theorem s_asg {t : T} : ws G C Cm (.asg t a) env h D = we G C Cm a env h (fun v h1 => wtg G C Cm t v env h1 D.nx (fun x h1 => D.ex x env h1)) (fun x h1 => D.ex x env h1) := by (simp only [ws]) <;> rfl
theorem s_ite {c : B} {p q : Ss} : ws G C Cm (.ite c p q) env h D = wt G C Cm c env h (fun r h1 => if r = true then wss G C Cm p env h1 D else wss G C Cm q env h1 D) (fun x h1 => D.ex x env h1) := by (simp only [ws]) <;> rfl
theorem s_brk : ws G C Cm .brk env h D = D.bk env h := by (simp only [ws]) <;> rfl
theorem s_cnt : ws G C Cm .cnt env h D = D.ct env h := by (simp only [ws]) <;> rfl
theorem s_pass : ws G C Cm .pass env h D = D.nx env h := by (simp only [ws]) <;> rfl
theorem s_raise {c : Nat} : ws G C Cm (.raise c) env h D = D.ex ⟨c, []⟩ env h := by (simp only [ws]) <;> rfl
theorem s_try {c : Nat} {p q : Ss} : ws G C Cm (.trye p c q) env h D = wss G C Cm p env h { D with ex := fun x e' h' => if G.sub x.c c = true then wss G C Cm q e' h' { D with ex := fun _ _ _ => False } else D.ex x e' h' } := by (simp only [ws]) <;> rfl
theorem ss_nil : wss G C Cm .nil env h D = D.nx env h := by (simp only [wss]) <;> rfl
theorem ss_cons : wss G C Cm (.cons s ss) env h D = ws G C Cm s env h { D with nx := fun e' h' => wss G C Cm ss e' h' D } := by (simp only [wss]) <;> rfl
/-! loops -/
theorem s_fr {t : T} {it : Mn.It} {p : Ss} : ws G C Cm (.fr t it p) env h D = wit G C Cm it env h (fun nx h1 => ∃ I : Nat → Nat → Ev → MH → Prop, (∃ m, I 0 m env h1) ∧ ∀ i m env h, I i m env h → (match nx i h with
      | none => False
      | some none => D.nx env h
      | some (some v) => wtg G C Cm t v env h (fun env1 h1 => wss G C Cm p env1 h1 { D with nx := fun e' h' => ∃ m', m' < m ∧ I (i + 1) m' e' h', ct := fun e' h' => ∃ m', m' < m ∧ I (i + 1) m' e' h', bk := D.nx }) (fun x h1 => D.ex x env h1))) (fun x h1 => D.ex x env h1) := by
  (simp only [ws]) <;> rfl
theorem s_whl {c : B} {p : Ss} : ws G C Cm (.whl c p) env h D = ∃ I : Nat → Ev → MH → Prop, (∃ m, I m env h) ∧ ∀ m env h, I m env h → wt G C Cm c env h (fun r h1 => if r = true then
      wss G C Cm p env h1 { D with nx := fun e' h' => ∃ m', m' < m ∧ I m' e' h', ct := fun e' h' => ∃ m', m' < m ∧ I m' e' h', bk := D.nx } else D.nx env h1) (fun x h1 => D.ex x env h1) := by
  (simp only [ws]) <;> rfl
theorem e_lc {t : T} {it : Mn.It} {ifs : Bs} {own : List Nat} : we G C Cm (.lc t it ifs own a) env h Q W = wit G C Cm it env h (fun nx h1 => ∃ I : Nat → Nat → MH → Prop, (∃ m, I 0 m (h1 ++ [.lst []])) ∧ ∀ i m h2, I i m h2 → (match nx i h2 with
    | none => False
    | some none => Q (.loc h1.length) h2
    | some (some v) => wtg G C Cm t v (wipeM env own) h2 (fun env2 h3 => wbs G C Cm ifs env2 h3 (fun r h4 => if r = true then
        we G C Cm a env2 h4 (fun y h5 => (match h5[h1.length]? with
          | some (.lst acc) => acc.length < sizeLine ∧ ∃ m', m' < m ∧ I (i + 1) m' (h5.set h1.length (.lst (acc ++ [y])))
          | _ => False)) (fun _ _ => False)
        else ∃ m', m' < m ∧ I (i + 1) m' h4) (fun _ _ => False)) (fun _ _ => False))) W := by
  (simp only [we]) <;> rfl
theorem i_val {Q : Nx → MH → Prop} : wit G C Cm (.val a) env h Q W = we G C Cm a env h (fun x h1 => match seqM x h1 with
    | some _ => Q (nxSeq x) h1
    | none => False) W := by (simp only [wit]) <;> rfl
theorem i_rng1 {Q : Nx → MH → Prop} : wit G C Cm (.rng1 a) env h Q W = we G C Cm a env h (fun x h1 => match x with
    | .int j => (-(2 ^ 62) ≤ j ∧ j < 2 ^ 62) ∧ Q (nxRng 0 j.toNat) h1
    | _ => False) W := by (simp only [wit]) <;> rfl
theorem i_rng2 {Q : Nx → MH → Prop} : wit G C Cm (.rng2 a b) env h Q W = we G C Cm a env h (fun x h1 => we G C Cm b env h1 (fun y h2 => match x, y with
    | .int i, .int j => (-(2 ^ 62) ≤ i ∧ i < 2 ^ 62 ∧ -(2 ^ 62) ≤ j ∧ j < 2 ^ 62) ∧ Q (nxRng i (j - i).toNat) h2
    | _, _ => False) W) W := by (simp only [wit]) <;> rfl
theorem i_enum {Q : Nx → MH → Prop} : wit G C Cm (.enum a) env h Q W = we G C Cm a env h (fun x h1 => match x with
    | .loc l => (match h1[l]? with
      | some (.lst _) => Q (nxEnum l) h1
      | _ => False)
    | _ => False) W := by (simp only [wit]) <;> rfl
end
/-- a loop of n turns -/
def Lp (n : Nat) (J : Nat → Ev → MH → Prop) : Nat → Nat → Ev → MH → Prop := fun i m env h => m = n - i ∧ i ≤ n ∧ J i env h
def Lc (n : Nat) (J : Nat → MH → Prop) : Nat → Nat → MH → Prop := fun i m h => m = n - i ∧ i ≤ n ∧ J i h
theorem lp_next {n i : Nat} {J : Nat → Ev → MH → Prop} {e : Ev} {h : MH} (hi : i < n) (j : J (i + 1) e h) : ∃ m', m' < n - i ∧ Lp n J (i + 1) m' e h := ⟨n - (i + 1), by omega, rfl, hi, j⟩
theorem lc_next {n i : Nat} {J : Nat → MH → Prop} {h : MH} (hi : i < n) (j : J (i + 1) h) : ∃ m', m' < n - i ∧ Lc n J (i + 1) m' h := ⟨n - (i + 1), by omega, rfl, hi, j⟩
section
variable {env : Ev} {h : MH} {N : Ev → MH → Prop} {N1 : MH → Prop} {B : (Nat → Nat → Ev → MH → Prop) → Nat → Nat → Val → Ev → MH → Prop} {B1 : (Nat → Nat → MH → Prop) → Nat → Nat → Val → MH → Prop}
theorem rng_go {lo : Int} {n : Nat} (J : Nat → Ev → MH → Prop) (h0 : J 0 env h) (step : ∀ i env h, i < n → J i env h → B (Lp n J) i (n - i) (.int (lo + i)) env h) (fin : ∀ env h, J n env h → N env h) :
    ∃ I : Nat → Nat → Ev → MH → Prop, (∃ m, I 0 m env h) ∧ ∀ i m env h, I i m env h → (match nxRng lo n i h with
      | none => False
      | some none => N env h
      | some (some v) => B I i m v env h) := by
  refine ⟨Lp n J, ⟨n, rfl, Nat.zero_le _, h0⟩, fun i m env h ⟨e1, e2, j⟩ => ?_⟩
  unfold nxRng
  by_cases c : i < n
  · rw [if_pos c]; subst e1; exact step i env h c j
  · rw [if_neg c]
    have : i = n := by omega
    subst this
    exact fin env h j
theorem seq_go {x : Val} {xs : List Val} (J : Nat → Ev → MH → Prop) (h0 : J 0 env h) (sq : ∀ i env h, J i env h → seqM x h = some xs) (step : ∀ i v env h, xs[i]? = some v → J i env h → B (Lp xs.length J) i (xs.length - i) v env h) (fin : ∀ env h, J xs.length env h → N env h) :
    ∃ I : Nat → Nat → Ev → MH → Prop, (∃ m, I 0 m env h) ∧ ∀ i m env h, I i m env h → (match nxSeq x i h with
      | none => False
      | some none => N env h
      | some (some v) => B I i m v env h) := by
  refine ⟨Lp xs.length J, ⟨xs.length, rfl, Nat.zero_le _, h0⟩, fun i m env h ⟨e1, e2, j⟩ => ?_⟩
  unfold nxSeq
  rw [sq i env h j]
  by_cases c : i < xs.length
  · have e : xs[i]? = some xs[i] := List.getElem?_eq_getElem c
    simp only [Option.map_some, e]
    subst e1
    exact step i _ env h e j
  · have : i = xs.length := by omega
    subst this
    simp only [Option.map_some, List.getElem?_eq_none (Nat.le_refl _)]
    exact fin env h j
theorem lcs_go {x : Val} {xs : List Val} (J : Nat → MH → Prop) (h0 : J 0 h) (sq : ∀ i h, J i h → seqM x h = some xs) (step : ∀ i v h, xs[i]? = some v → J i h → B1 (Lc xs.length J) i (xs.length - i) v h) (fin : ∀ h, J xs.length h → N1 h) :
    ∃ I : Nat → Nat → MH → Prop, (∃ m, I 0 m h) ∧ ∀ i m h, I i m h → (match nxSeq x i h with
      | none => False
      | some none => N1 h
      | some (some v) => B1 I i m v h) := by
  refine ⟨Lc xs.length J, ⟨xs.length, rfl, Nat.zero_le _, h0⟩, fun i m h ⟨e1, e2, j⟩ => ?_⟩
  unfold nxSeq
  rw [sq i h j]
  by_cases c : i < xs.length
  · have e : xs[i]? = some xs[i] := List.getElem?_eq_getElem c
    simp only [Option.map_some, e]
    subst e1
    exact step i _ h e j
  · have : i = xs.length := by omega
    subst this
    simp only [Option.map_some, List.getElem?_eq_none (Nat.le_refl _)]
    exact fin h j
theorem lcr_go {lo : Int} {n : Nat} (J : Nat → MH → Prop) (h0 : J 0 h) (step : ∀ i h, i < n → J i h → B1 (Lc n J) i (n - i) (.int (lo + i)) h) (fin : ∀ h, J n h → N1 h) :
    ∃ I : Nat → Nat → MH → Prop, (∃ m, I 0 m h) ∧ ∀ i m h, I i m h → (match nxRng lo n i h with
      | none => False
      | some none => N1 h
      | some (some v) => B1 I i m v h) := by
  refine ⟨Lc n J, ⟨n, rfl, Nat.zero_le _, h0⟩, fun i m h ⟨e1, e2, j⟩ => ?_⟩
  unfold nxRng
  by_cases c : i < n
  · rw [if_pos c]; subst e1; exact step i h c j
  · rw [if_neg c]
    have : i = n := by omega
    subst this
    exact fin h j
end
/-! records, methods -/
theorem fg_nil {f : Str} : fgetM [] f = none := rfl
theorem fg_cons {k f : Str} {v : Val} {r : List (Str × Val)} : fgetM ((k, v) :: r) f = if k = f then some v else fgetM r f := by
  unfold fgetM
  rw [List.find?_cons]
  by_cases e : k = f
  · simp [e]
  · simp [e]
theorem fp_nil {f : Str} {v : Val} : fputM [] f v = [(f, v)] := rfl
theorem fp_cons {k f : Str} {v w : Val} {r : List (Str × Val)} : fputM ((k, w) :: r) f v = if k = f then (k, v) :: r else (k, w) :: fputM r f v := rfl
theorem ix_pos {n : Nat} {i : Int} (h0 : 0 ≤ i) (h1 : i < n) : ixN n i = some i.toNat := by
  unfold ixN
  rw [if_pos h0, if_pos h1]
theorem at_nn {α : Type} {xs : List α} {i : Int} (h0 : 0 ≤ i) : atI xs i = xs[i.toNat]? := by
  unfold atI ixN
  rw [if_pos h0]
  by_cases c : i < xs.length
  · rw [if_pos c]; rfl
  · rw [if_neg c, List.getElem?_eq_none (by omega)]; rfl
theorem cut_map {α β : Type} {f : α → β} {xs : List α} {lo hi : Option Int} : cutM (xs.map f) lo hi = (cutM xs lo hi).map f := by
  unfold cutM
  rw [List.length_map, List.map_take, List.map_drop]
theorem cut_1 {α : Type} {x : α} {xs : List α} : cutM (x :: xs) (some 1) none = xs := by
  unfold cutM HT.sIx
  simp
theorem h_none {h : MH} {l : Nat} (e : h.length ≤ l) : h[l]? = none := List.getElem?_eq_none e
section
variable {i j k : Int} {a b : Str} {xs ks : List Val} {h : MH} {P : Bool → Prop} {R : Option Val → Prop} {l : Nat} {x y v : Val} {kvs : List (Key × Val)} {kts : List (List Key × Val)}
theorem x_winl : win x (.loc l) h P = (match h[l]? with
    | some (.lst xs) => (flatM x = true ∧ xs.all flatM = true) ∧ P (xs.any fun z => eqM z x)
    | some (.rol xs) => (flatM x = true ∧ xs.all flatM = true) ∧ P (xs.any fun z => eqM z x)
    | some o => getM o x fun r => P r.isSome
    | none => False) := rfl
theorem x_wint : win x (.tup xs) h P = ((flatM x = true ∧ xs.all flatM = true) ∧ P (xs.any fun z => eqM z x)) := rfl
theorem x_gKi : getM (.dK kvs) (.int i) R = R (lookM kvs (.inl i)) := rfl
theorem x_gKs : getM (.dK kvs) (.str a) R = R (lookM kvs (.inr a)) := rfl
theorem x_gT : getM (.dT kts) (.tup ks) R = (match ks.mapM keyM with
    | some k => R (lookM kts k)
    | none => False) := rfl
theorem x_putT {U : List (List Key × Val) → Prop} : wputT kts (.tup ks) v U = (match ks.mapM keyM with
    | some k => kts.length < sizeLine ∧ U (putM kts k v)
    | none => False) := rfl
theorem x_putKi {U : List (Key × Val) → Prop} : wputK kvs (.int i) v U = (kvs.length < sizeLine ∧ U (putM kvs (.inl i) v)) := rfl
theorem x_putKs {U : List (Key × Val) → Prop} : wputK kvs (.str a) v U = (kvs.length < sizeLine ∧ U (putM kvs (.inr a) v)) := rfl
theorem x_key2 : [Val.int i, .int j].mapM keyM = some [.inl i, .inl j] := rfl
theorem x_key3 : [Val.int i, .int j, .int k].mapM keyM = some [.inl i, .inl j, .inl k] := rfl
theorem x_thN {R : Val → Prop} : there none R = False := rfl
end
end Mn

/-! Lb: the defs that every law has. -/
namespace Mn
open PySem PySem.Spec PyProof.Rows L2
local macro_rules
  | `(tactic| decreasing_trivial) => `(tactic| try simp (disch := omega) only [*, ss_nil, ss_cons, s_exp, s_ret, s_retN, s_asg, s_ite, s_brk, s_cnt, s_pass, s_raise, s_try, s_fr, s_whl, e_var, e_con, e_bin, e_cmp, e_neg, e_notv, e_andv, e_orv, e_ite, e_tup, e_lst, e_dnewT, e_dnewK, e_item, e_sl, e_fld, e_call, e_make, e_meth, e_blt, e_bm, e_isi, o_none, o_some, es_nil, es_cons, t_e, t_not, t_and, t_or, bs_nil, bs_cons,
    g_nm, g_tup, g_sub, g_fld, gs_nil, gs_cons, e_lc, wipeM, i_val, i_rng1, i_rng2, i_enum, cm_succ,
    x_addi, x_adds, x_addt, x_addl, x_sub, x_mul, x_fdiv, x_mod, x_shr, x_shl, x_band, x_bor, x_eq, x_ne, x_lt, x_le, x_gt, x_ge, x_in, x_notin, x_isN, x_isi, x_isb, x_iss, x_ist, x_isl, x_isnN, x_isni, x_isnb, x_isns, x_isnt, x_isnl, x_eqi, x_eqs, x_eqb, x_eqn, x_tn, x_tb, x_ti, x_ts, x_tt, x_tl, x_itt, x_itl, x_its, x_at, x_slt, x_sll, x_lent, x_lens, x_lenl,
    x_int, x_intb, x_abs, x_max2, x_min2, x_list, x_tuple, x_str, x_seqt, x_seql, x_app, x_pop, x_get, x_kap, x_kpop, x_kget, x_isM_n, x_isM_b, x_isM_i, x_isM_s, x_isM_t, x_isM_l, x_set, x_putL, x_fset, x_there, h_app, h_set, h_none, cut_map, cut_1, eq_self, List.set_set, List.getElem?_set_ne, fg_nil, fg_cons, fp_nil, fp_cons, ofStr_inj, x_winl, x_wint, x_gKi, x_gKs, x_gT, x_putT, x_putKi, x_putKs, x_key2, x_key3, x_thN, Option.isSome_some, Option.isSome_none, ix_pos, at_nn, tBl, tIn, tSt, tTu, tLi,
    List.map_cons, List.map_nil, List.length_cons, List.length_nil, List.cons_append, List.nil_append, List.replicate, List.getElem?_cons_zero, List.getElem?_cons_succ, List.set, List.length_set, List.length_map, List.length_append, Int.reduceToNat, Option.map_some, Option.some_or, Option.none_or, ne_eq, reduceCtorEq, not_false_eq_true, true_and, and_true, and_self, if_true, if_false, ite_true, ite_false, Bool.not_true, Bool.not_false, Bool.false_eq_true, Bool.true_eq_false, Int.reduceLT, Int.reduceLE, Int.reduceEq, Int.reduceNeg, Int.reduceAdd, Int.reduceSub, Int.reduceMul, Int.reducePow, Nat.reduceAdd, Nat.reduceSub, Nat.reduceLT, Nat.reduceLeDiff, String.reduceEq, decide_true, decide_false, Bool.not_eq_true', decide_eq_true_eq, decide_eq_false_iff_not, not_true_eq_false, if_pos, if_neg, ↓reduceIte])
abbrev i__law_pool : Nat := 0
abbrev i__law_spread : Nat := 1
abbrev i__law_draw : Nat := 2
abbrev i__law_same : Nat := 3
def _law_pool_0 : Ss := .cons (.ret (.lst (.cons (.blt .list (.cons (.var 0) .nil)) (.cons (.con (.int 0)) (.cons (.con (.int 0)) (.cons (.con (.int 0)) (.cons (.var 1) .nil))))))) .nil
def _law_pool_1 : Ss := .cons (.asg (.nm 1) (.bin .mod (.blt .int (.cons (.bin .add (.bin .mul (.var 1) (.con (.int 31))) (.var 2)) .nil)) (.con (.int 1000003)))) .nil
def _law_pool_2 : Ss := .cons (.fr (.nm 2) (.val (.sl (.var 0) .none (.some (.con (.int 63))))) _law_pool_1) _law_pool_0
def _law_pool_3 : Ss := .cons (.asg (.nm 1) (.con (.int 7))) _law_pool_2
def _law_spread_0 : Ss := .cons (.ret (.var 2)) .nil
def _law_spread_1 : Ss := .cons (.asg (.nm 2) (.bin .add (.bin .mul (.var 2) (.con (.int 2147483647))) (.var 1))) .nil
def _law_spread_2 : Ss := .cons (.asg (.nm 1) (.bin .mod (.blt .int (.cons (.bin .add (.bin .add (.bin .mul (.var 1) (.con (.int 48271))) (.con (.int 12345))) (.var 3)) .nil)) (.con (.int 2147483647)))) _law_spread_1
def _law_spread_3 : Ss := .cons (.fr (.nm 3) (.rng1 (.con (.int 4))) _law_spread_2) _law_spread_0
def _law_spread_4 : Ss := .cons (.asg (.nm 2) (.con (.int 1))) _law_spread_3
def _law_spread_5 : Ss := .cons (.asg (.nm 1) (.bin .mod (.blt .int (.cons (.var 0) .nil)) (.con (.int 2147483647)))) _law_spread_4
def _law_draw_0 : Ss := .cons (.ret (.var 2)) .nil
def _law_draw_1 : Ss := .cons (.asg (.sub (.var 0) (.con (.int 2))) (.bin .fdiv (.item (.var 0) (.con (.int 2))) (.var 1))) _law_draw_0
def _law_draw_2 : Ss := .cons (.asg (.nm 2) (.bin .mod (.blt .int (.cons (.item (.var 0) (.con (.int 2))) .nil)) (.var 1))) _law_draw_1
def _law_draw_3 : Ss := .cons (.ret (.bin .mod (.bin .fdiv (.var 4) (.con (.int 5))) (.var 1))) .nil
def _law_draw_4 : Ss := .cons (.asg (.nm 4) (.bin .mod (.blt .int (.cons (.bin .add (.bin .mul (.var 4) (.con (.int 16807))) (.item (.var 0) (.con (.int 3)))) .nil)) (.con (.int 2147483629)))) _law_draw_3
def _law_draw_5 : Ss := .cons (.asg (.nm 4) (.bin .mod (.blt .int (.cons (.bin .add (.bin .add (.bin .mul (.item (.var 0) (.con (.int 4))) (.con (.int 48271))) (.bin .mul (.item (.var 0) (.con (.int 3))) (.con (.int 69621)))) (.con (.int 1))) .nil)) (.con (.int 2147483647)))) _law_draw_4
def _law_draw_6 : Ss := .cons (.ite (.e (.cmp .le (.item (.var 0) (.con (.int 2))) (.con (.int 0)))) _law_draw_5 .nil) _law_draw_2
def _law_draw_7 : Ss := .cons (.asg (.sub (.var 0) (.con (.int 3))) (.bin .add (.item (.var 0) (.con (.int 3))) (.con (.int 1)))) _law_draw_6
def _law_draw_8 : Ss := .cons (.asg (.sub (.var 0) (.con (.int 2))) (.call i__law_spread (.cons (.var 3) .nil))) .nil
def _law_draw_9 : Ss := .cons (.ite (.e (.cmp .lt (.var 3) (.con (.int 1000000000000000000)))) _law_draw_8 .nil) .nil
def _law_draw_10 : Ss := .cons (.asg (.sub (.var 0) (.con (.int 2))) (.var 3)) _law_draw_9
def _law_draw_11 : Ss := .cons (.asg (.sub (.var 0) (.con (.int 1))) (.bin .add (.item (.var 0) (.con (.int 1))) (.con (.int 1)))) _law_draw_10
def _law_draw_12 : Ss := .cons (.asg (.nm 3) (.item (.item (.var 0) (.con (.int 0))) (.item (.var 0) (.con (.int 1))))) _law_draw_11
def _law_draw_13 : Ss := .cons (.ite (.and (.e (.cmp .le (.item (.var 0) (.con (.int 2))) (.con (.int 0)))) (.e (.cmp .lt (.item (.var 0) (.con (.int 1))) (.blt .len (.cons (.item (.var 0) (.con (.int 0))) .nil))))) _law_draw_12 .nil) _law_draw_7
def _law_same_0 : Ss := .cons (.ret (.andv (.isi (.var 0) .str) (.cmp .eq (.var 0) (.var 1)))) .nil
def _law_same_1 : Ss := .cons (.ret (.andv (.isi (.var 0) .int) (.andv (.notv (.isi (.var 0) .bool)) (.cmp .eq (.var 0) (.var 1))))) .nil
def _law_same_2 : Ss := .cons (.ite (.e (.isi (.var 1) .int)) _law_same_1 .nil) _law_same_0
def _law_same_3 : Ss := .cons (.ret (.andv (.isi (.var 0) .bool) (.cmp .eq (.var 0) (.var 1)))) .nil
def _law_same_4 : Ss := .cons (.ite (.e (.isi (.var 1) .bool)) _law_same_3 .nil) _law_same_2
def _law_same_5 : Ss := .cons (.ret (.cmp .is (.var 0) (.con .non))) .nil
def _law_same_6 : Ss := .cons (.ite (.e (.cmp .is (.var 1) (.con .non))) _law_same_5 .nil) _law_same_4
def _law_same_7 : Ss := .cons (.ret (.con (.bl true))) .nil
def _law_same_8 : Ss := .cons (.ret (.con (.bl false))) .nil
def _law_same_9 : Ss := .cons (.ite (.not (.e (.call i__law_same (.cons (.item (.var 0) (.var 2)) (.cons (.item (.var 1) (.var 2)) .nil))))) _law_same_8 .nil) .nil
def _law_same_10 : Ss := .cons (.fr (.nm 2) (.rng1 (.blt .len (.cons (.var 1) .nil))) _law_same_9) _law_same_7
def _law_same_11 : Ss := .cons (.ret (.con (.bl false))) .nil
def _law_same_12 : Ss := .cons (.ite (.e (.cmp .ne (.blt .len (.cons (.var 0) .nil)) (.blt .len (.cons (.var 1) .nil)))) _law_same_11 .nil) _law_same_10
def _law_same_13 : Ss := .cons (.ret (.con (.bl false))) .nil
def _law_same_14 : Ss := .cons (.ite (.or (.e (.cmp .ne (.isi (.var 1) .tuple) (.isi (.var 0) .tuple))) (.e (.cmp .ne (.isi (.var 1) .list) (.isi (.var 0) .list)))) _law_same_13 .nil) _law_same_12
def _law_same_15 : Ss := .cons (.ite (.or (.e (.isi (.var 1) .tuple)) (.e (.isi (.var 1) .list))) _law_same_14 .nil) _law_same_6
def fd__law_pool : FnD := ⟨1, 3, _law_pool_3⟩
def fd__law_spread : FnD := ⟨1, 4, _law_spread_5⟩
def fd__law_draw : FnD := ⟨2, 5, _law_draw_13⟩
def fd__law_same : FnD := ⟨2, 3, _law_same_15⟩

theorem fmod_nn (i : Int) {j : Int} (hj : 0 < j) : 0 ≤ i.fmod j := Int.fmod_nonneg_of_pos i hj
theorem fmod_lt (i : Int) {j : Int} (hj : 0 < j) : i.fmod j < j := Int.fmod_lt_of_pos i hj
theorem cml {i j : Int} (h : -(2 ^ 64) < j ∧ j < 2 ^ 64) : CMul i j ∨ CMulW i j := .inl (.inr h)
structure LibT (G : Tab) : Prop where
  pool : G.fns[0]? = some fd__law_pool
  spread : G.fns[1]? = some fd__law_spread
  draw : G.fns[2]? = some fd__law_draw
  same : G.fns[3]? = some fd__law_same
section
variable {G : Tab}
theorem spread_ok (T : LibT G) {k : Nat} {c : Int} {h : MH} {Q : KV1} {W : KX1} (q : ∀ r : Int, 0 < r → Q (.int r) h) : wcall G (k + 1) 1 [.int c] h Q W := by
  refine enter T.spread rfl ?_
  unfold _law_spread_5; decreasing_trivial
  unfold _law_spread_4; decreasing_trivial
  unfold _law_spread_3; decreasing_trivial
  refine rng_go (fun _ env h' => h' = h ∧ ∃ (m t : Int) (w : Option Val), env = [some (.int c), some (.int m), some (.int t), w] ∧ 0 ≤ m ∧ 0 < t) ⟨rfl, _, _, _, rfl, fmod_nn _ (by decide), by decide⟩ ?_ ?_
  · rintro i env h' hi ⟨rfl, m, t, w, rfl, hm, ht⟩
    unfold _law_spread_2; decreasing_trivial
    unfold _law_spread_1; decreasing_trivial
    refine ⟨cml (by decide), cml (by decide), lp_next hi ⟨rfl, _, _, _, rfl, fmod_nn _ (by decide), ?_⟩⟩
    have := fmod_nn (m * 48271 + 12345 + (0 + (i : Int))) (j := 2147483647) (by decide)
    omega
  · rintro env h' ⟨rfl, m, t, w, rfl, hm, ht⟩
    unfold _law_spread_0; decreasing_trivial
def Pool (h : MH) (p c : Nat) : Prop := ∃ (xs : List Int) (pos cur cnt salt : Int), h[p]? = some (.lst [.loc c, .int pos, .int cur, .int cnt, .int salt]) ∧ h[c]? = some (.lst (xs.map .int)) ∧ 0 ≤ pos ∧ c ≠ p
theorem Pool.old {h h' : MH} {p c : Nat} {S : Nat → Prop} (a : Pool h p c) (o : Old h h' S) (h1 : ¬ S p) (h2 : ¬ S c) : Pool h' p c := let ⟨xs, pos, cur, cnt, salt, e0, e1, e2, e3⟩ := a; ⟨xs, pos, cur, cnt, salt, o.2 _ _ h1 e0, o.2 _ _ h2 e1, e2, e3⟩
theorem draw_tail {k : Nat} {p c : Nat} {pos cur cnt salt many : Int} {h : MH} {D : Ed} {o2 o3 o4 : Option Val} (e0 : h[p]? = some (.lst [.loc c, .int pos, .int cur, .int cnt, .int salt])) (hm : 0 < many ∧ many < 1073741824)
    (q : ∀ v cur' cnt', 0 ≤ v → v < many → D.rt (.int v) (h.set p (.lst [.loc c, .int pos, .int cur', .int cnt', .int salt]))) : wss G (wcall G k) (wcp G k).2 _law_draw_7 [some (.loc p), some (.int many), o2, o3, o4] h D := by
  have m0 : many ≠ 0 := by omega
  unfold _law_draw_7; decreasing_trivial
  unfold _law_draw_6; decreasing_trivial
  split
  · unfold _law_draw_5; decreasing_trivial
    unfold _law_draw_4; decreasing_trivial
    unfold _law_draw_3; decreasing_trivial
    refine ⟨cml (by decide), cml (by decide), cml (by decide), ⟨by decide, by decide⟩, q _ _ _ (fmod_nn _ hm.1) (fmod_lt _ hm.1)⟩
  · unfold _law_draw_2; decreasing_trivial
    unfold _law_draw_1; decreasing_trivial
    refine ⟨⟨m0, by omega⟩, ?_⟩
    unfold _law_draw_0; decreasing_trivial
    exact q _ _ _ (fmod_nn _ hm.1) (fmod_lt _ hm.1)
theorem draw_ok (T : LibT G) {k p c : Nat} {many : Int} {h : MH} {Q : KV1} {W : KX1} (hp : Pool h p c) (hm : 0 < many ∧ many < 1073741824) (q : ∀ v h', 0 ≤ v → v < many → h'.length = h.length → Old h h' (· = p) → Pool h' p c → Q (.int v) h') : wcall G (k + 2) 2 [.loc p, .int many] h Q W := by
  obtain ⟨xs, pos, cur, cnt, salt, e0, e1, hpos, hc⟩ := hp
  refine enter T.draw rfl ?_
  have fin : ∀ (pos' cur' : Int) (o2 o3 o4 : Option Val), 0 ≤ pos' → wss G (wcall G (k + 1)) (wcp G (k + 1)).2 _law_draw_7 [some (.loc p), some (.int many), o2, o3, o4] (h.set p (.lst [.loc c, .int pos', .int cur', .int cnt, .int salt])) { nx := fun _ h' => Q .non h', rt := Q, ex := fun x _ h' => W x h' } := fun pos' cur' o2 o3 o4 hp' => by
    refine draw_tail (c := c) (by rw [h_set, e0]; rfl) hm fun v cur'' cnt'' h0 h1 => ?_
    rw [List.set_set]
    exact q _ _ h0 h1 (by simp) (Old.set rfl) ⟨xs, pos', cur'', cnt'', salt, by rw [h_set, e0]; rfl, by rw [List.getElem?_set_ne (fun z => hc z.symm)]; exact e1, hp', hc⟩
  have e3 : h = h.set p (.lst [.loc c, .int pos, .int cur, .int cnt, .int salt]) := by
    apply List.ext_getElem?
    intro i
    by_cases z : p = i
    · subst z; rw [h_set, e0]; rfl
    · rw [List.getElem?_set_ne z]
  have fin0 := fin pos cur none none none hpos
  rw [← e3] at fin0
  clear e3
  unfold _law_draw_13; decreasing_trivial
  split
  · split
    · unfold _law_draw_12; decreasing_trivial
      rename_i hl
      have ex : xs[pos.toNat]? = some xs[pos.toNat] := List.getElem?_eq_getElem (by omega)
      rw [List.getElem?_map, ex]
      generalize xs[pos.toNat] = x
      have pz : p ≠ c := fun z => hc z.symm
      unfold _law_draw_11; decreasing_trivial
      unfold _law_draw_10; decreasing_trivial
      unfold _law_draw_9; decreasing_trivial
      split
      · unfold _law_draw_8; decreasing_trivial
        refine spread_ok T fun r hr => ?_
        decreasing_trivial
        exact fin _ _ _ _ _ (by omega)
      · exact fin _ _ _ _ _ (by omega)
    · exact fin0
  · exact fin0
theorem pool_ok (T : LibT G) {k l : Nat} {ns : List Int} {h : MH} {Q : KV1} {W : KX1} (e : h[l]? = some (.rol (ns.map .int))) (q : ∀ h', Old h h' (fun _ => False) → h'.length = h.length + 3 → Pool h' (h.length + 2) (h.length + 1) → Q (.loc (h.length + 2)) h') : wcall G (k + 1) 0 [.loc l] h Q W := by
  refine enter T.pool rfl ?_
  unfold _law_pool_3; decreasing_trivial
  unfold _law_pool_2; decreasing_trivial
  generalize cutM ns none (some 63) = zs
  refine seq_go (xs := zs.map .int) (fun _ env h' => h' = h ++ [.lst (zs.map .int)] ∧ ∃ (m : Int) (w : Option Val), env = [some (.loc l), some (.int m), w]) ⟨rfl, _, _, rfl⟩ ?_ ?_ ?_
  · rintro i env h' ⟨rfl, _⟩
    decreasing_trivial
  · rintro i v env h' hi ⟨rfl, m, w, rfl⟩
    rw [List.getElem?_map] at hi
    obtain ⟨x, ex, rfl⟩ := Option.map_eq_some_iff.mp hi
    have hl : i < zs.length := (List.getElem?_eq_some_iff.mp ex).1
    unfold _law_pool_1; decreasing_trivial
    exact ⟨cml (by decide), lp_next hl ⟨rfl, _, _, rfl⟩⟩
  · rintro env h' ⟨rfl, m, w, rfl⟩
    unfold _law_pool_0; decreasing_trivial
    refine ⟨by decide, q _ ((Old.app.trans Old.app).trans Old.app) (by simp) ⟨ns, 0, 0, 0, m, ?_, ?_, by decide, by omega⟩⟩
    · decreasing_trivial
    · decreasing_trivial
/-! ### _law_same -/
theorem same_int (T : LibT G) {k : Nat} {a b : Int} {h : MH} {Q : KV1} {W : KX1} (q : Q (.bl (decide (a = b))) h) : wcall G (k + 1) 3 [.int a, .int b] h Q W := by
  refine enter T.same rfl ?_
  unfold _law_same_15; decreasing_trivial
  unfold _law_same_6; decreasing_trivial
  unfold _law_same_4; decreasing_trivial
  unfold _law_same_2; decreasing_trivial
  unfold _law_same_1; decreasing_trivial
theorem same_bool (T : LibT G) {k : Nat} {a b : Bool} {h : MH} {Q : KV1} {W : KX1} (q : Q (.bl (decide (a = b))) h) : wcall G (k + 1) 3 [.bl a, .bl b] h Q W := by
  refine enter T.same rfl ?_
  unfold _law_same_15; decreasing_trivial
  unfold _law_same_6; decreasing_trivial
  unfold _law_same_4; decreasing_trivial
  unfold _law_same_3; decreasing_trivial
theorem same_ints (T : LibT G) {k a b : Nat} {xs ys : List Int} {h : MH} {Q : KV1} {W : KX1} (ea : h[a]? = some (.lst (xs.map .int))) (eb : h[b]? = some (.lst (ys.map .int))) (hs : ys.length < 4611686018427387904) (q : Q (.bl (decide (xs = ys))) h) : wcall G (k + 2) 3 [.loc a, .loc b] h Q W := by
  refine enter T.same rfl ?_
  unfold _law_same_15; decreasing_trivial
  unfold _law_same_14; decreasing_trivial
  unfold _law_same_12; decreasing_trivial
  split
  · rename_i hl
    have ne : xs ≠ ys := fun z => hl (by rw [z])
    unfold _law_same_11; decreasing_trivial
    rw [decide_eq_false ne] at q
    exact q
  · rename_i hl
    have hl : xs.length = ys.length := by
      have := Classical.not_not.mp hl
      omega
    unfold _law_same_10; decreasing_trivial
    refine ⟨⟨by omega, by omega⟩, ?_⟩
    refine rng_go (fun i env h' => h' = h ∧ (∀ j, j < i → xs[j]? = ys[j]?) ∧ ∃ w : Option Val, env = [some (.loc a), some (.loc b), w]) ⟨rfl, fun j hj => by omega, _, rfl⟩ ?_ ?_
    · rintro i env h' hi ⟨rfl, hj, w, rfl⟩
      have hi : i < ys.length := by omega
      have e1 : xs[i]? = some (xs[i]'(by omega)) := List.getElem?_eq_getElem (by omega)
      have e2 : ys[i]? = some ys[i] := List.getElem?_eq_getElem hi
      have e0 : (0 + (i : Int)).toNat = i := by omega
      have hp : (0 : Int) ≤ 0 + (i : Int) := by omega
      unfold _law_same_9; decreasing_trivial
      rw [List.getElem?_map, List.getElem?_map, e1, e2]
      refine same_int T ?_
      decreasing_trivial
      split
      · rename_i hne
        have ne : xs ≠ ys := fun z => hne (by subst z; rfl)
        unfold _law_same_8; decreasing_trivial
        rw [decide_eq_false ne] at q
        exact q
      · rename_i heq
        refine lp_next (by omega) ⟨rfl, fun j hj2 => ?_, _, rfl⟩
        by_cases c : j < i
        · exact hj j c
        · have : j = i := by omega
          subst this
          rw [e1, e2, Classical.not_not.mp heq]
    · rintro env h' ⟨rfl, hj, w, rfl⟩
      unfold _law_same_7; decreasing_trivial
      have e : xs = ys := by
        apply List.ext_getElem?
        intro j
        by_cases c : j < ys.length
        · exact hj j (by omega)
        · rw [List.getElem?_eq_none (by omega), List.getElem?_eq_none (by omega)]
      rw [decide_eq_true e] at q
      exact q
end
end Mn

/-! Sb: the store: nodes and their parts. -/
namespace Mn
open PySem PySem.Spec PyProof.Rows L2
local macro_rules
  | `(tactic| decreasing_trivial) => `(tactic| try simp (disch := omega) only [*, ss_nil, ss_cons, s_exp, s_ret, s_retN, s_asg, s_ite, s_brk, s_cnt, s_pass, s_raise, s_try, s_fr, s_whl, e_var, e_con, e_bin, e_cmp, e_neg, e_notv, e_andv, e_orv, e_ite, e_tup, e_lst, e_dnewT, e_dnewK, e_item, e_sl, e_fld, e_call, e_make, e_meth, e_blt, e_bm, e_isi, o_none, o_some, es_nil, es_cons, t_e, t_not, t_and, t_or, bs_nil, bs_cons,
    g_nm, g_tup, g_sub, g_fld, gs_nil, gs_cons, e_lc, wipeM, i_val, i_rng1, i_rng2, i_enum, cm_succ,
    x_addi, x_adds, x_addt, x_addl, x_sub, x_mul, x_fdiv, x_mod, x_shr, x_shl, x_band, x_bor, x_eq, x_ne, x_lt, x_le, x_gt, x_ge, x_in, x_notin, x_isN, x_isi, x_isb, x_iss, x_ist, x_isl, x_isnN, x_isni, x_isnb, x_isns, x_isnt, x_isnl, x_eqi, x_eqs, x_eqb, x_eqn, x_tn, x_tb, x_ti, x_ts, x_tt, x_tl, x_itt, x_itl, x_its, x_at, x_slt, x_sll, x_lent, x_lens, x_lenl,
    x_int, x_intb, x_abs, x_max2, x_min2, x_list, x_tuple, x_str, x_seqt, x_seql, x_app, x_pop, x_get, x_kap, x_kpop, x_kget, x_isM_n, x_isM_b, x_isM_i, x_isM_s, x_isM_t, x_isM_l, x_set, x_putL, x_fset, x_there, h_app, h_set, h_none, cut_map, cut_1, eq_self, List.set_set, List.getElem?_set_ne, fg_nil, fg_cons, fp_nil, fp_cons, ofStr_inj, x_winl, x_wint, x_gKi, x_gKs, x_gT, x_putT, x_putKi, x_putKs, x_key2, x_key3, x_thN, Option.isSome_some, Option.isSome_none, ix_pos, at_nn, tBl, tIn, tSt, tTu, tLi,
    List.map_cons, List.map_nil, List.length_cons, List.length_nil, List.cons_append, List.nil_append, List.replicate, List.getElem?_cons_zero, List.getElem?_cons_succ, List.set, List.length_set, List.length_map, List.length_append, Int.reduceToNat, Option.map_some, Option.some_or, Option.none_or, ne_eq, reduceCtorEq, not_false_eq_true, true_and, and_true, and_self, if_true, if_false, ite_true, ite_false, Bool.not_true, Bool.not_false, Bool.false_eq_true, Bool.true_eq_false, Int.reduceLT, Int.reduceLE, Int.reduceEq, Int.reduceNeg, Int.reduceAdd, Int.reduceSub, Int.reduceMul, Int.reducePow, Nat.reduceAdd, Nat.reduceSub, Nat.reduceLT, Nat.reduceLeDiff, String.reduceEq, decide_true, decide_false, Bool.not_eq_true', decide_eq_true_eq, decide_eq_false_iff_not, not_true_eq_false, if_pos, if_neg, ↓reduceIte])
abbrev i__wall : Nat := 4
abbrev i_Store___init__ : Nat := 5
abbrev i_Store_node : Nat := 6
abbrev i_Store_coin : Nat := 7
abbrev i_Store_level : Nat := 8
abbrev i_Store_low : Nat := 9
abbrev i_Store_high : Nat := 10
abbrev i_Store_top_level : Nat := 11
abbrev i_Store_part : Nat := 12
abbrev i_Store_known_choice : Nat := 13
abbrev i_Store_choose : Nat := 14
abbrev i_Store_advance : Nat := 15
abbrev i_Store_negate : Nat := 16
abbrev i_Store_both : Nat := 17
abbrev i_Store_either : Nat := 18
abbrev i_Store_without : Nat := 19
abbrev i_Store_either_of : Nat := 20
abbrev i_Store_nodes_below : Nat := 21
abbrev i_Store_restrict : Nat := 22
abbrev i_Store_value : Nat := 23
abbrev i_Store_support : Nat := 24
abbrev i_Store_models : Nat := 25
abbrev i_Store_gap : Nat := 26
abbrev i_Store_same_as : Nat := 27
def Store___init___0 : Ss := .cons (.asg (.fld (.var 0) "_chosen") (.dnew true)) .nil
def Store___init___1 : Ss := .cons (.asg (.fld (.var 0) "_nodes") (.dnew true)) Store___init___0
def Store___init___2 : Ss := .cons (.asg (.fld (.var 0) "_highs") (.lst .nil)) Store___init___1
def Store___init___3 : Ss := .cons (.asg (.fld (.var 0) "_lows") (.lst .nil)) Store___init___2
def Store___init___4 : Ss := .cons (.asg (.fld (.var 0) "_levels") (.lst .nil)) Store___init___3
def Store_node_0 : Ss := .cons (.ret (.item (.fld (.var 0) "_nodes") (.var 4))) .nil
def Store_node_1 : Ss := .cons (.asg (.sub (.fld (.var 0) "_nodes") (.var 4)) (.bin .add (.blt .len (.cons (.fld (.var 0) "_levels") .nil)) (.con (.int 1)))) .nil
def Store_node_2 : Ss := .cons (.exp (.bm .append (.fld (.var 0) "_highs") (.cons (.var 3) .nil))) Store_node_1
def Store_node_3 : Ss := .cons (.exp (.bm .append (.fld (.var 0) "_lows") (.cons (.var 2) .nil))) Store_node_2
def Store_node_4 : Ss := .cons (.exp (.bm .append (.fld (.var 0) "_levels") (.cons (.var 1) .nil))) Store_node_3
def Store_node_5 : Ss := .cons (.ite (.e (.cmp .notin (.var 4) (.fld (.var 0) "_nodes"))) Store_node_4 .nil) Store_node_0
def Store_node_6 : Ss := .cons (.asg (.nm 4) (.tup (.cons (.var 1) (.cons (.var 2) (.cons (.var 3) .nil))))) Store_node_5
def Store_node_7 : Ss := .cons (.ret (.var 2)) .nil
def Store_node_8 : Ss := .cons (.ite (.e (.cmp .eq (.var 2) (.var 3))) Store_node_7 .nil) Store_node_6
def Store_coin_0 : Ss := .cons (.ret (.meth "node" (.var 0) (.cons (.var 1) (.cons (.con (.int 0)) (.cons (.con (.int 1)) .nil))))) .nil
def Store_level_0 : Ss := .cons (.ret (.item (.fld (.var 0) "_levels") (.bin .sub (.var 1) (.con (.int 2))))) .nil
def Store_level_1 : Ss := .cons (.raise 0) .nil
def Store_level_2 : Ss := .cons (.ite (.e (.cmp .lt (.var 1) (.con (.int 2)))) Store_level_1 .nil) Store_level_0
def Store_low_0 : Ss := .cons (.ret (.item (.fld (.var 0) "_lows") (.bin .sub (.var 1) (.con (.int 2))))) .nil
def Store_low_1 : Ss := .cons (.raise 0) .nil
def Store_low_2 : Ss := .cons (.ite (.e (.cmp .lt (.var 1) (.con (.int 2)))) Store_low_1 .nil) Store_low_0
def Store_high_0 : Ss := .cons (.ret (.item (.fld (.var 0) "_highs") (.bin .sub (.var 1) (.con (.int 2))))) .nil
def Store_high_1 : Ss := .cons (.raise 0) .nil
def Store_high_2 : Ss := .cons (.ite (.e (.cmp .lt (.var 1) (.con (.int 2)))) Store_high_1 .nil) Store_high_0
def fd_Store___init__ : FnD := ⟨1, 1, Store___init___4⟩
def fd_Store_node : FnD := ⟨4, 5, Store_node_8⟩
def fd_Store_coin : FnD := ⟨2, 2, Store_coin_0⟩
def fd_Store_level : FnD := ⟨2, 2, Store_level_2⟩
def fd_Store_low : FnD := ⟨2, 2, Store_low_2⟩
def fd_Store_high : FnD := ⟨2, 2, Store_high_2⟩
def stoFs (s : Nat) : List (Str × Val) := [("_levels", .loc (s + 1)), ("_lows", .loc (s + 2)), ("_highs", .loc (s + 3)), ("_nodes", .loc (s + 4)), ("_chosen", .loc (s + 5))]
structure StoT (G : Tab) : Prop extends LibT G where
  init : G.fns[5]? = some fd_Store___init__
  node : G.fns[6]? = some fd_Store_node
  coin : G.fns[7]? = some fd_Store_coin
  level : G.fns[8]? = some fd_Store_level
  low : G.fns[9]? = some fd_Store_low
  high : G.fns[10]? = some fd_Store_high
  cls : ∃ ms, G.cls[0]? = some (some 5, ms)
  mnode : mfind G 0 "node" = some 6
  mcoin : mfind G 0 "coin" = some 7
  mlevel : mfind G 0 "level" = some 8
  mlow : mfind G 0 "low" = some 9
  mhigh : mfind G 0 "high" = some 10
  n1 : G.na 0 "_levels" = true
  n2 : G.na 0 "_lows" = true
  n3 : G.na 0 "_highs" = true
  n4 : G.na 0 "_nodes" = true
  n5 : G.na 0 "_chosen" = true
abbrev Nd := Int × Int × Int
def Nd.key (t : Nd) : List Key := [.inl t.1, .inl t.2.1, .inl t.2.2]
def nodesFrom : Int → List Nd → List (List Key × Val)
  | _, [] => []
  | n, t :: r => (Nd.key t, .int n) :: nodesFrom (n + 1) r
theorem key_inj {t u : Nd} (h : Nd.key t = Nd.key u) : t = u := by
  obtain ⟨a, b, c⟩ := t
  obtain ⟨d, e, f⟩ := u
  unfold Nd.key at h
  simp at h
  obtain ⟨h1, h2, h3⟩ := h
  rw [h1, h2, h3]
theorem nodes_len : ∀ (T : List Nd) (n : Int), (nodesFrom n T).length = T.length
  | [], _ => rfl
  | t :: r, n => by unfold nodesFrom; rw [List.length_cons, nodes_len r, List.length_cons]
theorem lookM_cons {α : Type} [DecidableEq α] {k k' : α} {v : Val} {r : List (α × Val)} : lookM ((k', v) :: r) k = if k' = k then some v else lookM r k := by
  unfold lookM
  rw [List.find?_cons]
  by_cases e : k' = k
  · simp [e]
  · simp [e]
theorem lookM_nil {α : Type} [DecidableEq α] {k : α} : lookM [] k = none := rfl
theorem look_none {t : Nd} : ∀ {T : List Nd} {n : Int}, t ∉ T → lookM (nodesFrom n T) (Nd.key t) = none
  | [], n, _ => rfl
  | u :: r, n, h => by
    rw [List.mem_cons, not_or] at h
    unfold nodesFrom
    rw [lookM_cons, if_neg fun z => h.1 (key_inj z).symm, look_none h.2]
theorem look_some {t : Nd} : ∀ {T : List Nd} {n : Int} {i : Nat}, T.Nodup → T[i]? = some t → lookM (nodesFrom n T) (Nd.key t) = some (.int (n + i))
  | [], n, i, _, h => by simp at h
  | u :: r, n, 0, _, h => by
    simp at h
    subst h
    unfold nodesFrom
    rw [lookM_cons, if_pos rfl]
    simp
  | u :: r, n, i + 1, nd, h => by
    rw [List.getElem?_cons_succ] at h
    obtain ⟨h1, h2⟩ := List.nodup_cons.mp nd
    unfold nodesFrom
    rw [lookM_cons, if_neg fun z => h1 (by rw [key_inj z]; exact List.mem_of_getElem? h), look_some h2 h]
    congr 2
    omega
theorem any_look {α : Type} [DecidableEq α] {k : α} : ∀ {r : List (α × Val)}, lookM r k = none → (r.any fun kv => decide (kv.1 = k)) = false
  | [], _ => rfl
  | (k', v) :: r, h => by
    rw [lookM_cons] at h
    by_cases e : k' = k
    · rw [if_pos e] at h; cases h
    · rw [if_neg e] at h
      rw [List.any_cons, any_look h]
      simp [e]
theorem putM_new {α : Type} [DecidableEq α] {k : α} {v : Val} {r : List (α × Val)} (h : lookM r k = none) : putM r k v = r ++ [(k, v)] := by
  unfold putM
  rw [any_look h]
  rfl
theorem nodes_snoc {t : Nd} : ∀ {T : List Nd} {n : Int}, nodesFrom n T ++ [(Nd.key t, .int (n + T.length))] = nodesFrom n (T ++ [t])
  | [], n => by simp [nodesFrom]
  | u :: r, n => by
    rw [List.cons_append]
    unfold nodesFrom
    rw [List.cons_append, ← nodes_snoc (T := r) (n := n + 1)]
    congr 3
    rw [List.length_cons]
    simp
    omega
structure Sto (h : MH) (s : Nat) (T : List Nd) (ch : List (List Key × Val)) : Prop where
  o : h[s]? = some (.ins 0 (stoFs s))
  lv : h[s + 1]? = some (.lst (T.map fun t => .int t.1))
  lo : h[s + 2]? = some (.lst (T.map fun t => .int t.2.1))
  hi : h[s + 3]? = some (.lst (T.map fun t => .int t.2.2))
  nd : h[s + 4]? = some (.dT (nodesFrom 2 T))
  ch : h[s + 5]? = some (.dT ch)
  un : T.Nodup
theorem Sto.old {h h' : MH} {s : Nat} {N : List Nd} {ch : List (List Key × Val)} {S : Nat → Prop} (a : Sto h s N ch) (o : Old h h' S) (n : ∀ l, s ≤ l → l ≤ s + 5 → ¬ S l) : Sto h' s N ch :=
  ⟨o.2 _ _ (n _ (by omega) (by omega)) a.o, o.2 _ _ (n _ (by omega) (by omega)) a.lv, o.2 _ _ (n _ (by omega) (by omega)) a.lo, o.2 _ _ (n _ (by omega) (by omega)) a.hi, o.2 _ _ (n _ (by omega) (by omega)) a.nd, o.2 _ _ (n _ (by omega) (by omega)) a.ch, a.un⟩
theorem Old.setN {h h1 : MH} {S : Nat → Prop} {l : Nat} {o : MO} (a : Old h h1 S) (c : h.length ≤ l) : Old h (h1.set l o) S :=
  ⟨by simpa using a.1, fun m p n e => by rw [List.getElem?_set_ne (by have := h_lt e; omega)]; exact a.2 m p n e⟩
theorem Old.setS {h h1 : MH} {S : Nat → Prop} {l : Nat} {o : MO} (a : Old h h1 S) (c : S l) : Old h (h1.set l o) S := a.trans (Old.set c)
theorem Old.appN {h h1 : MH} {S : Nat → Prop} {o : MO} (a : Old h h1 S) : Old h (h1 ++ [o]) S := a.trans Old.app
section
variable {G : Tab}
theorem init_ok (T : StoT G) {k : Nat} {h : MH} {Q : KV1} {W : KX1} (q : ∀ h', Old h h' (fun _ => False) → h'.length = h.length + 6 → Sto h' h.length [] [] → Q .non h') : wcall G (k + 1) 5 [.loc h.length] (h ++ [.ins 0 []]) Q W := by
  obtain ⟨_, _, _, _, _, _, _, _, _, _, _, _, _, n1, n2, n3, n4, n5⟩ := id T
  refine enter T.init rfl ?_
  unfold Store___init___4; decreasing_trivial
  refine ⟨by decide, ?_⟩
  unfold Store___init___3; decreasing_trivial
  refine ⟨by decide, ?_⟩
  unfold Store___init___2; decreasing_trivial
  refine ⟨by decide, ?_⟩
  unfold Store___init___1; decreasing_trivial
  unfold Store___init___0; decreasing_trivial
  refine q _ ?_ ?_ ?_
  · repeat first
      | exact Old.refl _ _
      | refine Old.setN ?_ (Nat.le_refl _)
      | refine Old.appN ?_
  · simp
  · refine ⟨?_, ?_, ?_, ?_, ?_, ?_, List.nodup_nil⟩
    · unfold stoFs; decreasing_trivial
    · decreasing_trivial
    · decreasing_trivial
    · decreasing_trivial
    · decreasing_trivial; rfl
    · decreasing_trivial
theorem node_ok (T : StoT G) {k s : Nat} {N : List Nd} {ch : List (List Key × Val)} {lv lo hi : Int} {h : MH} {Q : KV1} {W : KX1} (S : Sto h s N ch) (hl : N.length < 16777215) (q0 : lo = hi → Q (.int lo) h) (q1 : ∀ i : Nat, lo ≠ hi → N[i]? = some (lv, lo, hi) → Q (.int (2 + i)) h)
    (q2 : lo ≠ hi → (lv, lo, hi) ∉ N → ∀ h', Old h h' (fun l => s < l ∧ l < s + 5) → h'.length = h.length → Sto h' s (N ++ [(lv, lo, hi)]) ch → Q (.int (2 + N.length)) h') : wcall G (k + 1) 6 [.loc s, .int lv, .int lo, .int hi] h Q W := by
  obtain ⟨_, _, _, _, _, _, _, _, _, _, _, _, _, n1, n2, n3, n4, n5⟩ := id T
  obtain ⟨so, slv, slo, shi, snd, sch, un⟩ := id S
  unfold stoFs at so
  refine enter T.node rfl ?_
  unfold Store_node_8; decreasing_trivial
  have ll : sizeLine = 16777216 := sizeLine_eq
  split
  · rename_i e
    have q := q0 e
    clear q0 q1 q2
    subst e
    unfold Store_node_7; decreasing_trivial
  · rename_i ne
    by_cases mem : (lv, lo, hi) ∈ N
    · obtain ⟨i, ei⟩ := List.getElem?_of_mem mem
      have lk : lookM (nodesFrom 2 N) [.inl lv, .inl lo, .inl hi] = some (.int (2 + i)) := look_some un ei
      have qq := q1 i ne ei
      clear q0 q1 q2 un S T mem
      unfold Store_node_6; decreasing_trivial
      unfold Store_node_5; decreasing_trivial
      unfold Store_node_0; decreasing_trivial
    · have lk : lookM (nodesFrom 2 N) [.inl lv, .inl lo, .inl hi] = none := look_none mem
      have pk : putM (nodesFrom 2 N) [.inl lv, .inl lo, .inl hi] (.int (2 + N.length)) = nodesFrom 2 (N ++ [(lv, lo, hi)]) := by
        rw [putM_new lk]
        exact nodes_snoc (t := (lv, lo, hi))
      clear q0 q1
      have un2 : (N ++ [(lv, lo, hi)]).Nodup := by
        rw [List.nodup_append]
        refine ⟨un, by simp, fun a ha b hb => ?_⟩
        simp at hb
        subst hb
        exact fun z => mem (z ▸ ha)
      have q2 := q2 ne mem
      unfold Store_node_6; decreasing_trivial
      unfold Store_node_5; decreasing_trivial
      have h2 : N.length < 16777216 := by omega
      have h3 : (nodesFrom 2 N).length < 16777216 := by rw [nodes_len]; exact h2
      have e1 : ((N.length + 1 : Nat) : Int) + 1 = 2 + (N.length : Int) := by omega
      unfold Store_node_4; decreasing_trivial
      unfold Store_node_3; decreasing_trivial
      unfold Store_node_2; decreasing_trivial
      unfold Store_node_1; decreasing_trivial
      have lk2 : lookM (nodesFrom 2 (N ++ [(lv, lo, hi)])) [.inl lv, .inl lo, .inl hi] = some (.int (2 + N.length)) := look_some (t := (lv, lo, hi)) un2 (by rw [List.getElem?_append_right (Nat.le_refl _)]; simp)
      have q3 : Q (.int (2 + N.length)) ((((List.set h (s + 1) (MO.lst (List.map (fun t => Val.int t.1) N ++ [Val.int lv]))).set (s + 2)
              (MO.lst (List.map (fun t => Val.int t.2.1) N ++ [Val.int lo]))).set (s + 3) (MO.lst (List.map (fun t => Val.int t.2.2) N ++ [Val.int hi]))).set
      (s + 4) (MO.dT (nodesFrom 2 (N ++ [(lv, lo, hi)])))) := by
        refine q2 _ ?_ (by simp) ?_
        · exact (((Old.set (by omega)).setS (by omega)).setS (by omega)).setS (by omega)
        · refine ⟨?_, ?_, ?_, ?_, ?_, ?_, un2⟩ <;> clear q2
          · unfold stoFs; decreasing_trivial
          · rw [List.map_append]; decreasing_trivial
          · rw [List.map_append]; decreasing_trivial
          · rw [List.map_append]; decreasing_trivial
          · decreasing_trivial
          · decreasing_trivial
      unfold Store_node_0; decreasing_trivial
theorem coin_ok (T : StoT G) {k s : Nat} {N : List Nd} {ch : List (List Key × Val)} {lv : Int} {h : MH} {Q : KV1} {W : KX1} (S : Sto h s N ch) (hl : N.length < 16777215) (q1 : ∀ i : Nat, N[i]? = some (lv, 0, 1) → Q (.int (2 + i)) h)
    (q2 : (lv, 0, 1) ∉ N → ∀ h', Old h h' (fun l => s < l ∧ l < s + 5) → h'.length = h.length → Sto h' s (N ++ [(lv, 0, 1)]) ch → Q (.int (2 + N.length)) h') : wcall G (k + 2) 7 [.loc s, .int lv] h Q W := by
  have mn := T.mnode
  have so := S.o
  unfold stoFs at so
  refine enter T.coin rfl ?_
  unfold Store_coin_0
  decreasing_trivial
  exact node_ok T S hl (fun z => absurd z (by decide)) (fun i _ => q1 i) (fun _ => q2)
theorem level_ok (T : StoT G) {k s : Nat} {N : List Nd} {ch : List (List Key × Val)} {i : Nat} {t : Nd} {h : MH} {Q : KV1} {W : KX1} (S : Sto h s N ch) (e : N[i]? = some t) (q : Q (.int t.1) h) : wcall G (k + 1) 8 [.loc s, .int (2 + i)] h Q W := by
  obtain ⟨_, _, _, _, _, _, _, _, _, _, _, _, _, n1, n2, n3, n4, n5⟩ := id T
  obtain ⟨so, slv, slo, shi, snd, sch, un⟩ := id S
  unfold stoFs at so
  have h2 : ¬ (2 + (i : Int)) < 2 := by omega
  have h3 : (2 + (i : Int) - 2).toNat = i := by omega
  refine enter T.level rfl ?_
  unfold Store_level_2; decreasing_trivial
  unfold Store_level_0; decreasing_trivial
  rw [List.getElem?_map, e]
  exact q
theorem low_ok (T : StoT G) {k s : Nat} {N : List Nd} {ch : List (List Key × Val)} {i : Nat} {t : Nd} {h : MH} {Q : KV1} {W : KX1} (S : Sto h s N ch) (e : N[i]? = some t) (q : Q (.int t.2.1) h) : wcall G (k + 1) 9 [.loc s, .int (2 + i)] h Q W := by
  obtain ⟨_, _, _, _, _, _, _, _, _, _, _, _, _, n1, n2, n3, n4, n5⟩ := id T
  obtain ⟨so, slv, slo, shi, snd, sch, un⟩ := id S
  unfold stoFs at so
  have h2 : ¬ (2 + (i : Int)) < 2 := by omega
  have h3 : (2 + (i : Int) - 2).toNat = i := by omega
  refine enter T.low rfl ?_
  unfold Store_low_2; decreasing_trivial
  unfold Store_low_0; decreasing_trivial
  rw [List.getElem?_map, e]
  exact q
theorem high_ok (T : StoT G) {k s : Nat} {N : List Nd} {ch : List (List Key × Val)} {i : Nat} {t : Nd} {h : MH} {Q : KV1} {W : KX1} (S : Sto h s N ch) (e : N[i]? = some t) (q : Q (.int t.2.2) h) : wcall G (k + 1) 10 [.loc s, .int (2 + i)] h Q W := by
  obtain ⟨_, _, _, _, _, _, _, _, _, _, _, _, _, n1, n2, n3, n4, n5⟩ := id T
  obtain ⟨so, slv, slo, shi, snd, sch, un⟩ := id S
  unfold stoFs at so
  have h2 : ¬ (2 + (i : Int)) < 2 := by omega
  have h3 : (2 + (i : Int) - 2).toNat = i := by omega
  refine enter T.high rfl ?_
  unfold Store_high_2; decreasing_trivial
  unfold Store_high_0; decreasing_trivial
  rw [List.getElem?_map, e]
  exact q
theorem level_no (T : StoT G) {k s : Nat} {a : Int} {h : MH} {Q : KV1} {W : KX1} (ha : a < 2) (q : W ⟨0, []⟩ h) : wcall G (k + 1) 8 [.loc s, .int a] h Q W := by
  refine enter T.level rfl ?_
  unfold Store_level_2; decreasing_trivial
  unfold Store_level_1; decreasing_trivial
theorem low_no (T : StoT G) {k s : Nat} {a : Int} {h : MH} {Q : KV1} {W : KX1} (ha : a < 2) (q : W ⟨0, []⟩ h) : wcall G (k + 1) 9 [.loc s, .int a] h Q W := by
  refine enter T.low rfl ?_
  unfold Store_low_2; decreasing_trivial
  unfold Store_low_1; decreasing_trivial
theorem high_no (T : StoT G) {k s : Nat} {a : Int} {h : MH} {Q : KV1} {W : KX1} (ha : a < 2) (q : W ⟨0, []⟩ h) : wcall G (k + 1) 10 [.loc s, .int a] h Q W := by
  refine enter T.high rfl ?_
  unfold Store_high_2; decreasing_trivial
  unfold Store_high_1; decreasing_trivial
end
end Mn

/-! Mn14: == on lists and tuples of plain values. -/
namespace Mn
open PySem PySem.Spec PyProof.Rows L2
theorem toD_int {h : MH} {n : Nat} {i : Int} : toD h n (.int i) = some (.int i) := by cases n <;> rfl
theorem toD_ints {h : MH} {n : Nat} : ∀ xs : List Int, (xs.map Val.int).mapM (toD h n) = some (xs.map PyData.int)
  | [] => rfl
  | x :: r => by
    rw [List.map_cons, List.mapM_cons, toD_int, toD_ints r]
    rfl
theorem lay_ints : ∀ xs : List Int, PyData.canLayAll0 (xs.map PyData.int) = true
  | [] => by simp [PyData.canLayAll0]
  | x :: r => by simp [PyData.canLayAll0, PyData.canLay0, lay_ints r]
theorem dep_ints : ∀ xs : List Int, PyData.depthAll (xs.map PyData.int) = 0
  | [] => by simp [PyData.depthAll]
  | x :: r => by simp [PyData.depthAll, PyData.depth, dep_ints r]
theorem eqv_ints : ∀ xs ys : List Int, PyData.eqvAll (xs.map PyData.int) (ys.map PyData.int) = decide (xs = ys)
  | [], [] => by simp [PyData.eqvAll]
  | [], y :: s => by simp [PyData.eqvAll]
  | x :: r, [] => by simp [PyData.eqvAll]
  | x :: r, y :: s => by
    rw [List.map_cons, List.map_cons, PyData.eqvAll, eqv_ints r s, PyData.eqv]
    by_cases e : x = y
    · subst e; simp
    · simp [e]
theorem x_eqll {h : MH} {a b : Nat} {xs ys : List Int} {P : Bool → Prop} (ea : h[a]? = some (.lst (xs.map .int))) (eb : h[b]? = some (.lst (ys.map .int))) : weq (.loc a) (.loc b) h P = P (decide (xs = ys)) := by
  have e1 : ∀ {l : Nat} {zs : List Int}, h[l]? = some (.lst (zs.map .int)) → toD h 8 (.loc l) = some (.list (zs.map .int)) := fun {l zs} e => by
    show (match h[l]? with
      | some (.lst xs) => (xs.mapM (toD h 7)).map PyData.list
      | some (.rol xs) => (xs.mapM (toD h 7)).map PyData.list
      | _ => none) = _
    rw [e]
    show ((zs.map Val.int).mapM (toD h 7)).map PyData.list = _
    rw [toD_ints]; rfl
  show (match toD h 8 (.loc a), toD h 8 (.loc b) with
    | some d, some e => (SeqAt.shaped d = true ∧ SeqAt.shaped e = true) ∧ P (PyData.eqv d e)
    | _, _ => False) = _
  rw [e1 ea, e1 eb]
  have sh : ∀ zs : List Int, SeqAt.shaped (.list (zs.map .int)) = true := fun zs => by
    unfold SeqAt.shaped
    simp [PyData.canLay0, PyData.depth, lay_ints, dep_ints]
  simp only [sh, PyData.eqv, eqv_ints, true_and, and_self]
end Mn

namespace Mn.L58
open PySem PySem.Spec PyProof.Rows L2 Mn
abbrev i_law : Nat := 28
abbrev i__law_raises : Nat := 29
abbrev i__law_is_integer : Nat := 30
abbrev i__law_triple : Nat := 31
def _wall_0 : Ss := .cons .pass .nil
def _wall_1 : Ss := .cons (.whl (.e (.con (.bl true))) _wall_0) .nil
def Store_top_level_0 : Ss := .cons (.exp (.call i__wall (.cons (.con (.int 0)) .nil))) .nil
def Store_part_0 : Ss := .cons (.exp (.call i__wall (.cons (.con (.int 1)) .nil))) .nil
def Store_known_choice_0 : Ss := .cons (.exp (.call i__wall (.cons (.con (.int 2)) .nil))) .nil
def Store_choose_0 : Ss := .cons (.exp (.call i__wall (.cons (.con (.int 3)) .nil))) .nil
def Store_advance_0 : Ss := .cons (.exp (.call i__wall (.cons (.con (.int 4)) .nil))) .nil
def Store_negate_0 : Ss := .cons (.exp (.call i__wall (.cons (.con (.int 5)) .nil))) .nil
def Store_both_0 : Ss := .cons (.exp (.call i__wall (.cons (.con (.int 6)) .nil))) .nil
def Store_either_0 : Ss := .cons (.exp (.call i__wall (.cons (.con (.int 7)) .nil))) .nil
def Store_without_0 : Ss := .cons (.exp (.call i__wall (.cons (.con (.int 8)) .nil))) .nil
def Store_either_of_0 : Ss := .cons (.exp (.call i__wall (.cons (.con (.int 9)) .nil))) .nil
def Store_nodes_below_0 : Ss := .cons (.exp (.call i__wall (.cons (.con (.int 10)) .nil))) .nil
def Store_restrict_0 : Ss := .cons (.exp (.call i__wall (.cons (.con (.int 11)) .nil))) .nil
def Store_value_0 : Ss := .cons (.ret (.cmp .eq (.var 1) (.con (.int 1)))) .nil
def Store_value_1 : Ss := .cons (.asg (.nm 1) (.ite (.e (.item (.var 2) (.item (.fld (.var 0) "_levels") (.bin .sub (.var 1) (.con (.int 2)))))) (.item (.fld (.var 0) "_highs") (.bin .sub (.var 1) (.con (.int 2)))) (.item (.fld (.var 0) "_lows") (.bin .sub (.var 1) (.con (.int 2)))))) .nil
def Store_value_2 : Ss := .cons (.whl (.e (.cmp .ge (.var 1) (.con (.int 2)))) Store_value_1) Store_value_0
def Store_support_0 : Ss := .cons (.exp (.call i__wall (.cons (.con (.int 12)) .nil))) .nil
def Store_models_0 : Ss := .cons (.exp (.call i__wall (.cons (.con (.int 13)) .nil))) .nil
def Store_gap_0 : Ss := .cons (.exp (.call i__wall (.cons (.con (.int 14)) .nil))) .nil
def Store_same_as_0 : Ss := .cons (.exp (.call i__wall (.cons (.con (.int 15)) .nil))) .nil
def law_0 : Ss := .cons (.ret (.con (.bl true))) .nil
def law_1 : Ss := .cons (.ret (.con (.bl false))) .nil
def law_2 : Ss := .cons (.ite (.or (.not (.e (.call i__law_raises (.cons (.var 2) (.cons (.var 7) (.cons (.con (.int 0)) .nil)))))) (.not (.e (.call i__law_raises (.cons (.var 2) (.cons (.var 7) (.cons (.con (.int 1)) .nil))))))) law_1 .nil) .nil
def law_3 : Ss := .cons (.fr (.nm 7) (.rng1 (.con (.int 3))) law_2) law_0
def law_4 : Ss := .cons (.ret (.con (.bl false))) .nil
def law_5 : Ss := .cons (.ite (.not (.e (.call i__law_same (.cons (.var 9) (.cons (.sl (.var 6) (.some (.con (.int 1))) .none) .nil))))) law_4 .nil) .nil
def law_6 : Ss := .cons (.asg (.nm 9) (.lst (.cons (.meth "level" (.var 2) (.cons (.item (.var 6) (.con (.int 0))) .nil)) (.cons (.meth "low" (.var 2) (.cons (.item (.var 6) (.con (.int 0))) .nil)) (.cons (.meth "high" (.var 2) (.cons (.item (.var 6) (.con (.int 0))) .nil)) .nil))))) law_5
def law_7 : Ss := .cons (.fr (.nm 6) (.val (.var 3)) law_6) law_3
def law_8 : Ss := .cons (.ret (.con (.bl false))) .nil
def law_9 : Ss := .cons (.ite (.not (.e (.call i__law_same (.cons (.var 9) (.cons (.item (.var 10) (.con (.int 0))) .nil))))) law_8 .nil) .nil
def law_10 : Ss := .cons (.exp (.bm .append (.var 3) (.cons (.bin .add (.lst (.cons (.var 9) .nil)) (.var 8)) .nil))) .nil
def law_11 : Ss := .cons (.asg (.nm 4) (.var 9)) law_10
def law_12 : Ss := .cons (.ret (.con (.bl false))) .nil
def law_13 : Ss := .cons (.ite (.or (.not (.e (.call i__law_is_integer (.cons (.var 9) .nil)))) (.or (.e (.cmp .le (.var 9) (.var 4))) (.and (.e (.call i__law_same (.cons (.var 4) (.cons (.con (.int 1)) .nil)))) (.not (.e (.call i__law_same (.cons (.var 9) (.cons (.con (.int 2)) .nil)))))))) law_12 .nil) law_11
def law_14 : Ss := .cons (.ite (.e (.cmp .gt (.blt .len (.cons (.var 10) .nil)) (.con (.int 0)))) law_9 law_13) .nil
def law_15 : Ss := .cons (.asg (.nm 10) (.lst (.cons (.item (.var 8) (.con (.int 1))) .nil))) .nil
def law_16 : Ss := .cons (.ite (.e (.cmp .eq (.item (.var 8) (.con (.int 1))) (.item (.var 8) (.con (.int 2))))) law_15 .nil) law_14
def law_17 : Ss := .cons (.asg (.nm 10) (.lc (.nm 6) (.val (.var 3)) (.cons (.e (.cmp .eq (.sl (.var 6) (.some (.con (.int 1))) .none) (.var 8))) .nil) [6] (.item (.var 6) (.con (.int 0))))) law_16
def law_18 : Ss := .cons (.ret (.con (.bl false))) .nil
def law_19 : Ss := .cons (.ite (.and (.e (.cmp .eq (.item (.var 8) (.con (.int 1))) (.con (.int 0)))) (.and (.e (.cmp .eq (.item (.var 8) (.con (.int 2))) (.con (.int 1)))) (.not (.e (.call i__law_same (.cons (.meth "coin" (.var 2) (.cons (.item (.var 8) (.con (.int 0))) .nil)) (.cons (.var 9) .nil))))))) law_18 .nil) law_17
def law_20 : Ss := .cons (.asg (.nm 9) (.meth "node" (.var 2) (.cons (.item (.var 8) (.con (.int 0))) (.cons (.item (.var 8) (.con (.int 1))) (.cons (.item (.var 8) (.con (.int 2))) .nil))))) law_19
def law_21 : Ss := .cons (.asg (.nm 8) (.call i__law_triple (.cons (.var 1) (.cons (.var 3) .nil)))) law_20
def law_22 : Ss := .cons (.fr (.nm 5) (.rng1 (.call i__law_draw (.cons (.var 1) (.cons (.con (.int 15)) .nil)))) law_21) law_7
def law_23 : Ss := .cons (.asg (.nm 4) (.con (.int 1))) law_22
def law_24 : Ss := .cons (.asg (.nm 3) (.lst .nil)) law_23
def law_25 : Ss := .cons (.asg (.nm 2) (.make 0 .nil)) law_24
def law_26 : Ss := .cons (.asg (.nm 1) (.call i__law_pool (.cons (.var 0) .nil))) law_25
def _law_raises_0 : Ss := .cons (.ret (.con (.bl false))) .nil
def _law_raises_1 : Ss := .cons (.exp (.meth "level" (.var 0) (.cons (.var 2) .nil))) .nil
def _law_raises_2 : Ss := .cons (.exp (.meth "low" (.var 0) (.cons (.var 2) .nil))) .nil
def _law_raises_3 : Ss := .cons (.exp (.meth "high" (.var 0) (.cons (.var 2) .nil))) .nil
def _law_raises_4 : Ss := .cons (.ite (.e (.cmp .eq (.var 1) (.con (.int 1)))) _law_raises_2 _law_raises_3) .nil
def _law_raises_5 : Ss := .cons (.ite (.e (.cmp .eq (.var 1) (.con (.int 0)))) _law_raises_1 _law_raises_4) .nil
def _law_raises_6 : Ss := .cons (.ret (.con (.bl true))) .nil
def _law_raises_7 : Ss := .cons (.trye _law_raises_5 0 _law_raises_6) _law_raises_0
def _law_is_integer_0 : Ss := .cons (.ret (.andv (.isi (.var 0) .int) (.notv (.isi (.var 0) .bool)))) .nil
def _law_triple_0 : Ss := .cons (.ret (.lst (.cons (.var 2) (.cons (.var 4) (.cons (.item (.var 3) (.call i__law_draw (.cons (.var 0) (.cons (.blt .len (.cons (.var 3) .nil)) .nil)))) .nil))))) .nil
def _law_triple_1 : Ss := .cons (.asg (.nm 4) (.item (.var 3) (.call i__law_draw (.cons (.var 0) (.cons (.blt .len (.cons (.var 3) .nil)) .nil))))) _law_triple_0
def _law_triple_2 : Ss := .cons (.asg (.nm 3) (.bin .add (.lst (.cons (.con (.int 0)) (.cons (.con (.int 1)) (.cons (.con (.int 0)) (.cons (.con (.int 1)) .nil))))) (.lc (.nm 5) (.val (.var 1)) (.cons (.e (.cmp .gt (.item (.var 5) (.con (.int 1))) (.var 2))) .nil) [5] (.item (.var 5) (.con (.int 0)))))) _law_triple_1
def _law_triple_3 : Ss := .cons (.asg (.nm 2) (.call i__law_draw (.cons (.var 0) (.cons (.con (.int 1000000000)) .nil)))) .nil
def _law_triple_4 : Ss := .cons (.ite (.e (.cmp .eq (.call i__law_draw (.cons (.var 0) (.cons (.con (.int 6)) .nil))) (.con (.int 0)))) _law_triple_3 .nil) _law_triple_2
def _law_triple_5 : Ss := .cons (.asg (.nm 2) (.call i__law_draw (.cons (.var 0) (.cons (.con (.int 10)) .nil)))) _law_triple_4
def _law_triple_6 : Ss := .cons (.ret (.blt .list (.cons (.sl (.item (.var 1) (.call i__law_draw (.cons (.var 0) (.cons (.blt .len (.cons (.var 1) .nil)) .nil)))) (.some (.con (.int 1))) .none) .nil))) .nil
def _law_triple_7 : Ss := .cons (.ite (.and (.e (.cmp .gt (.blt .len (.cons (.var 1) .nil)) (.con (.int 0)))) (.e (.cmp .eq (.call i__law_draw (.cons (.var 0) (.cons (.con (.int 5)) .nil))) (.con (.int 0))))) _law_triple_6 .nil) _law_triple_5
def fd__wall : FnD := ⟨1, 1, _wall_1⟩
def fd_Store_top_level : FnD := ⟨2, 2, Store_top_level_0⟩
def fd_Store_part : FnD := ⟨4, 4, Store_part_0⟩
def fd_Store_known_choice : FnD := ⟨2, 2, Store_known_choice_0⟩
def fd_Store_choose : FnD := ⟨4, 4, Store_choose_0⟩
def fd_Store_advance : FnD := ⟨3, 3, Store_advance_0⟩
def fd_Store_negate : FnD := ⟨2, 2, Store_negate_0⟩
def fd_Store_both : FnD := ⟨3, 3, Store_both_0⟩
def fd_Store_either : FnD := ⟨3, 3, Store_either_0⟩
def fd_Store_without : FnD := ⟨3, 3, Store_without_0⟩
def fd_Store_either_of : FnD := ⟨2, 2, Store_either_of_0⟩
def fd_Store_nodes_below : FnD := ⟨2, 2, Store_nodes_below_0⟩
def fd_Store_restrict : FnD := ⟨4, 4, Store_restrict_0⟩
def fd_Store_value : FnD := ⟨3, 3, Store_value_2⟩
def fd_Store_support : FnD := ⟨2, 2, Store_support_0⟩
def fd_Store_models : FnD := ⟨3, 3, Store_models_0⟩
def fd_Store_gap : FnD := ⟨4, 4, Store_gap_0⟩
def fd_Store_same_as : FnD := ⟨4, 4, Store_same_as_0⟩
def fd_law : FnD := ⟨1, 11, law_26⟩
def fd__law_raises : FnD := ⟨3, 3, _law_raises_7⟩
def fd__law_is_integer : FnD := ⟨1, 1, _law_is_integer_0⟩
def fd__law_triple : FnD := ⟨2, 6, _law_triple_7⟩
def flds : List Str := ["_chosen", "_highs", "_levels", "_lows", "_nodes"]
def G : Tab := { fns := [fd__law_pool, fd__law_spread, fd__law_draw, fd__law_same, fd__wall, fd_Store___init__, fd_Store_node, fd_Store_coin, fd_Store_level, fd_Store_low, fd_Store_high, fd_Store_top_level, fd_Store_part, fd_Store_known_choice, fd_Store_choose, fd_Store_advance, fd_Store_negate, fd_Store_both, fd_Store_either, fd_Store_without, fd_Store_either_of, fd_Store_nodes_below, fd_Store_restrict, fd_Store_value, fd_Store_support, fd_Store_models, fd_Store_gap, fd_Store_same_as, fd_law, fd__law_raises, fd__law_is_integer, fd__law_triple], cls := [(some i_Store___init__, [("advance", i_Store_advance), ("both", i_Store_both), ("choose", i_Store_choose), ("coin", i_Store_coin), ("either", i_Store_either), ("either_of", i_Store_either_of), ("gap", i_Store_gap), ("high", i_Store_high), ("known_choice", i_Store_known_choice), ("level", i_Store_level), ("low", i_Store_low), ("models", i_Store_models), ("negate", i_Store_negate), ("node", i_Store_node), ("nodes_below", i_Store_nodes_below), ("part", i_Store_part), ("restrict", i_Store_restrict), ("same_as", i_Store_same_as), ("support", i_Store_support), ("top_level", i_Store_top_level), ("value", i_Store_value), ("without", i_Store_without)])], sub := fun x y => (x == 0 && y == 0), na := fun c f => decide (c < 1) && flds.contains f, nx := 1 }

theorem stoT : StoT G := { pool := rfl, spread := rfl, draw := rfl, same := rfl, init := rfl, node := rfl, coin := rfl, level := rfl, low := rfl, high := rfl, cls := ⟨_, rfl⟩, mnode := (by decide +kernel), mcoin := (by decide +kernel), mlevel := (by decide +kernel), mlow := (by decide +kernel), mhigh := (by decide +kernel), n1 := (by decide +kernel), n2 := (by decide +kernel), n3 := (by decide +kernel), n4 := (by decide +kernel), n5 := (by decide +kernel) }
end Mn.L58

namespace Mn.L58
open PySem PySem.Spec PyProof.Rows L2 Mn
local macro_rules
  | `(tactic| decreasing_trivial) => `(tactic| try simp (disch := omega) only [*, ss_nil, ss_cons, s_exp, s_ret, s_retN, s_asg, s_ite, s_brk, s_cnt, s_pass, s_raise, s_try, s_fr, s_whl, e_var, e_con, e_bin, e_cmp, e_neg, e_notv, e_andv, e_orv, e_ite, e_tup, e_lst, e_dnewT, e_dnewK, e_item, e_sl, e_fld, e_call, e_make, e_meth, e_blt, e_bm, e_isi, o_none, o_some, es_nil, es_cons, t_e, t_not, t_and, t_or, bs_nil, bs_cons,
    g_nm, g_tup, g_sub, g_fld, gs_nil, gs_cons, e_lc, wipeM, i_val, i_rng1, i_rng2, i_enum, cm_succ,
    x_addi, x_adds, x_addt, x_addl, x_sub, x_mul, x_fdiv, x_mod, x_shr, x_shl, x_band, x_bor, x_eq, x_ne, x_lt, x_le, x_gt, x_ge, x_in, x_notin, x_isN, x_isi, x_isb, x_iss, x_ist, x_isl, x_isnN, x_isni, x_isnb, x_isns, x_isnt, x_isnl, x_eqi, x_eqs, x_eqb, x_eqn, x_tn, x_tb, x_ti, x_ts, x_tt, x_tl, x_itt, x_itl, x_its, x_at, x_slt, x_sll, x_lent, x_lens, x_lenl,
    x_int, x_intb, x_abs, x_max2, x_min2, x_list, x_tuple, x_str, x_seqt, x_seql, x_app, x_pop, x_get, x_kap, x_kpop, x_kget, x_isM_n, x_isM_b, x_isM_i, x_isM_s, x_isM_t, x_isM_l, x_set, x_putL, x_fset, x_there, h_app, h_set, h_none, cut_map, cut_1, eq_self, List.set_set, List.getElem?_set_ne, fg_nil, fg_cons, fp_nil, fp_cons, ofStr_inj, x_winl, x_wint, x_gKi, x_gKs, x_gT, x_putT, x_putKi, x_putKs, x_key2, x_key3, x_thN, Option.isSome_some, Option.isSome_none, ix_pos, at_nn, tBl, tIn, tSt, tTu, tLi,
    List.map_cons, List.map_nil, List.length_cons, List.length_nil, List.cons_append, List.nil_append, List.replicate, List.getElem?_cons_zero, List.getElem?_cons_succ, List.set, List.length_set, List.length_map, List.length_append, Int.reduceToNat, Option.map_some, Option.some_or, Option.none_or, ne_eq, reduceCtorEq, not_false_eq_true, true_and, and_true, and_self, if_true, if_false, ite_true, ite_false, Bool.not_true, Bool.not_false, Bool.false_eq_true, Bool.true_eq_false, Int.reduceLT, Int.reduceLE, Int.reduceEq, Int.reduceNeg, Int.reduceAdd, Int.reduceSub, Int.reduceMul, Int.reducePow, Nat.reduceAdd, Nat.reduceSub, Nat.reduceLT, Nat.reduceLeDiff, String.reduceEq, decide_true, decide_false, Bool.not_eq_true', decide_eq_true_eq, decide_eq_false_iff_not, not_true_eq_false, if_pos, if_neg, ↓reduceIte])

theorem isint_ok {k : Nat} {i : Int} {h : MH} {Q : KV1} {W : KX1} (q : Q (.bl true) h) : wcall G (k + 1) 30 [.int i] h Q W := by
  refine enter (show G.fns[30]? = some fd__law_is_integer from rfl) rfl ?_
  unfold _law_is_integer_0; decreasing_trivial
theorem raises_ok {k s : Nat} {w a : Int} {N : List Nd} {ch : List (List Key × Val)} {h : MH} {Q : KV1} {W : KX1} (S : Sto h s N ch) (ha : a < 2) (q : Q (.bl true) h) : wcall G (k + 2) 29 [.loc s, .int w, .int a] h Q W := by
  have m1 := stoT.mlevel
  have m2 := stoT.mlow
  have m3 := stoT.mhigh
  have so := S.o
  unfold stoFs at so
  have hs : G.sub 0 0 = true := rfl
  refine enter (show G.fns[29]? = some fd__law_raises from rfl) rfl ?_
  unfold _law_raises_7; decreasing_trivial
  unfold _law_raises_5; decreasing_trivial
  split
  · unfold _law_raises_1; decreasing_trivial
    refine level_no stoT ha ?_
    decreasing_trivial
    unfold _law_raises_6; decreasing_trivial
  · unfold _law_raises_4; decreasing_trivial
    split
    · unfold _law_raises_2; decreasing_trivial
      refine low_no stoT ha ?_
      decreasing_trivial
      unfold _law_raises_6; decreasing_trivial
    · unfold _law_raises_3; decreasing_trivial
      refine high_no stoT ha ?_
      decreasing_trivial
      unfold _law_raises_6; decreasing_trivial
/-! the rows: one list for each node -/
def Rws (h : MH) (base : Nat) (rl : List Val) (N : List Nd) : Prop := rl.length = N.length ∧ ∀ (i : Nat) (t : Nd), N[i]? = some t → ∃ l, rl[i]? = some (.loc l) ∧ base ≤ l ∧ h[l]? = some (.lst [.int (2 + i), .int t.1, .int t.2.1, .int t.2.2])
theorem Rws.old {h h' : MH} {base : Nat} {rl : List Val} {N : List Nd} {S : Nat → Prop} (a : Rws h base rl N) (o : Old h h' S) (n : ∀ l, base ≤ l → ¬ S l) : Rws h' base rl N :=
  ⟨a.1, fun i t e => let ⟨l, h1, h2, h3⟩ := a.2 i t e; ⟨l, h1, h2, o.2 _ _ (n l h2) h3⟩⟩
theorem triple_ok {k p c r base : Nat} {rl : List Val} {N : List Nd} {h : MH} {Q : KV1} {W : KX1} (hp : Pool h p c) (hr : h[r]? = some (.lst rl)) (R : Rws h base rl N) (hpb : p < base) (hrp : r ≠ p) (hN : N.length < 1000)
    (q : ∀ (l : Nat) (lv lo hi : Int) h', Old h h' (· = p) → Pool h' p c → h.length ≤ l → h'[l]? = some (.lst [.int lv, .int lo, .int hi]) → Q (.loc l) h') : wcall G (k + 3) 31 [.loc p, .loc r] h Q W := by
  refine enter (show G.fns[31]? = some fd__law_triple from rfl) rfl ?_
  have hpl : p < h.length := let ⟨_, _, _, _, _, e, _⟩ := hp; h_lt e
  unfold _law_triple_7; decreasing_trivial
  have rest : ∀ h1 : MH, Old h h1 (· = p) → Pool h1 p c → wss G (wcall G (k + 2)) (wcall G (k + 1)) _law_triple_5 [some (.loc p), some (.loc r), none, none, none, none] h1 { nx := fun _ h' => Q .non h', rt := Q, ex := fun x _ h' => W x h' } := by
    intro h1 o1 p1
    unfold _law_triple_5; decreasing_trivial
    refine draw_ok stoT.toLibT p1 (by decide) fun lv h2 _ _ _ o2 p2 => ?_
    decreasing_trivial
    have o2 := o1.trans o2
    clear o1 p1
    have fit : ∀ (lv : Int) (h3 : MH), Old h h3 (· = p) → Pool h3 p c → wss G (wcall G (k + 2)) (wcall G (k + 1)) _law_triple_2 [some (.loc p), some (.loc r), some (.int lv), none, none, none] h3 { nx := fun _ h' => Q .non h', rt := Q, ex := fun x _ h' => W x h' } := by
      intro lv h3 o3 p3
      have hr3 := o3.2 _ _ hrp hr
      have hl3 := o3.1
      have R3 := R.old o3 (fun l hl z => by omega)
      clear hr R
      have ll : sizeLine = 16777216 := sizeLine_eq
      unfold _law_triple_2; decreasing_trivial
      refine lcs_go (xs := rl) (fun i h' => Old h3 h' (fun _ => False) ∧ h'.length = h3.length + 2 ∧ h'[h3.length]? = some (.lst [.int 0, .int 1, .int 0, .int 1]) ∧ ∃ zs : List Int, zs.length ≤ i ∧ h'[h3.length + 1]? = some (.lst (zs.map .int))) ?_ ?_ ?_ ?_
      · refine ⟨Old.app.appN, by simp, ?_, [], by simp, ?_⟩
        · decreasing_trivial
        · decreasing_trivial
      · rintro i h4 ⟨o4, l4, e1, zs, lz, e2⟩
        have := o4.2 _ _ (fun z => z) hr3
        decreasing_trivial
      · rintro i v h4 hv ⟨o4, l4, e1, zs, lz, e2⟩
        have hi : i < rl.length := (List.getElem?_eq_some_iff.mp hv).1
        have hl2 := R3.1
        obtain ⟨l, h5, h6, h7⟩ := R3.2 i N[i] (List.getElem?_eq_getElem (by omega))
        rw [hv] at h5
        cases h5
        have h8 := o4.2 _ _ (fun z => z) h7
        clear h7 hv R3
        decreasing_trivial
        split
        · refine ⟨by omega, lc_next (by omega) ⟨o4.setN (by omega), by simpa using l4, ?_, zs ++ [2 + (i : Int)], by simp; omega, ?_⟩⟩
          · decreasing_trivial
          · rw [h_set, e2]; simp
        · exact lc_next (by omega) ⟨o4, l4, e1, zs, by omega, e2⟩
      · rintro h4 ⟨o4, l4, e1, zs, lz, e2⟩
        have hl2 := R3.1
        have p4 := p3.old o4 (fun z => z) (fun z => z)
        have o34 := o3.trans (o4.mono (fun l z => z.elim))
        clear hr3 R3 o3 p3 o4
        decreasing_trivial
        refine ⟨by omega, ?_⟩
        have lw : ((0 : Int) :: 1 :: 0 :: 1 :: zs).length = 4 + zs.length := by simp; omega
        have e5 : (h4 ++ [MO.lst (((0 : Int) :: 1 :: 0 :: 1 :: zs).map .int)])[h3.length + 2]? = some (.lst (((0 : Int) :: 1 :: 0 :: 1 :: zs).map .int)) := by decreasing_trivial
        have p5 := p4.old (S := fun _ => False) (Old.app (o := .lst (((0 : Int) :: 1 :: 0 :: 1 :: zs).map .int))) (fun z => z) (fun z => z)
        have o5 := o34.appN (o := .lst (((0 : Int) :: 1 :: 0 :: 1 :: zs).map .int))
        have l5 : h3.length + 2 < (h4 ++ [MO.lst (((0 : Int) :: 1 :: 0 :: 1 :: zs).map .int)]).length := h_lt e5
        show wss G (wcall G (k + 2)) (wcall G (k + 1)) _law_triple_1 _ (h4 ++ [MO.lst (((0 : Int) :: 1 :: 0 :: 1 :: zs).map .int)]) _
        generalize (h4 ++ [MO.lst (((0 : Int) :: 1 :: 0 :: 1 :: zs).map .int)]) = h5 at e5 p5 o5 l5 ⊢
        generalize ((0 : Int) :: 1 :: 0 :: 1 :: zs) = ws at lw e5
        have l3 : h.length ≤ h3.length := hl3
        clear o34 p4 e1 e2 l4 hl3
        have np : h3.length + 2 ≠ p := by omega
        unfold _law_triple_1; decreasing_trivial
        refine draw_ok stoT.toLibT p5 ⟨by omega, by omega⟩ fun v h6 v0 v1 l6 o6 p6 => ?_
        have e6 := o6.2 _ _ np e5
        have o6 := o5.trans o6
        have ev : ws[v.toNat]? = some ws[v.toNat] := List.getElem?_eq_getElem (by omega)
        clear e5 p5 o5
        decreasing_trivial
        rw [List.getElem?_map, ev]
        unfold _law_triple_0; decreasing_trivial
        refine draw_ok stoT.toLibT p6 ⟨by omega, by omega⟩ fun u h7 u0 u1 l7 o7 p7 => ?_
        have e7 := o7.2 _ _ np e6
        have o7 := o6.trans o7
        have eu : ws[u.toNat]? = some ws[u.toNat] := List.getElem?_eq_getElem (by omega)
        clear e6 p6 o6
        decreasing_trivial
        rw [List.getElem?_map, eu]
        have q1 := q h7.length lv ws[v.toNat] ws[u.toNat] (h7 ++ [.lst [.int lv, .int ws[v.toNat], .int ws[u.toNat]]]) o7.appN (p7.old (S := fun _ => False) Old.app (fun z => z) (fun z => z)) (by omega) (by rw [h_app, h_none (Nat.le_refl _)]; simp)
        rw [l7, l6] at q1
        decreasing_trivial
    unfold _law_triple_4; decreasing_trivial
    refine draw_ok stoT.toLibT p2 (by decide) fun z h3 _ _ _ o3 p3 => ?_
    decreasing_trivial
    have o3 := o2.trans o3
    split
    · unfold _law_triple_3; decreasing_trivial
      refine draw_ok stoT.toLibT p3 (by decide) fun lv h4 _ _ _ o4 p4 => ?_
      decreasing_trivial
      exact fit _ _ (o3.trans o4) p4
    · exact fit _ _ o3 p3
  split
  · rename_i hl
    refine draw_ok stoT.toLibT hp (by decide) fun z h1 _ _ _ o1 p1 => ?_
    decreasing_trivial
    split
    · have hr1 := o1.2 _ _ hrp hr
      have R1 := R.old o1 (fun l hl z => by omega)
      clear hr R rest
      unfold _law_triple_6; decreasing_trivial
      have hl2 := R1.1
      refine draw_ok stoT.toLibT p1 ⟨by omega, by omega⟩ fun v h2 v0 v1 _ o2 p2 => ?_
      have hr2 := o2.2 _ _ hrp hr1
      have R2 := R1.old o2 (fun l hl z => by omega)
      obtain ⟨l, h4, h5, h6⟩ := R2.2 v.toNat N[v.toNat] (List.getElem?_eq_getElem (by omega))
      have o12 := o1.trans o2
      clear hr1 R1 R2 o1 p1 o2
      decreasing_trivial
      refine q (h.length + 1) N[v.toNat].1 N[v.toNat].2.1 N[v.toNat].2.2 _ ((o12.appN).appN) (p2.old (S := fun _ => False) (Old.app.trans Old.app) (fun z => z) (fun z => z)) ?_ ?_
      · omega
      · decreasing_trivial
    · first | trivial | exact rest _ o1 p1
  · first | trivial | exact rest _ (Old.refl _ _) hp
end Mn.L58

namespace Mn.L58
open PySem PySem.Spec PyProof.Rows L2 Mn
local macro_rules
  | `(tactic| decreasing_trivial) => `(tactic| try simp (disch := omega) only [*, ss_nil, ss_cons, s_exp, s_ret, s_retN, s_asg, s_ite, s_brk, s_cnt, s_pass, s_raise, s_try, s_fr, s_whl, e_var, e_con, e_bin, e_cmp, e_neg, e_notv, e_andv, e_orv, e_ite, e_tup, e_lst, e_dnewT, e_dnewK, e_item, e_sl, e_fld, e_call, e_make, e_meth, e_blt, e_bm, e_isi, o_none, o_some, es_nil, es_cons, t_e, t_not, t_and, t_or, bs_nil, bs_cons,
    g_nm, g_tup, g_sub, g_fld, gs_nil, gs_cons, e_lc, wipeM, i_val, i_rng1, i_rng2, i_enum, cm_succ,
    x_addi, x_adds, x_addt, x_addl, x_sub, x_mul, x_fdiv, x_mod, x_shr, x_shl, x_band, x_bor, x_eq, x_ne, x_lt, x_le, x_gt, x_ge, x_in, x_notin, x_isN, x_isi, x_isb, x_iss, x_ist, x_isl, x_isnN, x_isni, x_isnb, x_isns, x_isnt, x_isnl, x_eqi, x_eqs, x_eqb, x_eqn, x_tn, x_tb, x_ti, x_ts, x_tt, x_tl, x_itt, x_itl, x_its, x_at, x_slt, x_sll, x_lent, x_lens, x_lenl,
    x_int, x_intb, x_abs, x_max2, x_min2, x_list, x_tuple, x_str, x_seqt, x_seql, x_app, x_pop, x_get, x_kap, x_kpop, x_kget, x_isM_n, x_isM_b, x_isM_i, x_isM_s, x_isM_t, x_isM_l, x_set, x_putL, x_fset, x_there, h_app, h_set, h_none, cut_map, cut_1, eq_self, List.set_set, List.getElem?_set_ne, fg_nil, fg_cons, fp_nil, fp_cons, ofStr_inj, x_winl, x_wint, x_gKi, x_gKs, x_gT, x_putT, x_putKi, x_putKs, x_key2, x_key3, x_thN, Option.isSome_some, Option.isSome_none, ix_pos, at_nn, tBl, tIn, tSt, tTu, tLi,
    List.map_cons, List.map_nil, List.length_cons, List.length_nil, List.cons_append, List.nil_append, List.replicate, List.getElem?_cons_zero, List.getElem?_cons_succ, List.set, List.length_set, List.length_map, List.length_append, Int.reduceToNat, Option.map_some, Option.some_or, Option.none_or, ne_eq, reduceCtorEq, not_false_eq_true, true_and, and_true, and_self, if_true, if_false, ite_true, ite_false, Bool.not_true, Bool.not_false, Bool.false_eq_true, Bool.true_eq_false, Int.reduceLT, Int.reduceLE, Int.reduceEq, Int.reduceNeg, Int.reduceAdd, Int.reduceSub, Int.reduceMul, Int.reducePow, Nat.reduceAdd, Nat.reduceSub, Nat.reduceLT, Nat.reduceLeDiff, String.reduceEq, decide_true, decide_false, Bool.not_eq_true', decide_eq_true_eq, decide_eq_false_iff_not, not_true_eq_false, if_pos, if_neg, ↓reduceIte])

section
variable {k : Nat} {Q : KV1} {W : KX1} {o0 o1 o2 o3 o4 o5 o6 o7 o8 o9 o10 : Option Val}
abbrev D0 (Q : KV1) (W : KX1) : Ed := { nx := fun _ h' => Q .non h', rt := Q, ex := fun x _ h' => W x h' }
theorem law3 (hq : ∀ h, Q (.bl true) h) {h : MH} {s : Nat} {N : List Nd} {ch : List (List Key × Val)} (S : Sto h s N ch) : wss G (wcall G (k + 10)) (wcp G (k + 10)).2 law_3 [o0, o1, some (.loc s), o3, o4, o5, o6, o7, o8, o9, o10] h (D0 Q W) := by
  unfold law_3; decreasing_trivial
  refine rng_go (fun _ env h' => h' = h ∧ ∃ o7, env = [o0, o1, some (.loc s), o3, o4, o5, o6, o7, o8, o9, o10]) ⟨rfl, _, rfl⟩ ?_ ?_
  · rintro i env h' hi ⟨rfl, o7, rfl⟩
    unfold law_2; decreasing_trivial
    refine raises_ok S (by decide) ?_
    decreasing_trivial
    refine raises_ok S (by decide) ?_
    decreasing_trivial
    exact lp_next hi ⟨rfl, _, rfl⟩
  · rintro env h' ⟨rfl, o7, rfl⟩
    unfold law_0; decreasing_trivial
theorem law7 (hq : ∀ h, Q (.bl true) h) {h : MH} {s r : Nat} {N : List Nd} {ch : List (List Key × Val)} {rl : List Val} {base : Nat} (S : Sto h s N ch) (hr : h[r]? = some (.lst rl)) (R : Rws h base rl N) :
    wss G (wcall G (k + 10)) (wcp G (k + 10)).2 law_7 [o0, o1, some (.loc s), some (.loc r), o4, o5, o6, o7, o8, o9, o10] h (D0 Q W) := by
  have ll : sizeLine = 16777216 := sizeLine_eq
  unfold law_7; decreasing_trivial
  refine seq_go (xs := rl) (fun _ env h' => Old h h' (fun _ => False) ∧ ∃ o6 o9, env = [o0, o1, some (.loc s), some (.loc r), o4, o5, o6, o7, o8, o9, o10]) ⟨Old.refl _ _, _, _, rfl⟩ ?_ ?_ ?_
  · rintro i env h' ⟨o, o6, o9, rfl⟩
    have := o.2 _ _ (fun z => z) hr
    decreasing_trivial
  · rintro i v env h' hv ⟨o, o6, o9, rfl⟩
    have hi : i < rl.length := (List.getElem?_eq_some_iff.mp hv).1
    have hl2 := R.1
    have en : N[i]? = some N[i] := List.getElem?_eq_getElem (by omega)
    obtain ⟨l, h5, h6, h7⟩ := R.2 i _ en
    rw [hv] at h5
    cases h5
    have h8 := o.2 _ _ (fun z => z) h7
    have S2 := S.old o (fun _ _ _ z => z)
    have so := S2.o
    unfold stoFs at so
    have m1 := stoT.mlevel
    have m2 := stoT.mlow
    have m3 := stoT.mhigh
    clear h7 hv
    unfold law_6; decreasing_trivial
    refine level_ok stoT S2 en ?_
    decreasing_trivial
    refine low_ok stoT S2 en ?_
    decreasing_trivial
    refine high_ok stoT S2 en ?_
    decreasing_trivial
    unfold law_5; decreasing_trivial
    refine same_ints stoT.toLibT (xs := [N[i].1, N[i].2.1, N[i].2.2]) (ys := [N[i].1, N[i].2.1, N[i].2.2]) ?_ ?_ (by simp) ?_
    · decreasing_trivial
    · decreasing_trivial
    · decreasing_trivial
      exact lp_next (by omega) ⟨o.appN.appN, _, _, rfl⟩
  · rintro env h' ⟨o, o6, o9, rfl⟩
    exact law3 hq (S.old o (fun _ _ _ z => z))
end
end Mn.L58

namespace Mn.L58
open PySem PySem.Spec PyProof.Rows L2 Mn
local macro_rules
  | `(tactic| decreasing_trivial) => `(tactic| try simp (disch := omega) only [*, ss_nil, ss_cons, s_exp, s_ret, s_retN, s_asg, s_ite, s_brk, s_cnt, s_pass, s_raise, s_try, s_fr, s_whl, e_var, e_con, e_bin, e_cmp, e_neg, e_notv, e_andv, e_orv, e_ite, e_tup, e_lst, e_dnewT, e_dnewK, e_item, e_sl, e_fld, e_call, e_make, e_meth, e_blt, e_bm, e_isi, o_none, o_some, es_nil, es_cons, t_e, t_not, t_and, t_or, bs_nil, bs_cons,
    g_nm, g_tup, g_sub, g_fld, gs_nil, gs_cons, e_lc, wipeM, i_val, i_rng1, i_rng2, i_enum, cm_succ,
    x_addi, x_adds, x_addt, x_addl, x_sub, x_mul, x_fdiv, x_mod, x_shr, x_shl, x_band, x_bor, x_eq, x_ne, x_lt, x_le, x_gt, x_ge, x_in, x_notin, x_isN, x_isi, x_isb, x_iss, x_ist, x_isl, x_isnN, x_isni, x_isnb, x_isns, x_isnt, x_isnl, x_eqi, x_eqs, x_eqb, x_eqn, x_tn, x_tb, x_ti, x_ts, x_tt, x_tl, x_itt, x_itl, x_its, x_at, x_slt, x_sll, x_lent, x_lens, x_lenl,
    x_int, x_intb, x_abs, x_max2, x_min2, x_list, x_tuple, x_str, x_seqt, x_seql, x_app, x_pop, x_get, x_kap, x_kpop, x_kget, x_isM_n, x_isM_b, x_isM_i, x_isM_s, x_isM_t, x_isM_l, x_set, x_putL, x_fset, x_there, h_app, h_set, h_none, cut_map, cut_1, eq_self, List.set_set, List.getElem?_set_ne, fg_nil, fg_cons, fp_nil, fp_cons, ofStr_inj, x_winl, x_wint, x_gKi, x_gKs, x_gT, x_putT, x_putKi, x_putKs, x_key2, x_key3, x_thN, Option.isSome_some, Option.isSome_none, ix_pos, at_nn, tBl, tIn, tSt, tTu, tLi,
    List.map_cons, List.map_nil, List.length_cons, List.length_nil, List.cons_append, List.nil_append, List.replicate, List.getElem?_cons_zero, List.getElem?_cons_succ, List.set, List.length_set, List.length_map, List.length_append, Int.reduceToNat, Option.map_some, Option.some_or, Option.none_or, ne_eq, reduceCtorEq, not_false_eq_true, true_and, and_true, and_self, if_true, if_false, ite_true, ite_false, Bool.not_true, Bool.not_false, Bool.false_eq_true, Bool.true_eq_false, Int.reduceLT, Int.reduceLE, Int.reduceEq, Int.reduceNeg, Int.reduceAdd, Int.reduceSub, Int.reduceMul, Int.reducePow, Nat.reduceAdd, Nat.reduceSub, Nat.reduceLT, Nat.reduceLeDiff, String.reduceEq, decide_true, decide_false, Bool.not_eq_true', decide_eq_true_eq, decide_eq_false_iff_not, not_true_eq_false, if_pos, if_neg, ↓reduceIte])

section
variable {k : Nat} {Q : KV1} {W : KX1} {o0 o1 o2 o3 o4 o5 o6 o7 o8 o9 o10 : Option Val} {D : Ed} {h : MH} {N : List Nd} {rl : List Val} {l : Nat} {lv lo hi : Int}
def Kn (N : List Nd) (t : Nd) (zs : List Int) : Prop := zs.length ≤ N.length ∧ (∀ j : Nat, N[j]? = some t → zs = [2 + (j : Int)]) ∧ (t ∉ N → zs = [])
theorem nod_inj {N : List Nd} {t : Nd} (n : N.Nodup) {i j : Nat} (a : N[i]? = some t) (b : N[j]? = some t) : i = j := by
  have ha := (List.getElem?_eq_some_iff.mp a)
  have hb := (List.getElem?_eq_some_iff.mp b)
  obtain ⟨h1, e1⟩ := ha
  obtain ⟨h2, e2⟩ := hb
  exact (List.getElem_inj n).mp (e1.trans e2.symm)
theorem law17 (un : N.Nodup) (hN : N.length < 1000) (hr : h[10]? = some (.lst rl)) (R : Rws h 11 rl N) (hl : h[l]? = some (.lst [.int lv, .int lo, .int hi]))
    (q : ∀ zs h', Old h h' (fun _ => False) → h'[h.length]? = some (.lst (zs.map .int)) → Kn N (lv, lo, hi) zs → wss G (wcall G (k + 10)) (wcp G (k + 10)).2 law_16 [o0, o1, o2, some (.loc 10), o4, o5, o6, o7, some (.loc l), o9, some (.loc h.length)] h' D) :
    wss G (wcall G (k + 10)) (wcp G (k + 10)).2 law_17 [o0, o1, o2, some (.loc 10), o4, o5, o6, o7, some (.loc l), o9, o10] h D := by
  have ll : sizeLine = 16777216 := sizeLine_eq
  have hl2 := R.1
  have hll := h_lt hl
  unfold law_17; decreasing_trivial
  refine lcs_go (xs := rl) (fun i h' => Old h h' (fun _ => False) ∧ h.length < h'.length ∧ ∃ zs : List Int, zs.length ≤ i ∧ h'[h.length]? = some (.lst (zs.map .int)) ∧ (∀ j : Nat, N[j]? = some (lv, lo, hi) → zs = if j < i then [2 + (j : Int)] else []) ∧ ((lv, lo, hi) ∉ N → zs = [])) ?_ ?_ ?_ ?_
  · refine ⟨Old.app, by simp, [], by simp, by decreasing_trivial, fun j _ => by simp, fun _ => rfl⟩
  · rintro i h' ⟨o, lt, zs, lz, e, z1, z2⟩
    have := o.2 _ _ (fun z => z) hr
    decreasing_trivial
  · rintro i v h' hv ⟨o, lt, zs, lz, e, z1, z2⟩
    have hii : i < N.length := by have := (List.getElem?_eq_some_iff.mp hv).1; omega
    have en : N[i]? = some N[i] := List.getElem?_eq_getElem (by omega)
    obtain ⟨m, h5, h6, h7⟩ := R.2 i _ en
    rw [hv] at h5
    cases h5
    have h8 := o.2 _ _ (fun z => z) h7
    have hl8 := o.2 _ _ (fun z => z) hl
    have hm8 := h_lt h8
    clear h7 hv
    have ex : ∀ P : Bool → Prop, weq (.loc h'.length) (.loc l) (h' ++ [.lst [.int N[i].1, .int N[i].2.1, .int N[i].2.2]]) P = P (decide ([N[i].1, N[i].2.1, N[i].2.2] = [lv, lo, hi])) := fun P =>
      x_eqll (xs := [N[i].1, N[i].2.1, N[i].2.2]) (ys := [lv, lo, hi]) (by decreasing_trivial) (by decreasing_trivial)
    decreasing_trivial
    split
    · rename_i he
      have et : N[i] = (lv, lo, hi) := by
        simp at he
        obtain ⟨a, b, c⟩ := he
        exact Prod.ext a (Prod.ext b c)
      have ez : zs = [] := by
        have := z1 i (by rw [en, et])
        rwa [if_neg (by omega)] at this
      subst ez
      refine ⟨by simp, lc_next (by omega) ⟨(o.appN).setN (by omega), by simp; omega, [2 + (i : Int)], by simp, ?_, fun j hj => ?_, fun z => ?_⟩⟩
      · rw [h_set, h_app, e]; simp
      · have : j = i := nod_inj un hj (by rw [en, et])
        subst this
        rw [if_pos (by omega)]
      · exact absurd (by rw [← et]; exact List.getElem_mem hii) z
    · rename_i he
      refine lc_next (by omega) ⟨o.appN, by simp; omega, zs, by omega, ?_, fun j hj => ?_, z2⟩
      · rw [h_app, e]; rfl
      · have : j ≠ i := fun z => by
          subst z
          rw [en] at hj
          apply he
          have := Option.some.inj hj
          rw [this]
        rw [z1 j hj]
        by_cases c : j < i
        · rw [if_pos c, if_pos (by omega)]
        · rw [if_neg c, if_neg (by omega)]
  · rintro h' ⟨o, lt, zs, lz, e, z1, z2⟩
    refine q zs h' o e ⟨by omega, fun j hj => ?_, z2⟩
    have := (List.getElem?_eq_some_iff.mp hj).1
    rw [z1 j hj, if_pos (by omega)]
theorem law16E {kl : Nat} {zs : List Int} (hl : h[l]? = some (.lst [.int lv, .int lo, .int lo])) (hk : h[kl]? = some (.lst (zs.map .int)))
    (q : ∀ o10, D.nx [o0, o1, o2, o3, o4, o5, o6, o7, some (.loc l), some (.int lo), o10] (h ++ [.lst [.int lo]])) :
    wss G (wcall G (k + 10)) (wcp G (k + 10)).2 law_16 [o0, o1, o2, o3, o4, o5, o6, o7, some (.loc l), some (.int lo), some (.loc kl)] h D := by
  have ll : sizeLine = 16777216 := sizeLine_eq
  unfold law_16; decreasing_trivial
  unfold law_15; decreasing_trivial
  unfold law_14; decreasing_trivial
  unfold law_9; decreasing_trivial
  refine same_int stoT.toLibT ?_
  decreasing_trivial
theorem law16K {kl : Nat} {a : Int} (ne : lo ≠ hi) (hl : h[l]? = some (.lst [.int lv, .int lo, .int hi])) (hk : h[kl]? = some (.lst [.int a]))
    (q : D.nx [o0, o1, o2, o3, o4, o5, o6, o7, some (.loc l), some (.int a), some (.loc kl)] h) :
    wss G (wcall G (k + 10)) (wcp G (k + 10)).2 law_16 [o0, o1, o2, o3, o4, o5, o6, o7, some (.loc l), some (.int a), some (.loc kl)] h D := by
  have ne : ¬ lo = hi := ne
  unfold law_16; decreasing_trivial
  unfold law_14; decreasing_trivial
  unfold law_9; decreasing_trivial
  refine same_int stoT.toLibT ?_
  decreasing_trivial
theorem law16F {kl n : Nat} (hn : n < 1000) (hrl : rl.length = n) (ne : lo ≠ hi) (hl : h[l]? = some (.lst [.int lv, .int lo, .int hi])) (hk : h[kl]? = some (.lst [])) (hr : h[10]? = some (.lst rl))
    (q : ∀ h', Old h h' (· = 10) → h'.length = h.length + 2 → h'[10]? = some (.lst (rl ++ [.loc (h.length + 1)])) → h'[h.length + 1]? = some (.lst [.int (2 + n), .int lv, .int lo, .int hi]) →
      D.nx [o0, o1, o2, some (.loc 10), some (.int (2 + n)), o5, o6, o7, some (.loc l), some (.int (2 + n)), some (.loc kl)] h') :
    wss G (wcall G (k + 10)) (wcp G (k + 10)).2 law_16 [o0, o1, o2, some (.loc 10), some (.int (n + 1)), o5, o6, o7, some (.loc l), some (.int (2 + n)), some (.loc kl)] h D := by
  have ne : ¬ lo = hi := ne
  have ll : sizeLine = 16777216 := sizeLine_eq
  have h10 := h_lt hr
  unfold law_16; decreasing_trivial
  unfold law_14; decreasing_trivial
  unfold law_13; decreasing_trivial
  refine isint_ok ?_
  have c1 : ¬ (2 + (n : Int) ≤ n + 1) := by omega
  have fin : wss G (wcall G (k + 10)) (wcall G (k + 9)) law_11 [o0, o1, o2, some (.loc 10), some (.int (n + 1)), o5, o6, o7, some (.loc l), some (.int (2 + n)), some (.loc kl)] h { nx := fun e' h' => D.nx e' h', rt := D.rt, bk := D.bk, ct := D.ct, ex := D.ex } := by
    unfold law_11; decreasing_trivial
    have q1 := q ((h ++ [MO.lst [.int (2 + n)]] ++ [MO.lst [.int (2 + n), .int lv, .int lo, .int hi]]).set 10 (MO.lst (rl ++ [Val.loc (h.length + 1)]))) ((Old.app.appN).setS rfl) (by simp)
    have q2 := q1 (by rw [h_set, h_app, h_app, hr]; rfl) (by rw [List.getElem?_set_ne (by omega), h_app, h_app, h_none (by omega)]; simp)
    clear q q1
    unfold law_10; decreasing_trivial
    omega
  decreasing_trivial
  refine same_int stoT.toLibT ?_
  decreasing_trivial
  split
  · rename_i hz
    refine same_int stoT.toLibT ?_
    have e2 : decide (2 + (n : Int) = 2) = true := decide_eq_true (by omega)
    clear hz
    rw [e2]
    decreasing_trivial
  · first | trivial | exact fin
end
end Mn.L58

namespace Mn.L58
open PySem PySem.Spec PyProof.Rows L2 Mn
local macro_rules
  | `(tactic| decreasing_trivial) => `(tactic| try simp (maxSteps := 2000000) (disch := omega) only [*, ss_nil, ss_cons, s_exp, s_ret, s_retN, s_asg, s_ite, s_brk, s_cnt, s_pass, s_raise, s_try, s_fr, s_whl, e_var, e_con, e_bin, e_cmp, e_neg, e_notv, e_andv, e_orv, e_ite, e_tup, e_lst, e_dnewT, e_dnewK, e_item, e_sl, e_fld, e_call, e_make, e_meth, e_blt, e_bm, e_isi, o_none, o_some, es_nil, es_cons, t_e, t_not, t_and, t_or, bs_nil, bs_cons,
    g_nm, g_tup, g_sub, g_fld, gs_nil, gs_cons, e_lc, wipeM, i_val, i_rng1, i_rng2, i_enum, cm_succ,
    x_addi, x_adds, x_addt, x_addl, x_sub, x_mul, x_fdiv, x_mod, x_shr, x_shl, x_band, x_bor, x_eq, x_ne, x_lt, x_le, x_gt, x_ge, x_in, x_notin, x_isN, x_isi, x_isb, x_iss, x_ist, x_isl, x_isnN, x_isni, x_isnb, x_isns, x_isnt, x_isnl, x_eqi, x_eqs, x_eqb, x_eqn, x_tn, x_tb, x_ti, x_ts, x_tt, x_tl, x_itt, x_itl, x_its, x_at, x_slt, x_sll, x_lent, x_lens, x_lenl,
    x_int, x_intb, x_abs, x_max2, x_min2, x_list, x_tuple, x_str, x_seqt, x_seql, x_app, x_pop, x_get, x_kap, x_kpop, x_kget, x_isM_n, x_isM_b, x_isM_i, x_isM_s, x_isM_t, x_isM_l, x_set, x_putL, x_fset, x_there, h_app, h_set, h_none, cut_map, cut_1, eq_self, List.set_set, List.getElem?_set_ne, fg_nil, fg_cons, fp_nil, fp_cons, ofStr_inj, x_winl, x_wint, x_gKi, x_gKs, x_gT, x_putT, x_putKi, x_putKs, x_key2, x_key3, x_thN, Option.isSome_some, Option.isSome_none, ix_pos, at_nn, tBl, tIn, tSt, tTu, tLi,
    List.map_cons, List.map_nil, List.length_cons, List.length_nil, List.cons_append, List.nil_append, List.replicate, List.getElem?_cons_zero, List.getElem?_cons_succ, List.set, List.length_set, List.length_map, List.length_append, Int.reduceToNat, Option.map_some, Option.some_or, Option.none_or, ne_eq, reduceCtorEq, not_false_eq_true, true_and, and_true, and_self, if_true, if_false, ite_true, ite_false, Bool.not_true, Bool.not_false, Bool.false_eq_true, Bool.true_eq_false, Int.reduceLT, Int.reduceLE, Int.reduceEq, Int.reduceNeg, Int.reduceAdd, Int.reduceSub, Int.reduceMul, Int.reducePow, Nat.reduceAdd, Nat.reduceSub, Nat.reduceLT, Nat.reduceLeDiff, String.reduceEq, decide_true, decide_false, Bool.not_eq_true', decide_eq_true_eq, decide_eq_false_iff_not, not_true_eq_false, if_pos, if_neg, ↓reduceIte])

structure St58 (h : MH) (N : List Nd) (rl : List Val) : Prop where
  p : Pool h 3 2
  s : Sto h 4 N []
  r : h[10]? = some (.lst rl)
  R : Rws h 11 rl N
  d : ∀ t ∈ N, t.2.1 ≠ t.2.2
  len : 11 ≤ h.length
theorem St58.old {h h' : MH} {N : List Nd} {rl : List Val} (a : St58 h N rl) (o : Old h h' (fun _ => False)) : St58 h' N rl :=
  ⟨a.p.old o (fun z => z) (fun z => z), a.s.old o (fun _ _ _ z => z), o.2 _ _ (fun z => z) a.r, a.R.old o (fun _ _ z => z), a.d, Nat.le_trans a.len o.1⟩
section
variable {k : Nat} {Q : KV1} {W : KX1} {o0 o4 o5 o6 o7 o8 o9 o10 : Option Val} {D : Ed} {h : MH} {N : List Nd} {rl : List Val} {l : Nat} {lv lo hi : Int}
/-- behind node -/
theorem law19 {a : Int} {T : List Nd} (S : Sto h 4 T []) (hT : T.length < 1001) (hl : h[l]? = some (.lst [.int lv, .int lo, .int hi])) (ha : lo ≠ hi → ∃ i : Nat, T[i]? = some (lv, lo, hi) ∧ a = 2 + i)
    (q : wss G (wcall G (k + 10)) (wcp G (k + 10)).2 law_17 [o0, some (.loc 3), some (.loc 4), some (.loc 10), o4, o5, o6, o7, some (.loc l), some (.int a), o10] h D) :
    wss G (wcall G (k + 10)) (wcp G (k + 10)).2 law_19 [o0, some (.loc 3), some (.loc 4), some (.loc 10), o4, o5, o6, o7, some (.loc l), some (.int a), o10] h D := by
  have so := S.o
  unfold stoFs at so
  have mc := stoT.mcoin
  unfold law_19; decreasing_trivial
  split
  · split
    · rename_i e0 e1
      obtain ⟨i, ei, ea⟩ := ha (by omega)
      subst e0 e1
      refine coin_ok stoT S (by omega) (fun j ej => ?_) (fun z => absurd (List.mem_of_getElem? ei) z)
      have : j = i := nod_inj S.un ej ei
      subst this
      refine same_int stoT.toLibT ?_
      have e2 : decide (2 + (j : Int) = a) = true := decide_eq_true ea.symm
      rw [e2]
      clear ea
      decreasing_trivial
      exact q
    · first | trivial | exact q
  · first | trivial | exact q
theorem turn (S : St58 h N rl) (hN : N.length < 100)
    (q : ∀ N' rl' h' o8 o9 o10, St58 h' N' rl' → N'.length ≤ N.length + 1 → D.nx [o0, some (.loc 3), some (.loc 4), some (.loc 10), some (.int (N'.length + 1)), o5, o6, o7, o8, o9, o10] h') :
    wss G (wcall G (k + 10)) (wcp G (k + 10)).2 law_21 [o0, some (.loc 3), some (.loc 4), some (.loc 10), some (.int (N.length + 1)), o5, o6, o7, o8, o9, o10] h D := by
  unfold law_21; decreasing_trivial
  refine triple_ok (base := 11) S.p S.r S.R (by omega) (by omega) (by omega) fun l lv lo hi h1 o1 p1 l1 e1 => ?_
  have S1 := S.s.old o1 (fun l _ _ z => by omega)
  have R1 := S.R.old o1 (fun l _ z => by omega)
  have r1 := o1.2 _ _ (by omega) S.r
  have d1 := S.d
  have len1 := Nat.le_trans S.len o1.1
  have l11 : 11 ≤ l := Nat.le_trans S.len l1
  clear S o1 l1
  have so := S1.o
  unfold stoFs at so
  have mn := stoT.mnode
  unfold law_20; decreasing_trivial
  refine node_ok stoT S1 (by omega) (fun e => ?_) (fun i ne ei => ?_) (fun ne hm h2 o2 l2 S2 => ?_)
  · subst e
    refine law19 S1 (by omega) e1 (fun z => absurd rfl z) ?_
    refine law17 S1.un (by omega) r1 R1 e1 fun zs h3 o3 e3 kn => ?_
    refine law16E (kl := h1.length) (zs := zs) (o3.2 _ _ (fun z => z) e1) e3 fun o10 => ?_
    exact q N rl _ _ _ _ ((⟨p1, S1, r1, R1, d1, len1⟩ : St58 h1 N rl).old o3.appN) (by omega)
  · refine law19 S1 (by omega) e1 (fun _ => ⟨i, ei, rfl⟩) ?_
    refine law17 S1.un (by omega) r1 R1 e1 fun zs h3 o3 e3 kn => ?_
    rw [kn.2.1 i ei] at e3
    refine law16K (kl := h1.length) ne (o3.2 _ _ (fun z => z) e1) e3 ?_
    exact q N rl _ _ _ _ ((⟨p1, S1, r1, R1, d1, len1⟩ : St58 h1 N rl).old o3) (by omega)
  · have e2 := o2.2 l _ (by omega) e1
    have r2 := o2.2 10 _ (by omega) r1
    have R2 := R1.old o2 (fun l _ z => by omega)
    have p2 := p1.old o2 (by omega) (by omega)
    have len2 : 11 ≤ h2.length := by omega
    refine law19 (T := N ++ [(lv, lo, hi)]) S2 (by simp; omega) e2 (fun _ => ⟨N.length, by rw [List.getElem?_append_right (Nat.le_refl _)]; simp, rfl⟩) ?_
    refine law17 S1.un (by omega) r2 R2 e2 fun zs h3 o3 e3 kn => ?_
    rw [kn.2.2 hm] at e3
    refine law16F (kl := h2.length) (n := N.length) (rl := rl) (by omega) R2.1 ne (o3.2 _ _ (fun z => z) e2) e3 (o3.2 _ _ (fun z => z) r2) fun h4 o4 l4 e4 e5 => ?_
    have len3 := Nat.le_trans len2 o3.1
    have en : ((N ++ [(lv, lo, hi)]).length : Int) + 1 = 2 + N.length := by simp; omega
    have q1 := q (N ++ [(lv, lo, hi)]) (rl ++ [.loc (h3.length + 1)]) h4 (some (.loc l)) (some (.int (2 + N.length))) (some (.loc h2.length)) ?_ (by simp)
    · rw [en] at q1
      exact q1
    · refine ⟨(p2.old o3 (fun z => z) (fun z => z)).old o4 (by omega) (by omega), (S2.old o3 (fun _ _ _ z => z)).old o4 (fun _ _ _ z => by omega), e4, ⟨?_, fun i t et => ?_⟩, fun t ht => ?_, by omega⟩
      · rw [List.length_append, List.length_append, R2.1]; rfl
      · by_cases c : i < N.length
        · rw [List.getElem?_append_left c] at et
          obtain ⟨m, h5, h6, h7⟩ := R2.2 i t et
          refine ⟨m, by rw [List.getElem?_append_left (by rw [R2.1]; exact c)]; exact h5, h6, o4.2 _ _ (by omega) (o3.2 _ _ (fun z => z) h7)⟩
        · have c2 : i = N.length := by
            have := (List.getElem?_eq_some_iff.mp et).1
            simp at this
            omega
          subst c2
          rw [List.getElem?_append_right (Nat.le_refl _)] at et
          simp at et
          subst et
          refine ⟨h3.length + 1, ?_, by omega, e5⟩
          rw [← R2.1, List.getElem?_append_right (Nat.le_refl _)]
          simp
      · rcases List.mem_append.mp ht with z | z
        · exact d1 t z
        · simp at z
          subst z
          exact ne
end
theorem law_ok : ∀ ns : List Int, ns.length ≤ 63 → (∀ z ∈ ns, Builtin.Int.intBits z ≤ 1048576) → wcall G (9 + 10 + 1) 28 [.loc 0] [.rol (ns.map Val.int)] (fun v _ => v = .bl true) (fun _ _ => False) := by
  intro ns _ _
  have hq : ∀ h : MH, (fun (v : Val) (_ : MH) => v = .bl true) (.bl true) h := fun _ => rfl
  generalize (fun (v : Val) (_ : MH) => v = .bl true) = Q at hq
  generalize (fun (_ : Ex) (_ : MH) => False) = W
  obtain ⟨ms, hc⟩ := stoT.cls
  refine enter (show G.fns[28]? = some fd_law from rfl) rfl ?_
  unfold law_26; decreasing_trivial
  refine pool_ok stoT.toLibT (ns := ns) rfl fun h1 _ l1 p1 => ?_
  have l1 : h1.length = 4 := by simpa using l1
  unfold law_25; decreasing_trivial
  have q0 := init_ok stoT (k := 17) (h := h1) (W := W) (Q := fun v h2 => (match v with
      | Val.non =>
        wss G (wcall G 19) (wcall G 18) law_24
          [some (Val.loc 0), some (Val.loc 3), some (Val.loc 4), none, none, none, none, none, none, none, none] h2
          { nx := fun x h' => Q Val.non h', rt := Q, ex := fun x x_1 h' => W x h' }
      | x => False)) (fun h2 o2 l2 S2 => ?_)
  · rw [l1] at q0
    exact q0
  rw [l1] at l2 S2
  have p2 := p1.old o2 (fun z => z) (fun z => z)
  have ll : sizeLine = 16777216 := sizeLine_eq
  clear p1 o2 l1
  decreasing_trivial
  unfold law_24; decreasing_trivial
  have S3 : St58 (h2 ++ [MO.lst []]) [] [] := ⟨p2.old (S := fun _ => False) Old.app (fun z => z) (fun z => z), S2.old (S := fun _ => False) Old.app (fun _ _ _ z => z), by rw [h_app, h_none (by omega)]; simp [l2], ⟨rfl, fun i t e => by simp at e⟩, fun t ht => by simp at ht, by simp [l2]⟩
  generalize (h2 ++ [MO.lst []]) = h3 at S3 ⊢
  clear p2 S2 l2
  unfold law_23; decreasing_trivial
  unfold law_22; decreasing_trivial
  refine draw_ok stoT.toLibT S3.p (by decide) fun v h4 v0 v1 l4 o4 p4 => ?_
  have S4 : St58 h4 [] [] := ⟨p4, S3.s.old o4 (fun _ _ _ z => by omega), o4.2 _ _ (by omega) S3.r, S3.R.old o4 (fun _ _ z => by omega), S3.d, by have := S3.len; omega⟩
  clear S3 o4 p4
  decreasing_trivial
  refine ⟨⟨by omega, by omega⟩, ?_⟩
  refine rng_go (fun i env h' => ∃ N rl o5 o6 o7 o8 o9 o10, env = [some (.loc 0), some (.loc 3), some (.loc 4), some (.loc 10), some (.int (N.length + 1)), o5, o6, o7, o8, o9, o10] ∧ St58 h' N rl ∧ N.length ≤ i) ⟨[], [], none, none, none, none, none, none, rfl, S4, Nat.le_refl _⟩ ?_ ?_
  · rintro i env h' hi ⟨N, rl, o5, o6, o7, o8, o9, o10, rfl, S, hN⟩
    refine turn (k := 9) (o0 := some (.loc 0)) (o6 := o6) (o7 := o7) (o8 := o8) (o9 := o9) (o10 := o10) S (by omega) fun N' rl' h' o8 o9 o10 S' hN' => ?_
    exact lp_next hi ⟨N', rl', _, _, _, _, _, _, rfl, S', by omega⟩
  · rintro env h' ⟨N, rl, o5, o6, o7, o8, o9, o10, rfl, S, hN⟩
    exact law7 (k := 9) (W := W) hq S.s S.r S.R
end Mn.L58

set_option maxHeartbeats 0
namespace Mn.L58
open PySem PySem.Spec PyProof.Rows L2 Mn
abbrev prog : Program := PySem.Challenge.pw_odds_k58_nodes_of_a_store
def top (i : Nat) : Stmt := prog.main.body.getD i (.Pass ⟨0, 0, 0, 0⟩)
def mth (i j : Nat) : Stmt := (match top i with
  | .ClassDef _ _ _ b _ _ _ _ _ _ _ => b.getD j (.Pass ⟨0, 0, 0, 0⟩)
  | _ => .Pass ⟨0, 0, 0, 0⟩)
def e__law_pool : Fi := ⟨⟨("_law_pool", none), "_law_pool", "_law_pool", defArgs (top 11), defBody (top 11), defScope (top 11), [], []⟩, ["script", "salt", "cell"], 1⟩
def e__law_spread : Fi := ⟨⟨("_law_spread", none), "_law_spread", "_law_spread", defArgs (top 12), defBody (top 12), defScope (top 12), [], []⟩, ["cell", "mixed", "total", "k"], 1⟩
def e__law_draw : Fi := ⟨⟨("_law_draw", none), "_law_draw", "_law_draw", defArgs (top 13), defBody (top 13), defScope (top 13), [], []⟩, ["pool", "many", "value", "cell", "mixed"], 2⟩
def e__law_same : Fi := ⟨⟨("_law_same", none), "_law_same", "_law_same", defArgs (top 10), defBody (top 10), defScope (top 10), [], []⟩, ["actual", "due", "k"], 2⟩
def e__wall : Fi := ⟨⟨("_wall", none), "_wall", "_wall", defArgs (top 0), defBody (top 0), defScope (top 0), [], []⟩, ["k"], 1⟩
def e_Store___init__ : Fi := ⟨⟨("Store", some "__init__"), "__init__", "Store.__init__", defArgs (mth 7 0), defBody (mth 7 0), defScope (mth 7 0), [], []⟩, ["self"], 1⟩
def e_Store_node : Fi := ⟨⟨("Store", some "node"), "node", "Store.node", defArgs (mth 7 1), defBody (mth 7 1), defScope (mth 7 1), [], []⟩, ["self", "level", "low", "high", "key"], 4⟩
def e_Store_coin : Fi := ⟨⟨("Store", some "coin"), "coin", "Store.coin", defArgs (mth 7 2), defBody (mth 7 2), defScope (mth 7 2), [], []⟩, ["self", "level"], 2⟩
def e_Store_level : Fi := ⟨⟨("Store", some "level"), "level", "Store.level", defArgs (mth 7 3), defBody (mth 7 3), defScope (mth 7 3), [], []⟩, ["self", "a"], 2⟩
def e_Store_low : Fi := ⟨⟨("Store", some "low"), "low", "Store.low", defArgs (mth 7 4), defBody (mth 7 4), defScope (mth 7 4), [], []⟩, ["self", "a"], 2⟩
def e_Store_high : Fi := ⟨⟨("Store", some "high"), "high", "Store.high", defArgs (mth 7 5), defBody (mth 7 5), defScope (mth 7 5), [], []⟩, ["self", "a"], 2⟩
def e_Store_top_level : Fi := ⟨⟨("Store", some "top_level"), "top_level", "Store.top_level", defArgs (mth 7 6), defBody (mth 7 6), defScope (mth 7 6), [], []⟩, ["self", "references"], 2⟩
def e_Store_part : Fi := ⟨⟨("Store", some "part"), "part", "Store.part", defArgs (mth 7 7), defBody (mth 7 7), defScope (mth 7 7), [], []⟩, ["self", "a", "level", "value"], 4⟩
def e_Store_known_choice : Fi := ⟨⟨("Store", some "known_choice"), "known_choice", "Store.known_choice", defArgs (mth 7 8), defBody (mth 7 8), defScope (mth 7 8), [], []⟩, ["self", "key"], 2⟩
def e_Store_choose : Fi := ⟨⟨("Store", some "choose"), "choose", "Store.choose", defArgs (mth 7 9), defBody (mth 7 9), defScope (mth 7 9), [], []⟩, ["self", "c", "a", "b"], 4⟩
def e_Store_advance : Fi := ⟨⟨("Store", some "advance"), "advance", "Store.advance", defArgs (mth 7 10), defBody (mth 7 10), defScope (mth 7 10), [], []⟩, ["self", "waiting", "key"], 3⟩
def e_Store_negate : Fi := ⟨⟨("Store", some "negate"), "negate", "Store.negate", defArgs (mth 7 11), defBody (mth 7 11), defScope (mth 7 11), [], []⟩, ["self", "a"], 2⟩
def e_Store_both : Fi := ⟨⟨("Store", some "both"), "both", "Store.both", defArgs (mth 7 12), defBody (mth 7 12), defScope (mth 7 12), [], []⟩, ["self", "a", "b"], 3⟩
def e_Store_either : Fi := ⟨⟨("Store", some "either"), "either", "Store.either", defArgs (mth 7 13), defBody (mth 7 13), defScope (mth 7 13), [], []⟩, ["self", "a", "b"], 3⟩
def e_Store_without : Fi := ⟨⟨("Store", some "without"), "without", "Store.without", defArgs (mth 7 14), defBody (mth 7 14), defScope (mth 7 14), [], []⟩, ["self", "a", "b"], 3⟩
def e_Store_either_of : Fi := ⟨⟨("Store", some "either_of"), "either_of", "Store.either_of", defArgs (mth 7 15), defBody (mth 7 15), defScope (mth 7 15), [], []⟩, ["self", "references"], 2⟩
def e_Store_nodes_below : Fi := ⟨⟨("Store", some "nodes_below"), "nodes_below", "Store.nodes_below", defArgs (mth 7 16), defBody (mth 7 16), defScope (mth 7 16), [], []⟩, ["self", "a"], 2⟩
def e_Store_restrict : Fi := ⟨⟨("Store", some "restrict"), "restrict", "Store.restrict", defArgs (mth 7 17), defBody (mth 7 17), defScope (mth 7 17), [], []⟩, ["self", "a", "level", "value"], 4⟩
def e_Store_value : Fi := ⟨⟨("Store", some "value"), "value", "Store.value", defArgs (mth 7 18), defBody (mth 7 18), defScope (mth 7 18), [], []⟩, ["self", "a", "bits"], 3⟩
def e_Store_support : Fi := ⟨⟨("Store", some "support"), "support", "Store.support", defArgs (mth 7 19), defBody (mth 7 19), defScope (mth 7 19), [], []⟩, ["self", "a"], 2⟩
def e_Store_models : Fi := ⟨⟨("Store", some "models"), "models", "Store.models", defArgs (mth 7 20), defBody (mth 7 20), defScope (mth 7 20), [], []⟩, ["self", "a", "levels"], 3⟩
def e_Store_gap : Fi := ⟨⟨("Store", some "gap"), "gap", "Store.gap", defArgs (mth 7 21), defBody (mth 7 21), defScope (mth 7 21), [], []⟩, ["self", "level", "a", "levels"], 4⟩
def e_Store_same_as : Fi := ⟨⟨("Store", some "same_as"), "same_as", "Store.same_as", defArgs (mth 7 22), defBody (mth 7 22), defScope (mth 7 22), [], []⟩, ["self", "a", "other", "b"], 4⟩
def e_law : Fi := ⟨⟨("law", none), "law", "law", defArgs (top 16), defBody (top 16), defScope (top 16), [], []⟩, ["script", "pool", "store", "rows", "greatest", "k", "row", "way", "triple", "told", "known"], 1⟩
def e__law_raises : Fi := ⟨⟨("_law_raises", none), "_law_raises", "_law_raises", defArgs (top 14), defBody (top 14), defScope (top 14), [], []⟩, ["store", "way", "a"], 3⟩
def e__law_is_integer : Fi := ⟨⟨("_law_is_integer", none), "_law_is_integer", "_law_is_integer", defArgs (top 9), defBody (top 9), defScope (top 9), [], []⟩, ["actual"], 1⟩
def e__law_triple : Fi := ⟨⟨("_law_triple", none), "_law_triple", "_law_triple", defArgs (top 15), defBody (top 15), defScope (top 15), [], []⟩, ["pool", "rows", "level", "fit", "low", "row"], 2⟩
def gm : Gm := { fn := [("_law_pool", i__law_pool), ("_law_spread", i__law_spread), ("_law_draw", i__law_draw), ("_law_same", i__law_same), ("_wall", i__wall), ("law", i_law), ("_law_raises", i__law_raises), ("_law_is_integer", i__law_is_integer), ("_law_triple", i__law_triple)], cl := [("Store", 0)], xc := [("NotANode", 0)], ct := [("FALSE", .int (0)), ("TRUE", .int (1))], um := ["coin", "high", "level", "low", "node"], tk := [(18, 22), (19, 23)] }
def pg : Pg := { g := gm, fs := [e__law_pool, e__law_spread, e__law_draw, e__law_same, e__wall, e_Store___init__, e_Store_node, e_Store_coin, e_Store_level, e_Store_low, e_Store_high, e_Store_top_level, e_Store_part, e_Store_known_choice, e_Store_choose, e_Store_advance, e_Store_negate, e_Store_both, e_Store_either, e_Store_without, e_Store_either_of, e_Store_nodes_below, e_Store_restrict, e_Store_value, e_Store_support, e_Store_models, e_Store_gap, e_Store_same_as, e_law, e__law_raises, e__law_is_integer, e__law_triple], cn := ["Store"], xn := ["NotANode"], G := G, fl := flds }
theorem o__law_pool : FOk gm 16 e__law_pool fd__law_pool := ⟨⟨rfl, rfl, rfl, by decide +kernel, rfl, by decide +kernel, by decide +kernel⟩, rfl, rfl, rfl, rfl, rfl, fun _ _ _ _ _ _ us hl => match us, hl with | [_], _ => rfl, by kernel_rfl⟩
theorem o__law_spread : FOk gm 16 e__law_spread fd__law_spread := ⟨⟨rfl, rfl, rfl, by decide +kernel, rfl, by decide +kernel, by decide +kernel⟩, rfl, rfl, rfl, rfl, rfl, fun _ _ _ _ _ _ us hl => match us, hl with | [_], _ => rfl, by kernel_rfl⟩
theorem o__law_draw : FOk gm 16 e__law_draw fd__law_draw := ⟨⟨rfl, rfl, rfl, by decide +kernel, rfl, by decide +kernel, by decide +kernel⟩, rfl, rfl, rfl, rfl, rfl, fun _ _ _ _ _ _ us hl => match us, hl with | [_, _], _ => rfl, by kernel_rfl⟩
theorem o__law_same : FOk gm 16 e__law_same fd__law_same := ⟨⟨rfl, rfl, rfl, by decide +kernel, rfl, by decide +kernel, by decide +kernel⟩, rfl, rfl, rfl, rfl, rfl, fun _ _ _ _ _ _ us hl => match us, hl with | [_, _], _ => rfl, by kernel_rfl⟩
theorem o__wall : FOk gm 16 e__wall fd__wall := ⟨⟨rfl, rfl, rfl, by decide +kernel, rfl, by decide +kernel, by decide +kernel⟩, rfl, rfl, rfl, rfl, rfl, fun _ _ _ _ _ _ us hl => match us, hl with | [_], _ => rfl, by kernel_rfl⟩
theorem o_Store___init__ : FOk gm 16 e_Store___init__ fd_Store___init__ := ⟨⟨rfl, rfl, rfl, by decide +kernel, rfl, by decide +kernel, by decide +kernel⟩, rfl, rfl, rfl, rfl, rfl, fun _ _ _ _ _ _ us hl => match us, hl with | [_], _ => rfl, by kernel_rfl⟩
theorem o_Store_node : FOk gm 16 e_Store_node fd_Store_node := ⟨⟨rfl, rfl, rfl, by decide +kernel, rfl, by decide +kernel, by decide +kernel⟩, rfl, rfl, rfl, rfl, rfl, fun _ _ _ _ _ _ us hl => match us, hl with | [_, _, _, _], _ => rfl, by kernel_rfl⟩
theorem o_Store_coin : FOk gm 16 e_Store_coin fd_Store_coin := ⟨⟨rfl, rfl, rfl, by decide +kernel, rfl, by decide +kernel, by decide +kernel⟩, rfl, rfl, rfl, rfl, rfl, fun _ _ _ _ _ _ us hl => match us, hl with | [_, _], _ => rfl, by kernel_rfl⟩
theorem o_Store_level : FOk gm 16 e_Store_level fd_Store_level := ⟨⟨rfl, rfl, rfl, by decide +kernel, rfl, by decide +kernel, by decide +kernel⟩, rfl, rfl, rfl, rfl, rfl, fun _ _ _ _ _ _ us hl => match us, hl with | [_, _], _ => rfl, by kernel_rfl⟩
theorem o_Store_low : FOk gm 16 e_Store_low fd_Store_low := ⟨⟨rfl, rfl, rfl, by decide +kernel, rfl, by decide +kernel, by decide +kernel⟩, rfl, rfl, rfl, rfl, rfl, fun _ _ _ _ _ _ us hl => match us, hl with | [_, _], _ => rfl, by kernel_rfl⟩
theorem o_Store_high : FOk gm 16 e_Store_high fd_Store_high := ⟨⟨rfl, rfl, rfl, by decide +kernel, rfl, by decide +kernel, by decide +kernel⟩, rfl, rfl, rfl, rfl, rfl, fun _ _ _ _ _ _ us hl => match us, hl with | [_, _], _ => rfl, by kernel_rfl⟩
theorem o_Store_top_level : FOk gm 16 e_Store_top_level fd_Store_top_level := ⟨⟨rfl, rfl, rfl, by decide +kernel, rfl, by decide +kernel, by decide +kernel⟩, rfl, rfl, rfl, rfl, rfl, fun _ _ _ _ _ _ us hl => match us, hl with | [_, _], _ => rfl, by kernel_rfl⟩
theorem o_Store_part : FOk gm 16 e_Store_part fd_Store_part := ⟨⟨rfl, rfl, rfl, by decide +kernel, rfl, by decide +kernel, by decide +kernel⟩, rfl, rfl, rfl, rfl, rfl, fun _ _ _ _ _ _ us hl => match us, hl with | [_, _, _, _], _ => rfl, by kernel_rfl⟩
theorem o_Store_known_choice : FOk gm 16 e_Store_known_choice fd_Store_known_choice := ⟨⟨rfl, rfl, rfl, by decide +kernel, rfl, by decide +kernel, by decide +kernel⟩, rfl, rfl, rfl, rfl, rfl, fun _ _ _ _ _ _ us hl => match us, hl with | [_, _], _ => rfl, by kernel_rfl⟩
theorem o_Store_choose : FOk gm 16 e_Store_choose fd_Store_choose := ⟨⟨rfl, rfl, rfl, by decide +kernel, rfl, by decide +kernel, by decide +kernel⟩, rfl, rfl, rfl, rfl, rfl, fun _ _ _ _ _ _ us hl => match us, hl with | [_, _, _, _], _ => rfl, by kernel_rfl⟩
theorem o_Store_advance : FOk gm 16 e_Store_advance fd_Store_advance := ⟨⟨rfl, rfl, rfl, by decide +kernel, rfl, by decide +kernel, by decide +kernel⟩, rfl, rfl, rfl, rfl, rfl, fun _ _ _ _ _ _ us hl => match us, hl with | [_, _, _], _ => rfl, by kernel_rfl⟩
theorem o_Store_negate : FOk gm 16 e_Store_negate fd_Store_negate := ⟨⟨rfl, rfl, rfl, by decide +kernel, rfl, by decide +kernel, by decide +kernel⟩, rfl, rfl, rfl, rfl, rfl, fun _ _ _ _ _ _ us hl => match us, hl with | [_, _], _ => rfl, by kernel_rfl⟩
theorem o_Store_both : FOk gm 16 e_Store_both fd_Store_both := ⟨⟨rfl, rfl, rfl, by decide +kernel, rfl, by decide +kernel, by decide +kernel⟩, rfl, rfl, rfl, rfl, rfl, fun _ _ _ _ _ _ us hl => match us, hl with | [_, _, _], _ => rfl, by kernel_rfl⟩
theorem o_Store_either : FOk gm 16 e_Store_either fd_Store_either := ⟨⟨rfl, rfl, rfl, by decide +kernel, rfl, by decide +kernel, by decide +kernel⟩, rfl, rfl, rfl, rfl, rfl, fun _ _ _ _ _ _ us hl => match us, hl with | [_, _, _], _ => rfl, by kernel_rfl⟩
theorem o_Store_without : FOk gm 16 e_Store_without fd_Store_without := ⟨⟨rfl, rfl, rfl, by decide +kernel, rfl, by decide +kernel, by decide +kernel⟩, rfl, rfl, rfl, rfl, rfl, fun _ _ _ _ _ _ us hl => match us, hl with | [_, _, _], _ => rfl, by kernel_rfl⟩
theorem o_Store_either_of : FOk gm 16 e_Store_either_of fd_Store_either_of := ⟨⟨rfl, rfl, rfl, by decide +kernel, rfl, by decide +kernel, by decide +kernel⟩, rfl, rfl, rfl, rfl, rfl, fun _ _ _ _ _ _ us hl => match us, hl with | [_, _], _ => rfl, by kernel_rfl⟩
theorem o_Store_nodes_below : FOk gm 16 e_Store_nodes_below fd_Store_nodes_below := ⟨⟨rfl, rfl, rfl, by decide +kernel, rfl, by decide +kernel, by decide +kernel⟩, rfl, rfl, rfl, rfl, rfl, fun _ _ _ _ _ _ us hl => match us, hl with | [_, _], _ => rfl, by kernel_rfl⟩
theorem o_Store_restrict : FOk gm 16 e_Store_restrict fd_Store_restrict := ⟨⟨rfl, rfl, rfl, by decide +kernel, rfl, by decide +kernel, by decide +kernel⟩, rfl, rfl, rfl, rfl, rfl, fun _ _ _ _ _ _ us hl => match us, hl with | [_, _, _, _], _ => rfl, by kernel_rfl⟩
theorem o_Store_value : FOk gm 16 e_Store_value fd_Store_value := ⟨⟨rfl, rfl, rfl, by decide +kernel, rfl, by decide +kernel, by decide +kernel⟩, rfl, rfl, rfl, rfl, rfl, fun _ _ _ _ _ _ us hl => match us, hl with | [_, _, _], _ => rfl, by kernel_rfl⟩
theorem o_Store_support : FOk gm 16 e_Store_support fd_Store_support := ⟨⟨rfl, rfl, rfl, by decide +kernel, rfl, by decide +kernel, by decide +kernel⟩, rfl, rfl, rfl, rfl, rfl, fun _ _ _ _ _ _ us hl => match us, hl with | [_, _], _ => rfl, by kernel_rfl⟩
theorem o_Store_models : FOk gm 16 e_Store_models fd_Store_models := ⟨⟨rfl, rfl, rfl, by decide +kernel, rfl, by decide +kernel, by decide +kernel⟩, rfl, rfl, rfl, rfl, rfl, fun _ _ _ _ _ _ us hl => match us, hl with | [_, _, _], _ => rfl, by kernel_rfl⟩
theorem o_Store_gap : FOk gm 16 e_Store_gap fd_Store_gap := ⟨⟨rfl, rfl, rfl, by decide +kernel, rfl, by decide +kernel, by decide +kernel⟩, rfl, rfl, rfl, rfl, rfl, fun _ _ _ _ _ _ us hl => match us, hl with | [_, _, _, _], _ => rfl, by kernel_rfl⟩
theorem o_Store_same_as : FOk gm 16 e_Store_same_as fd_Store_same_as := ⟨⟨rfl, rfl, rfl, by decide +kernel, rfl, by decide +kernel, by decide +kernel⟩, rfl, rfl, rfl, rfl, rfl, fun _ _ _ _ _ _ us hl => match us, hl with | [_, _, _, _], _ => rfl, by kernel_rfl⟩
theorem o_law : FOk gm 16 e_law fd_law := ⟨⟨rfl, rfl, rfl, by decide +kernel, rfl, by decide +kernel, by decide +kernel⟩, rfl, rfl, rfl, rfl, rfl, fun _ _ _ _ _ _ us hl => match us, hl with | [_], _ => rfl, by kernel_rfl⟩
theorem o__law_raises : FOk gm 16 e__law_raises fd__law_raises := ⟨⟨rfl, rfl, rfl, by decide +kernel, rfl, by decide +kernel, by decide +kernel⟩, rfl, rfl, rfl, rfl, rfl, fun _ _ _ _ _ _ us hl => match us, hl with | [_, _, _], _ => rfl, by kernel_rfl⟩
theorem o__law_is_integer : FOk gm 16 e__law_is_integer fd__law_is_integer := ⟨⟨rfl, rfl, rfl, by decide +kernel, rfl, by decide +kernel, by decide +kernel⟩, rfl, rfl, rfl, rfl, rfl, fun _ _ _ _ _ _ us hl => match us, hl with | [_], _ => rfl, by kernel_rfl⟩
theorem o__law_triple : FOk gm 16 e__law_triple fd__law_triple := ⟨⟨rfl, rfl, rfl, by decide +kernel, rfl, by decide +kernel, by decide +kernel⟩, rfl, rfl, rfl, rfl, rfl, fun _ _ _ _ _ _ us hl => match us, hl with | [_, _], _ => rfl, by kernel_rfl⟩
theorem pok : POk pg 16 := ⟨rfl, foks_cons o__law_pool (foks_cons o__law_spread (foks_cons o__law_draw (foks_cons o__law_same (foks_cons o__wall (foks_cons o_Store___init__ (foks_cons o_Store_node (foks_cons o_Store_coin (foks_cons o_Store_level (foks_cons o_Store_low (foks_cons o_Store_high (foks_cons o_Store_top_level (foks_cons o_Store_part (foks_cons o_Store_known_choice (foks_cons o_Store_choose (foks_cons o_Store_advance (foks_cons o_Store_negate (foks_cons o_Store_both (foks_cons o_Store_either (foks_cons o_Store_without (foks_cons o_Store_either_of (foks_cons o_Store_nodes_below (foks_cons o_Store_restrict (foks_cons o_Store_value (foks_cons o_Store_support (foks_cons o_Store_models (foks_cons o_Store_gap (foks_cons o_Store_same_as (foks_cons o_law (foks_cons o__law_raises (foks_cons o__law_is_integer (foks_cons o__law_triple (foks_nil)))))))))))))))))))))))))))))))), by decide +kernel, by decide +kernel, by decide +kernel, rfl, rfl, by decide +kernel, by decide +kernel, rfl⟩

end Mn.L58

set_option maxHeartbeats 0
namespace Mn.L58
open PySem PySem.Spec PyProof.Rows L2 Mn
abbrev R : PySem.W.OpenRow := PySem.W.OpenLaw.row PySem.Challenge.rw_odds_k58_nodes_of_a_store
abbrev hk : PySem.W.Hook := He.hookD 5 pg.fa (pg.fs.map (·.d))
def ob (s : PySem.W.SharedT) : He.AlD := He.obsDG 5 pg.fa (pg.fs.map (·.d)) (HandSHeadRun.getT s)
theorem ob_eq (s : PySem.W.SharedT) : ob s = hk.obs s.abs := He.obsDG_eq (HandSHeadRun.getT_eq s)
def loose : List Str := ["FALSE", "NotANode", "OddsError", "Store", "TRUE", "__name__", "_law_draw", "_law_is_integer", "_law_pool", "_law_raises", "_law_same", "_law_spread", "_law_triple", "_wall"]
theorem run (w : World) : HandSHeadRun.RunEq R (PySem.W.view R.prog [16]) hk ob 6000 loose w := by
  intro os
  kernel_rfl
def LawOk : Prop := ∀ ns : List Int, ns.length ≤ 63 → (∀ z ∈ ns, Builtin.Int.intBits z ≤ 1048576) → wcall G (19 + 1) i_law [.loc 0] [.rol (ns.map Val.int)] (fun v _ => v = .bl true) (fun _ _ => False)
end Mn.L58
open PySem PySem.W PySem.Calls PyProof.Rows
theorem endOf (law : Mn.L58.LawOk) : PySem.Challenge.rw_odds_k58_nodes_of_a_store.Holds := by
  w_on; o_law
  refine HandSHeadRun.head_any (r := OpenLaw.row PySem.Challenge.rw_odds_k58_nodes_of_a_store) (q := view (OpenLaw.row PySem.Challenge.rw_odds_k58_nodes_of_a_store).prog [16]) (H := Mn.L58.hk) (ob := Mn.L58.ob) (M := 6000) (loose := Mn.L58.loose) (d := HandSHeadRun.topDef (OpenLaw.row PySem.Challenge.rw_odds_k58_nodes_of_a_store).prog 16) (kwd := []) Mn.L58.ob_eq
    (by kernel_rfl) (fun s => by kernel_rfl) Mn.L58.run (by kernel_rfl) (by kernel_rfl) (by kernel_rfl) (by rfl) (by first | assumption | decide +kernel) (by decide +kernel) ⟨rfl, rfl, rfl, rfl, rfl, by decide +kernel⟩ ?hw ?hc
  case hw => w_witness2
  case hc =>
    exact Mn.walk_of (l := PySem.Challenge.rw_odds_k58_nodes_of_a_store) (n := 63) (k := 19) (i := Mn.L58.i_law) (p := Mn.L58.pg) (f := Mn.L58.e_law) (x := "script") rfl (by decide) (by kernel_rfl) ⟨rfl, by decide, by decide⟩ (fun w h Y => Y)
      Mn.L58.pok (by decide +kernel) rfl rfl rfl law

theorem PySem.Challenge.cw_odds_k58_nodes_of_a_store_holds : PySem.Challenge.rw_odds_k58_nodes_of_a_store.Holds := by
  exact endOf Mn.L58.law_ok
