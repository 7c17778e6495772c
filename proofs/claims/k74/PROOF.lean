import PyProof.Rows.All
import Wide.All
import OpenK.AllK
import Wide.FinOn
import HandS.ForMost
import HandS.Exc
import HandS.ExcOwn
import HandS.WordsExc
import HandS.CallSlots
import HandS.Deep
import HandS.Zip
import HandS.TupAny
import HandS.Flow
import HandS.Style
import HandS.Wide
import HandS.TupLe
import PyProof.Rows.InDataRows
import HandS.DictComp
import HandS.TupLen
import HandS.IsInst
import HandS.Strs
import HandS.NoneIn
import HandS.More
import HandS.RevRange
import HandS.Rev
import KE.GoesEnum
import HandS.Small
import HandS.ExcCtx
import HandS.HotCalls
import KE.KExcSuper
import HandS.ExcSuper
import KE.KExcIs
import HandS.RaiseMore
import HandS.SetFor
import HandS.TupSets
import HandS.Defaults
import HandS.Head0
import HandS.Head1
import HandS.Head2
import HandS.HeadEnd
import HandS.HeadHook1
import HandS.HeadHook2
import HandS.HeadHook4
import PySem.Challenge.RW_treesforetold_k74_papers_at_marked_machi
set_option Elab.async false
set_option linter.all false
section
set_option Elab.async false
set_option linter.all false
set_option maxRecDepth 100000
/-! Pz: pure values, the pure store, a compact syntax and what it denotes. Plain Lean, no heap. -/
namespace Pz
open PySem

/-- pure values: lst, dct (t: its keys are tuples) are read-only; what is changed is a cell of the store; frz: the script; wtup: a tuple of the module's top; ktup: one that may be a dict's key; exn: an exception in hand -/
inductive PV where
  | non
  | bl (b : Bool)
  | int (i : Int)
  | str (x : Str)
  | tup (xs : List PV)
  | lst (xs : List PV)
  | dct (t : Bool) (ks vs : List PV)
  | cell (n : Nat)
  | fn (x : Str)
  | frz (xs : List PV)
  | wtup (xs : List PV)
  | ktup (xs : List PV)
  | exn (c : Str) (v : PV)
  deriving Inhabited

/-- what stands in a cell -/
inductive PO where
  | lst (xs : List PV)
  | dct (t : Bool) (ks vs : List PV)
  | ins (c : Str) (fs : List (Str × PV))
  deriving Inhabited

abbrev Store := List PO
/-- the model's longest list or text -/
abbrev lim : Nat := 16777216

/-- data: no cells, functions, dicts -/
def PV.data : PV → Option PyData
  | .non => some .none
  | .bl b => some (.bool b)
  | .int i => some (.int i)
  | .str x => some (.str x)
  | .tup xs => (dataL xs).map .tuple
  | .lst xs => (dataL xs).map .list
  | .wtup xs => (dataL xs).map .tuple
  | .ktup xs => (dataL xs).map .tuple
  | _ => none
where dataL : List PV → Option (List PyData)
  | [] => some []
  | x :: xs => match x.data, dataL xs with
    | some d, some ds => some (d :: ds)
    | _, _ => none

/-- the least number that is above all cells that it refers to -/
def PV.top : PV → Nat
  | .tup xs => topL xs
  | .lst xs => topL xs
  | .dct _ ks vs => max (topL ks) (topL vs)
  | .cell n => n + 1
  | .frz xs => topL xs
  | .wtup xs => topL xs
  | .ktup xs => topL xs
  | .exn _ v => v.top
  | _ => 0
where topL : List PV → Nat
  | [] => 0
  | x :: xs => max x.top (topL xs)
def topF : List (Str × PV) → Nat
  | [] => 0
  | (_, v) :: fs => max v.top (topF fs)
def PO.top : PO → Nat
  | .lst xs => PV.top.topL xs
  | .dct _ ks vs => max (PV.top.topL ks) (PV.top.topL vs)
  | .ins _ fs => topF fs
def topS : Store → Nat
  | [] => 0
  | o :: S => max o.top (topS S)

/-- the same term -/
def PV.same : PV → PV → Bool
  | .non, .non => true
  | .bl a, .bl b => a == b
  | .int a, .int b => a == b
  | .str a, .str b => decide (a = b)
  | .tup a, .tup b => sameL a b
  | .lst a, .lst b => sameL a b
  | .dct t a b, .dct u c d => t == u && (sameL a c && sameL b d)
  | .cell a, .cell b => a == b
  | .fn a, .fn b => decide (a = b)
  | .frz a, .frz b => sameL a b
  | .wtup a, .wtup b => sameL a b
  | .ktup a, .ktup b => sameL a b
  | .exn a b, .exn c d => decide (a = c) && same b d
  | _, _ => false
where sameL : List PV → List PV → Bool
  | [], [] => true
  | x :: xs, y :: ys => same x y && sameL xs ys
  | _, _ => false
def sameF : List (Str × PV) → List (Str × PV) → Bool
  | [], [] => true
  | (f, x) :: xs, (g, y) :: ys => decide (f = g) && PV.same x y && sameF xs ys
  | _, _ => false
def PO.same : PO → PO → Bool
  | .lst a, .lst b => PV.same.sameL a b
  | .dct t a b, .dct u c d => t == u && (PV.same.sameL a c && PV.same.sameL b d)
  | .ins c a, .ins d b => decide (c = d) && sameF a b
  | _, _ => false
def sameS : Store → Store → Bool
  | [], [] => true
  | x :: xs, y :: ys => PO.same x y && sameS xs ys
  | _, _ => false

/-! ### results -/
inductive R (α : Type) where
  | ok (a : α) (S : Store)
  | exc (c : Str) (v : PV) (S : Store)
  | out
def R.bind {α β : Type} (r : R α) (k : α → Store → R β) : R β := match r with
  | .ok a S => k a S
  | .exc c v S => .exc c v S
  | .out => .out
@[simp] theorem R.bind_ok {α β : Type} (a : α) (S : Store) (k : α → Store → R β) : (R.ok a S).bind k = k a S := Eq.trans rfl rfl
@[simp] theorem R.bind_exc {α β : Type} (c v S) (k : α → Store → R β) : (R.exc c v S : R α).bind k = .exc c v S := Eq.trans rfl rfl
@[simp] theorem R.bind_out {α β : Type} (k : α → Store → R β) : (R.out : R α).bind k = .out := Eq.trans rfl rfl
def ofO {α : Type} (o : Option α) (S : Store) : R α := match o with
  | some a => .ok a S
  | none => .out
@[simp] theorem ofO_some {α : Type} (a : α) (S : Store) : ofO (some a) S = .ok a S := Eq.trans rfl rfl
@[simp] theorem ofO_none {α : Type} (S : Store) : (ofO none S : R α) = .out := Eq.trans rfl rfl
abbrev Env := List (Option PV)

/-! ### reading values -/
def listOf (S : Store) : PV → Option (List PV)
  | .lst xs => some xs
  | .cell n => match S[n]? with
    | some (.lst xs) => some xs
    | _ => none
  | _ => none
def seqOf (S : Store) : PV → Option (List PV)
  | .tup xs => some xs
  | .frz xs => some xs
  | .wtup xs => some xs
  | .ktup xs => some xs
  | v => listOf S v
def tupOf : PV → Option (List PV)
  | .tup xs => some xs
  | .wtup xs => some xs
  | .ktup xs => some xs
  | _ => none
def dictOf (S : Store) : PV → Option (Bool × List PV × List PV)
  | .dct t ks vs => some (t, ks, vs)
  | .cell n => match S[n]? with
    | some (.dct t ks vs) => some (t, ks, vs)
    | _ => none
  | _ => none
/-- keys of dicts: an int or a text; a tuple of them -/
def keyK : PV → Option L2.Key
  | .int i => some (.inl i)
  | .str x => some (.inr x)
  | _ => none
def keysK : List PV → Option (List L2.Key)
  | [] => some []
  | x :: xs => match keyK x, keysK xs with
    | some k, some ks => some (k :: ks)
    | _, _ => none
abbrev DKey := Sum L2.Key (List L2.Key)
def keyOf (t : Bool) (x : PV) : Option DKey := match t with
  | false => (keyK x).map .inl
  | true => match x with
    | .ktup xs => (keysK xs).map .inr
    | _ => none
/-- data with the lists of cells -/
def dataOf (S : Store) : PV → Option PyData
  | .cell n => match S[n]? with
    | some (.lst xs) => (PV.data.dataL xs).map .list
    | _ => none
  | v => v.data
def truthy (S : Store) : PV → Option Bool
  | .non => some false
  | .bl b => some b
  | .int i => some (i != 0)
  | .str x => some ((x.length : Int) != 0)
  | .tup xs => some (!xs.isEmpty)
  | .ktup xs => some (!xs.isEmpty)
  | v => match listOf S v with
    | some xs => some (!xs.isEmpty)
    | none => none

def isNon : PV → Bool
  | .non => true
  | _ => false

/-! ### operators -/
inductive Bop where
  | add | sub | mul | fdiv | mod
  deriving DecidableEq
inductive Cop where
  | eq | ne | lt | le | gt | ge | mem | nmem
  deriving DecidableEq
def shapedO (d : Option PyData) : Option PyData := match d with
  | some d => if SeqAt.shaped d = true then some d else none
  | none => none
def smallI (i : Int) : Bool := decide (-(2 ^ 64) < i) && decide (i < 2 ^ 64)
def catL (S : Store) (a b : PV) : Option PV := match listOf S a, listOf S b with
  | some xs, some ys => if xs.length + ys.length ≤ lim then some (.lst (xs ++ ys)) else none
  | _, _ => none
def binop (S : Store) : Bop → PV → PV → Option PV
  | .add, .int i, .int j => some (.int (i + j))
  | .add, .str x, .str y => if x.length + y.length ≤ lim then some (.str (x ++ y)) else none
  | .add, .tup xs, .tup ys => if xs.length + ys.length ≤ lim then some (.tup (xs ++ ys)) else none
  | .add, .tup xs, .ktup ys => if xs.length + ys.length ≤ lim then some (if xs.isEmpty = true then .ktup ys else .tup (xs ++ ys)) else none
  | .add, .ktup xs, .tup ys => if xs.length + ys.length ≤ lim then some (if xs.isEmpty = false ∧ ys.isEmpty = true then .ktup xs else .tup (xs ++ ys)) else none
  | .add, a, b => catL S a b
  | .sub, .int i, .int j => some (.int (i - j))
  | .mul, .int i, .int j => if smallI i = true ∨ smallI j = true then some (.int (i * j)) else none
  | .fdiv, .int i, .int j => if 0 < j ∧ j < 1073741824 then some (.int (i / j)) else none
  | .mod, .int i, .int j => if 0 < j then some (.int (i % j)) else none
  | _, _, _ => none
/-- the order of rows of whole numbers, from the first unlike pair on -/
def lexG (r : Int → Int → Bool) (z : Nat → Nat → Bool) : List Int → List Int → Bool
  | x :: xs, y :: ys => if x = y then lexG r z xs ys else r x y
  | xs, ys => z xs.length ys.length
def intsOf : List PV → Option (List Int)
  | [] => some []
  | .int i :: xs => match intsOf xs with
    | some is => some (i :: is)
    | none => none
  | _ => none
def order (p : Int → Int → Bool) (q : List Int → List Int → Bool) : PV → PV → Option PV
  | .int i, .int j => some (.bl (p i j))
  | a, b => match tupOf a, tupOf b with
    | some xs, some ys => match intsOf xs, intsOf ys with
      | some is, some js => some (.bl (q is js))
      | _, _ => none
    | _, _ => none
/-- by key: the value under it -/
def lookK (t : Bool) (k : DKey) : List PV → List PV → Option PV
  | x :: ks, v :: vs => if keyOf t x = some k then some v else lookK t k ks vs
  | _, _ => none
def isInSeq (S : Store) (x y : PV) : Option Bool := match seqOf S y with
  | some ys => match shapedO x.data, shapedO ((PV.data.dataL ys).map .list) with
    | some d, some (.list ds) => some (ds.any fun z => PyData.eqv z d)
    | _, _ => none
  | none => none
def isInDS (S : Store) (x y : PV) : Option Bool := match dictOf S y with
  | some (t, ks, vs) => match keyOf t x with
    | some d => some (lookK t d ks vs).isSome
    | none => none
  | none => isInSeq S x y
def isIn (S : Store) (x y : PV) : Option Bool := match y with
  | .str t => match x with
    | .str s => some (!(Builtin.Str.occurrences t s 0 t.length 1).isEmpty)
    | _ => none
  | _ => isInDS S x y
def cmpop (S : Store) : Cop → PV → PV → Option PV
  | .eq, a, b => match shapedO (dataOf S a), shapedO (dataOf S b) with
    | some x, some y => some (.bl (PyData.eqv x y))
    | _, _ => none
  | .ne, a, b => match shapedO (dataOf S a), shapedO (dataOf S b) with
    | some x, some y => some (.bl (!PyData.eqv x y))
    | _, _ => none
  | .lt, a, b => order (fun i j => decide (i < j)) (lexG (fun i j => decide (i < j)) fun i j => decide (i < j)) a b
  | .le, a, b => order (fun i j => decide (i ≤ j)) (lexG (fun i j => decide (i ≤ j)) fun i j => decide (i ≤ j)) a b
  | .gt, a, b => order (fun i j => decide (j < i)) (lexG (fun i j => decide (j < i)) fun i j => decide (j < i)) a b
  | .ge, a, b => order (fun i j => decide (j ≤ i)) (lexG (fun i j => decide (j ≤ i)) fun i j => decide (j ≤ i)) a b
  | .mem, a, b => (isIn S a b).map .bl
  | .nmem, a, b => (isIn S a b).map fun t => .bl (!t)
def index (S : Store) (a i : PV) : Option PV := match dictOf S a with
  | some (t, ks, vs) => match keyOf t i with
    | some d => lookK t d ks vs
    | none => none
  | none => match i with
    | .int i => match a with
      | .str x => match L2.atI x.cps.toList i with
        | some c => some (.str ⟨#[c]⟩)
        | none => none
      | _ => match seqOf S a with
        | some xs => L2.atI xs i
        | none => none
    | _ => none
/-- a[lo:hi] -/
def cut {α : Type} (xs : List α) (lo hi : Option Int) : List α := (xs.drop (HT.sIx xs.length 0 lo)).take (HT.sIx xs.length xs.length hi - HT.sIx xs.length 0 lo)
def slice (S : Store) (a : PV) (lo hi : Option Int) : Option PV := match a with
  | .str x => some (.str ⟨(cut x.cps.toList lo hi).toArray⟩)
  | .tup xs => some (.tup (cut xs lo hi))
  | _ => match listOf S a with
    | some xs => some (.lst (cut xs lo hi))
    | none => none

/-! ### built-in functions -/
inductive Bi where
  | len | abs | int | str | all | any | sum | tuple
  deriving DecidableEq
def boolsOf : List PV → Option (List Bool)
  | [] => some []
  | .bl b :: xs => match boolsOf xs with
    | some bs => some (b :: bs)
    | none => none
  | _ => none
def bi (S : Store) : Bi → List PV → Option PV
  | .len, [.str x] => some (.int x.length)
  | .len, [.dct _ ks _] => some (.int ks.length)
  | .len, [v] => match seqOf S v with
    | some xs => some (.int xs.length)
    | none => match dictOf S v with
      | some (_, ks, _) => some (.int ks.length)
      | none => none
  | .abs, [.int i] => some (.int (if i < 0 then -i else i))
  | .int, [.int i] => some (.int i)
  | .all, [v] => match listOf S v with
    | some xs => (boolsOf xs).map fun bs => .bl (bs.all id)
    | none => none
  | .any, [v] => match listOf S v with
    | some xs => (boolsOf xs).map fun bs => .bl (bs.any id)
    | none => none
  | .sum, [v] => match listOf S v with
    | some xs => (intsOf xs).map fun is => .int is.sum
    | none => none
  | .tuple, [.tup xs] => some (.tup xs)
  | .tuple, [.ktup xs] => some (.ktup xs)
  | .tuple, [v] => match listOf S v with
    | some xs => some (.tup xs)
    | none => none
  | _, _ => none

/-- built-in types and own exception classes, for isinstance -/
inductive Ty where
  | int | bool | str | tuple | list
  deriving DecidableEq
def strsOf : List PV → Option (List Str)
  | [] => some []
  | .str x :: xs => match strsOf xs with
    | some ss => some (x :: ss)
    | none => none
  | _ => none

/-! ### the compact syntax -/
mutual
inductive E where
  | var (i : Nat)
  | con (v : PV)
  | glo (x : Str) (v : PV)
  | tup (es : Es)
  | ktup (es : Es)
  | ro (f : F)
  | mk (f : F)
  | bin (op : Bop) (a b : E)
  | neg (a : E)
  | cmp (op : Cop) (a b : E)
  | chain (op1 op2 : Cop) (a b c : E)
  | isN (a : E)
  | notN (a : E)
  | and (a b : E)
  | or (a b : E)
  | not (a : E)
  | ite (c a b : E)
  | idx (a i : E)
  | slc (a : E) (lo hi : Eo)
  | rev (a : E)
  | bi (f : Bi) (es : Es)
  | inst (a : E) (t : Ty)
  | call (f : Str) (es : Es) (ds : List PV)
  | callK (f : Str) (es : Es) (ds : List PV)
  | callV (a : E) (es : Es)
  | meth (o : E) (m : Str) (es : Es)
  | make (c : Str) (es : Es)
  | fld (o : E) (f : Str)
  | app (o a : E)
  | ext (o a : E)
  | ixo (o a : E)
  | dcomp (t : Bool) (k v : E) (tg : Tg) (it : It) (own : List Nat)
  | ddisp (ks : List Str) (es : Es)
  | xfld (o : E) (f : Str)
  | instE (a : E) (cl : Str)
  | cntB (o : E) (b : Bool)
  | ixB (o : E) (b : Bool)
  | str1 (a : E)
inductive Es where
  | nil
  | cons (e : E) (es : Es)
inductive Eo where
  | none
  | some (e : E)
inductive F where
  | disp (es : Es)
  | comp (e : E) (tg : Tg) (it : It) (cond : Eo) (own : List Nat)
  | lst (a : E)
  | srs (a : E)
  | add (a b : E)
inductive It where
  | seq (a : E)
  | rng1 (b : E)
  | rng2 (a b : E)
  | rngD (a b : E)
  | enm (a : E)
  | zip (a b : E)
inductive Tg where
  | nm (i : Nat)
  | tup (ts : Tgs)
  | fld (o : E) (f : Str)
  | sub (o i : E)
inductive Tgs where
  | nil
  | cons (t : Tg) (ts : Tgs)
end

mutual
inductive St where
  | expr (e : E)
  | asg (t : Tg) (e : E)
  | par (is : List Nat) (es : Es)
  | aug (i : Nat) (op : Bop) (e : E)
  | ite (c : E) (a b : Sts)
  | fo (t : Tg) (it : It) (b : Sts)
  | wh (c : E) (b : Sts)
  | ret (e : E)
  | retN
  | rse (c : Str) (e : E)
  | pass
  | brk
  | cont
  | try_ (b : Sts) (c h : Str) (i : Nat)
inductive Sts where
  | nil
  | cons (s : St) (r : Sts)
end
mutual
/-- the slots of a target's names -/
def Tg.names : Tg → List Nat
  | .nm i => [i]
  | .tup ts => ts.names
  | _ => []
def Tgs.names : Tgs → List Nat
  | .nil => []
  | .cons t ts => t.names ++ ts.names
end
def Tgs.len : Tgs → Nat
  | .nil => 0
  | .cons _ ts => ts.len + 1
def Es.len : Es → Nat
  | .nil => 0
  | .cons _ es => es.len + 1

/-! ### the store behind a call -/
/-- cells from n on are no more: lists of theirs are read from now on -/
def freeze (n : Nat) (S : Store) : PV → PV
  | .cell i => if i < n then .cell i else match S[i]? with
    | some (.lst xs) => .lst xs
    | some (.dct t ks vs) => .dct t ks vs
    | _ => .cell i
  | .tup xs => .tup (freezeL xs)
  | v => v
where freezeL : List PV → List PV
  | [] => []
  | x :: xs => freeze n S x :: freezeL xs
/-- what stood ahead refers to nothing new -/
def shut (S S' : Store) : Bool := sameS (S'.take S.length) S || decide (topS (S'.take S.length) ≤ S.length)
def R.fin (S : Store) : R PV → R PV
  | .ok v S' => if decide (S.length ≤ S'.length) && shut S S' && decide ((freeze S.length S' v).top ≤ S.length) then .ok (freeze S.length S' v) (S'.take S.length) else .ok v S'
  | .exc c v S' => if decide (S.length ≤ S'.length) && shut S S' && decide (v.top ≤ S.length) then .exc c v (S'.take S.length) else .exc c v S'
  | .out => .out
/-- a result that is a new cell stays one, the only one -/
def R.finK (S : Store) : R PV → R PV
  | .ok (.cell i) S' => match S'[i]? with
    | some o => if decide (S.length ≤ i) && shut S S' && decide (o.top ≤ S.length) then .ok (.cell S.length) (S'.take S.length ++ [o]) else .ok (.cell i) S'
    | none => .out
  | r => r.fin S

/-! ### what it denotes -/
structure Cfg where
  /-- a def by its name, a method by its class's name and its own -/
  call : Str → List PV → Store → R PV
  meth : Str → Str → List PV → Store → R PV
  /-- a def called where an exception is handled -/
  hot : Str → Str → PV → Option Str
  /-- the own classes above a class -/
  sub : Str → List Str
  /-- an own class's attributes -/
  attrs : Str → List Str
  has : Str → Str → Bool
  /-- the own errors -/
  errs : List Str
  /-- an own error's field -/
  fld : Str → Str
  /-- instances are made -/
  mks : Bool
  /-- __init__, one room deeper -/
  init : Str → List PV → Store → R PV
  fuel : Nat

/-- where a walk goes over -/
inductive Src where
  | fix (xs : List PV)
  | cel (n : Nat)

def putF (f : Str) (v : PV) : List (Str × PV) → List (Str × PV)
  | [] => [(f, v)]
  | (g, w) :: r => if g = f then (g, v) :: r else (g, w) :: putF f v r

def inst (S : Store) (v : PV) (t : Ty) : Option Bool := match v with
  | .non => some false
  | .bl _ => some (decide (t = .int) || decide (t = .bool))
  | .int _ => some (decide (t = .int))
  | .str _ => some (decide (t = .str))
  | .tup _ => some (decide (t = .tuple))
  | .wtup _ => some (decide (t = .tuple))
  | .ktup _ => some (decide (t = .tuple))
  | .lst _ => some (decide (t = .list))
  | .dct _ _ _ => some false
  | .cell n => match S[n]? with
    | some (.lst _) => some (decide (t = .list))
    | _ => none
  | _ => none

/-- the slots of a comprehension's own names forgotten -/
def wipe (ρ : Env) : List Nat → Env
  | [] => ρ
  | v :: vs => (wipe ρ vs).set v none
def compLoop (chk : Store → Bool) (f : PV → Store → R (Option PV)) : List PV → Store → R (List PV)
  | [], S => if chk S = true then .ok [] S else .out
  | x :: xs, S => if chk S = true then (match f x S with
    | .ok o S1 => (match compLoop chk f xs S1 with
      | .ok ys S2 => .ok (o.toList ++ ys) S2
      | _ => .out)
    | _ => .out) else .out
def srcItems (S : Store) : Src → Option (List PV)
  | .fix xs => some xs
  | .cel n => match S[n]? with
    | some (.lst xs) => some xs
    | _ => none
def srcChk (s : Src) (xs : List PV) (S : Store) : Bool := match s with
  | .fix _ => true
  | .cel n => match S[n]? with
    | some (.lst ys) => PV.same.sameL ys xs
    | _ => false
def zipP : List PV → List PV → List PV
  | x :: xs, y :: ys => .ktup [x, y] :: zipP xs ys
  | _, _ => []
def enumP : Nat → List PV → List PV
  | _, [] => []
  | i, x :: xs => .ktup [.int i, x] :: enumP (i + 1) xs
def rangeP (a c : Int) (n : Nat) : List PV := (List.range n).map fun (i : Nat) => .int (a + (i : Int) * c)
/-- within the bounds of a range -/
def small (i : Int) : Prop := -1000000000000000000 ≤ i ∧ i ≤ 1000000000000000000
instance (i : Int) : Decidable (small i) := inferInstanceAs (Decidable (_ ∧ _))
/-- an entry put into a dict -/
def putK (t : Bool) (k : PV) (d : DKey) (v : PV) (ks vs : List PV) : List PV × List PV :=
  if (ks.any fun x => decide (keyOf t x = some d)) = true then (ks, ks.zipWith (fun x w => if keyOf t x = some d then v else w) vs) else (ks ++ [k], vs ++ [v])
/-- pairs put one after another -/
def putAll (t : Bool) : List PV → List PV × List PV → Option (List PV × List PV)
  | [], o => some o
  | .tup [k, v] :: r, (ks, vs) => match keyOf t k with
    | some d => putAll t r (putK t k d v ks vs)
    | none => none
  | _, _ => none

/-! ### sorted(set(..)) -/
/-- the different ones -/
def dd {α : Type} [DecidableEq α] : List α → List α
  | [] => []
  | x :: xs => if x ∈ xs then dd xs else x :: dd xs
def insBy {α : Type} (f : α → Int) (x : α) : List α → List α
  | [] => [x]
  | y :: ys => if f x ≤ f y then x :: y :: ys else y :: insBy f x ys
def sortBy {α : Type} (f : α → Int) : List α → List α
  | [] => []
  | x :: xs => insBy f x (sortBy f xs)
/-- rows of whole numbers that may be keys -/
def rowsK : List PV → Option (List (List Int))
  | [] => some []
  | .ktup xs :: r => match intsOf xs, rowsK r with
    | some is, some ks => some (is :: ks)
    | _, _ => none
  | _ => none
def codeB : List Int → Int
  | [] => 0
  | d :: r => d * 64 ^ r.length + codeB r
/-- sorted(set(xs)): whole numbers, few of them different; rows of them, of one length, below 64 -/
def srsOf (xs : List PV) : Option (List PV) := match intsOf xs with
  | some is => if (dd is).length < 63 ∧ is.length < 4000 then some ((sortBy id (dd is)).map .int) else none
  | none => match rowsK xs with
    | some (k :: ks) => if 1 ≤ k.length ∧ (∀ q ∈ k :: ks, q.length = k.length ∧ ∀ i ∈ q, 0 ≤ i ∧ i < 64) ∧ (dd (k :: ks)).length < 63 then some ((sortBy codeB (dd (k :: ks))).map fun q => .ktup (q.map .int)) else none
    | _ => none

mutual
def E.den (c : Cfg) : E → Env → Store → R PV
  | .var i, ρ, S => match ρ[i]? with
    | some (some v) => .ok v S
    | _ => .out
  | .con v, _, S => .ok v S
  | .glo _ v, _, S => .ok v S
  | .tup es, ρ, S => (es.den c ρ S).bind fun vs S1 => .ok (.tup vs) S1
  | .ktup es, ρ, S => (es.den c ρ S).bind fun vs S1 => .ok (.ktup vs) S1
  | .ro f, ρ, S => (f.den c ρ S).bind fun vs S1 => .ok (.lst vs) S1
  | .mk f, ρ, S => (f.den c ρ S).bind fun vs S1 => .ok (.cell S1.length) (S1 ++ [.lst vs])
  | .bin op a b, ρ, S => (a.den c ρ S).bind fun x S1 => (b.den c ρ S1).bind fun y S2 => ofO (binop S2 op x y) S2
  | .neg a, ρ, S => (a.den c ρ S).bind fun x S1 => match x with
    | .int i => .ok (.int (-i)) S1
    | _ => .out
  | .cmp op a b, ρ, S => (a.den c ρ S).bind fun x S1 => (b.den c ρ S1).bind fun y S2 => ofO (cmpop S2 op x y) S2
  | .chain o1 o2 a b d, ρ, S => (a.den c ρ S).bind fun x S1 => (b.den c ρ S1).bind fun y S2 => match cmpop S2 o1 x y with
    | some (.bl true) => (d.den c ρ S2).bind fun z S3 => ofO (cmpop S3 o2 y z) S3
    | some (.bl false) => .ok (.bl false) S2
    | _ => .out
  | .isN a, ρ, S => (a.den c ρ S).bind fun x S1 => .ok (.bl (isNon x)) S1
  | .notN a, ρ, S => (a.den c ρ S).bind fun x S1 => .ok (.bl (!isNon x)) S1
  | .and a b, ρ, S => (a.den c ρ S).bind fun x S1 => match truthy S1 x with
    | some true => b.den c ρ S1
    | some false => .ok x S1
    | none => .out
  | .or a b, ρ, S => (a.den c ρ S).bind fun x S1 => match truthy S1 x with
    | some true => .ok x S1
    | some false => b.den c ρ S1
    | none => .out
  | .not a, ρ, S => (a.den c ρ S).bind fun x S1 => match truthy S1 x with
    | some t => .ok (.bl (!t)) S1
    | none => .out
  | .ite d a b, ρ, S => (d.den c ρ S).bind fun x S1 => match truthy S1 x with
    | some true => a.den c ρ S1
    | some false => b.den c ρ S1
    | none => .out
  | .idx a i, ρ, S => (a.den c ρ S).bind fun x S1 => (i.den c ρ S1).bind fun y S2 => ofO (index S2 x y) S2
  | .slc a lo hi, ρ, S => (a.den c ρ S).bind fun x S1 => (lo.den c ρ S1).bind fun l S2 => (hi.den c ρ S2).bind fun h S3 => ofO (slice S3 x l h) S3
  | .rev a, ρ, S => (a.den c ρ S).bind fun x S1 => match tupOf x with
    | some xs => .ok (.tup xs.reverse) S1
    | none => .out
  | .bi f es, ρ, S => (es.den c ρ S).bind fun vs S1 => ofO (bi S1 f vs) S1
  | .inst a t, ρ, S => (a.den c ρ S).bind fun x S1 => ofO ((Pz.inst S1 x t).map .bl) S1
  | .call f es ds, ρ, S => (es.den c ρ S).bind fun vs S1 => (c.call f (vs ++ ds) S1).fin S1
  | .callK f es ds, ρ, S => (es.den c ρ S).bind fun vs S1 => (c.call f (vs ++ ds) S1).finK S1
  | .callV a es, ρ, S => (a.den c ρ S).bind fun x S1 => match x with
    | .fn f => (es.den c ρ S1).bind fun vs S2 => (c.call f vs S2).fin S2
    | _ => .out
  | .meth o m es, ρ, S => (o.den c ρ S).bind fun x S1 => match x with
    | .cell n => match S1[n]? with
      | some (.ins C fs) => if (fs.lookup m).isNone = true ∧ c.has C m = true then (es.den c ρ S1).bind fun vs S2 => (c.meth C m (.cell n :: vs) S2).fin S2 else .out
      | _ => .out
    | _ => .out
  | .make C es, ρ, S => if c.mks = false then .out else (es.den c ρ S).bind fun vs S1 => match (c.init C (.cell S1.length :: vs) (S1 ++ [.ins C []])).fin (S1 ++ [.ins C []]) with
    | .ok .non S2 => .ok (.cell S1.length) S2
    | .exc x v S2 => .exc x v S2
    | _ => .out
  | .fld o f, ρ, S => (o.den c ρ S).bind fun x S1 => match x with
    | .cell n => match S1[n]? with
      | some (.ins _ fs) => ofO (fs.lookup f) S1
      | _ => .out
    | _ => .out
  | .xfld o f, ρ, S => (o.den c ρ S).bind fun x S1 => match x with
    | .exn cl v => if f = c.fld cl then .ok v S1 else .out
    | _ => .out
  | .instE a cl, ρ, S => (a.den c ρ S).bind fun x S1 => match x with
    | .exn cl1 _ => .ok (.bl (decide (cl ∈ cl1 :: c.sub cl1))) S1
    | _ => .out
  | .cntB o b, ρ, S => (o.den c ρ S).bind fun x S1 => match listOf S1 x with
    | some xs => match boolsOf xs with
      | some bs => .ok (.int (bs.count b : Nat)) S1
      | none => .out
    | none => .out
  | .ixB o b, ρ, S => (o.den c ρ S).bind fun x S1 => match listOf S1 x with
    | some xs => match boolsOf xs with
      | some bs => match bs.findIdx? fun q => decide (q = b) with
        | some j => .ok (.int (j : Nat)) S1
        | none => .out
      | none => .out
    | none => .out
  | .str1 a, ρ, S => (a.den c ρ S).bind fun x S1 => match x with
    | .str z => .ok (.str z) S1
    | .int i => if i.natAbs.log2 < 1920 ∧ (Str.ofString (toString i)).length ≤ lim then .ok (.str (Str.ofString (toString i))) S1 else .out
    | _ => .out
  | .app o a, ρ, S => (o.den c ρ S).bind fun x S1 => match x with
    | .cell n => match S1[n]? with
      | some (.lst _) => (a.den c ρ S1).bind fun y S2 => match S2[n]? with
        | some (.lst xs) => if xs.length < lim then .ok .non (S2.set n (.lst (xs ++ [y]))) else .out
        | _ => .out
      | _ => .out
    | _ => .out
  | .ext o a, ρ, S => (o.den c ρ S).bind fun x S1 => match x with
    | .cell n => match S1[n]? with
      | some (.lst _) => (a.den c ρ S1).bind fun y S2 => match S2[n]?, listOf S2 y with
        | some (.lst xs), some ys => if xs.length + ys.length ≤ lim then .ok .non (S2.set n (.lst (xs ++ ys))) else .out
        | _, _ => .out
      | _ => .out
    | _ => .out
  | .ixo o a, ρ, S => (o.den c ρ S).bind fun x S1 => match x with
    | .tup xs => (a.den c ρ S1).bind fun y S2 => match strsOf xs, y with
      | some ss, .str z => match ss.findIdx? fun q => decide (q = z) with
        | some j => .ok (.int (j : Nat)) S2
        | none => .out
      | _, _ => .out
    | _ => .out
  | .dcomp t k v tg it own, ρ, S => (it.den c ρ S).bind fun s S1 => match srcItems S1 s with
    | some xs => (compLoop (srcChk s xs) (fun x S' => (tg.den c x (wipe ρ own) S').bind fun ρ' S2 => (k.den c ρ' S2).bind fun y S3 => (v.den c ρ' S3).bind fun z S4 => .ok (some (.tup [y, z])) S4) xs S1).bind fun ps S2 => match putAll t ps ([], []) with
      | some (ks, vs) => .ok (.dct t ks vs) S2
      | none => .out
    | none => .out
  | .ddisp ks es, ρ, S => match es.den c ρ S with
    | .ok vs S1 => .ok (.dct false (ks.map .str) vs) S1
    | _ => .out
def Es.den (c : Cfg) : Es → Env → Store → R (List PV)
  | .nil, _, S => .ok [] S
  | .cons e es, ρ, S => (e.den c ρ S).bind fun v S1 => (es.den c ρ S1).bind fun vs S2 => .ok (v :: vs) S2
def Eo.den (c : Cfg) : Eo → Env → Store → R (Option Int)
  | .none, _, S => .ok none S
  | .some e, ρ, S => (e.den c ρ S).bind fun v S1 => match v with
    | .int i => .ok (some i) S1
    | _ => .out
/-- a clause's test -/
def Eo.denB (c : Cfg) : Eo → Env → Store → R Bool
  | .none, _, S => .ok true S
  | .some e, ρ, S => (e.den c ρ S).bind fun v S1 => ofO (truthy S1 v) S1
def F.den (c : Cfg) : F → Env → Store → R (List PV)
  | .disp es, ρ, S => es.den c ρ S
  | .comp e tg it cond own, ρ, S => (it.den c ρ S).bind fun s S1 => match srcItems S1 s with
    | some xs => compLoop (srcChk s xs) (fun x S' => (tg.den c x (wipe ρ own) S').bind fun ρ' S2 => (cond.denB c ρ' S2).bind fun t S3 => if t = true then (e.den c ρ' S3).bind fun y S4 => .ok (some y) S4 else .ok none S3) xs S1
    | none => .out
  | .lst a, ρ, S => (a.den c ρ S).bind fun x S1 => ofO (seqOf S1 x) S1
  | .srs a, ρ, S => (a.den c ρ S).bind fun x S1 => match seqOf S1 x with
    | some xs => ofO (srsOf xs) S1
    | none => .out
  | .add a b, ρ, S => (a.den c ρ S).bind fun x S1 => (b.den c ρ S1).bind fun y S2 => match listOf S2 x, listOf S2 y with
    | some xs, some ys => if xs.length + ys.length ≤ lim then .ok (xs ++ ys) S2 else .out
    | _, _ => .out
def It.den (c : Cfg) : It → Env → Store → R Src
  | .seq a, ρ, S => (a.den c ρ S).bind fun x S1 => match x with
    | .tup xs => .ok (.fix xs) S1
    | .lst xs => .ok (.fix xs) S1
    | .frz xs => .ok (.fix xs) S1
    | .wtup xs => .ok (.fix xs) S1
    | .ktup xs => .ok (.fix xs) S1
    | .cell n => if (listOf S1 (.cell n)).isSome = true then .ok (.cel n) S1 else .out
    | .str x => .ok (.fix (x.cps.toList.map fun z => .str ⟨#[z]⟩)) S1
    | _ => .out
  | .rng1 b, ρ, S => (b.den c ρ S).bind fun y S2 => match y with
    | .int j => if small j ∧ j.toNat ≤ lim then .ok (.fix (rangeP 0 1 j.toNat)) S2 else .out
    | _ => .out
  | .rng2 a b, ρ, S => (a.den c ρ S).bind fun x S1 => (b.den c ρ S1).bind fun y S2 => match x, y with
    | .int i, .int j => if small i ∧ small j ∧ (j - i).toNat ≤ lim then .ok (.fix (rangeP i 1 (j - i).toNat)) S2 else .out
    | _, _ => .out
  | .rngD a b, ρ, S => (a.den c ρ S).bind fun x S1 => (b.den c ρ S1).bind fun y S2 => match x, y with
    | .int i, .int j => if small i ∧ small j ∧ (i - j).toNat ≤ lim then .ok (.fix (rangeP i (-1) (i - j).toNat)) S2 else .out
    | _, _ => .out
  | .enm a, ρ, S => (a.den c ρ S).bind fun x S1 => match x with
    | .tup xs => .ok (.fix (enumP 0 xs)) S1
    | .ktup xs => .ok (.fix (enumP 0 xs)) S1
    | .lst xs => .ok (.fix (enumP 0 xs)) S1
    | _ => .out
  | .zip a b, ρ, S => (a.den c ρ S).bind fun x S1 => (b.den c ρ S1).bind fun y S2 => match x, y with
    | .tup xs, .tup ys => .ok (.fix (zipP xs ys)) S2
    | .lst xs, .lst ys => .ok (.fix (zipP xs ys)) S2
    | _, _ => .out
def Tg.den (c : Cfg) : Tg → PV → Env → Store → R Env
  | .nm i, v, ρ, S => .ok (ρ.set i (some v)) S
  | .tup ts, v, ρ, S => match tupOf v with
    | some xs => ts.den c xs ρ S
    | none => .out
  | .fld o f, v, ρ, S => (o.den c ρ S).bind fun x S1 => match x with
    | .cell n => match S1[n]? with
      | some (.ins C fs) => if fs.length < 1000 ∧ ((fs.lookup f).isSome = true ∨ f ∈ c.attrs C) then .ok ρ (S1.set n (.ins C (putF f v fs))) else .out
      | _ => .out
    | _ => .out
  | .sub o i, v, ρ, S => (o.den c ρ S).bind fun x S1 => (i.den c ρ S1).bind fun y S2 => match x with
    | .cell n => match S2[n]?, y with
      | some (.lst xs), .int k => match L2.ixN xs.length k with
        | some j => .ok ρ (S2.set n (.lst (xs.set j v)))
        | none => .out
      | some (.dct t ks vs), k => match keyOf t k with
        | some d => if ks.length < lim then .ok ρ (S2.set n (.dct t (putK t k d v ks vs).1 (putK t k d v ks vs).2)) else .out
        | none => .out
      | _, _ => .out
    | _ => .out
def Tgs.den (c : Cfg) : Tgs → List PV → Env → Store → R Env
  | .nil, vs, ρ, S => match vs with
    | [] => .ok ρ S
    | _ => .out
  | .cons t ts, vs, ρ, S => match vs with
    | v :: vs => match t.den c v ρ S with
      | .ok ρ1 S1 => (match ts.den c vs ρ1 S1 with
        | .ok ρ2 S2 => .ok ρ2 S2
        | _ => .out)
      | _ => .out
    | [] => .out
end
/-- an expression as a test -/
def E.denB (c : Cfg) (e : E) (ρ : Env) (S : Store) : R Bool := (e.den c ρ S).bind fun v S1 => ofO (truthy S1 v) S1

inductive SR where
  | nx (ρ : Env) (S : Store)
  | rt (v : PV) (ρ : Env) (S : Store)
  | bk (ρ : Env) (S : Store)
  | ct (ρ : Env) (S : Store)
  | exc (c : Str) (v : PV) (ρ : Env) (S : Store)
  | out
def onR {α : Type} (ρ : Env) (r : R α) (k : α → Store → SR) : SR := match r with
  | .ok a S => k a S
  | .exc c v S => .exc c v ρ S
  | .out => .out
@[simp] theorem onR_ok {α : Type} (ρ : Env) (a : α) (S : Store) (k : α → Store → SR) : onR ρ (.ok a S) k = k a S := Eq.trans rfl rfl
@[simp] theorem onR_exc {α : Type} (ρ : Env) (c v S) (k : α → Store → SR) : onR ρ (.exc c v S : R α) k = .exc c v ρ S := Eq.trans rfl rfl
@[simp] theorem onR_out {α : Type} (ρ : Env) (k : α → Store → SR) : onR ρ (.out : R α) k = .out := Eq.trans rfl rfl
def forLoop (body : PV → Env → Store → SR) : List PV → Env → Store → SR
  | [], ρ, S => .nx ρ S
  | x :: xs, ρ, S => match body x ρ S with
    | .nx ρ1 S1 => forLoop body xs ρ1 S1
    | .ct ρ1 S1 => forLoop body xs ρ1 S1
    | .bk ρ1 S1 => .nx ρ1 S1
    | r => r
/-- over a cell's list as it stands at each turn -/
def forCell (body : PV → Env → Store → SR) (n : Nat) : Nat → Nat → Env → Store → SR
  | 0, _, _, _ => .out
  | k + 1, i, ρ, S => match S[n]? with
    | some (.lst xs) => match xs[i]? with
      | none => if xs.length = i then .nx ρ S else .out
      | some x => match body x ρ S with
        | .nx ρ1 S1 => forCell body n k (i + 1) ρ1 S1
        | .ct ρ1 S1 => forCell body n k (i + 1) ρ1 S1
        | .bk ρ1 S1 => .nx ρ1 S1
        | r => r
    | _ => .out
def whileLoop (cond : Env → Store → R Bool) (body : Env → Store → SR) : Nat → Env → Store → SR
  | 0, _, _ => .out
  | k + 1, ρ, S => onR ρ (cond ρ S) fun t S1 => if t = true then
      match body ρ S1 with
      | .nx ρ1 S2 => whileLoop cond body k ρ1 S2
      | .ct ρ1 S2 => whileLoop cond body k ρ1 S2
      | .bk ρ1 S2 => .nx ρ1 S2
      | r => r
    else .nx ρ S1
def setAll : List Nat → List PV → Env → Env
  | i :: is, v :: vs, ρ => setAll is vs (ρ.set i (some v))
  | _, _, ρ => ρ

mutual
def St.den (c : Cfg) : St → Env → Store → SR
  | .expr e, ρ, S => onR ρ (e.den c ρ S) fun _ S1 => .nx ρ S1
  | .asg t e, ρ, S => onR ρ (e.den c ρ S) fun v S1 => onR ρ (t.den c v ρ S1) fun ρ1 S2 => .nx ρ1 S2
  | .par is es, ρ, S => onR ρ (es.den c ρ S) fun vs S1 => .nx (setAll is vs ρ) S1
  | .aug i op e, ρ, S => match ρ[i]? with
    | some (some x) => onR ρ (e.den c ρ S) fun y S1 => match x, y with
      | .int a, .int b => onR ρ (ofO (binop S1 op (.int a) (.int b)) S1) fun z S2 => .nx (ρ.set i (some z)) S2
      | _, _ => .out
    | _ => .out
  | .ite d a b, ρ, S => onR ρ (d.denB c ρ S) fun t S1 => if t = true then a.den c ρ S1 else b.den c ρ S1
  | .fo t it b, ρ, S => onR ρ (it.den c ρ S) fun s S1 => match s with
    | .fix xs => forLoop (fun x ρ1 S2 => onR ρ1 (t.den c x ρ1 S2) fun ρ2 S3 => b.den c ρ2 S3) xs ρ S1
    | .cel n => forCell (fun x ρ1 S2 => onR ρ1 (t.den c x ρ1 S2) fun ρ2 S3 => b.den c ρ2 S3) n c.fuel 0 ρ S1
  | .wh d b, ρ, S => whileLoop (fun ρ S => d.denB c ρ S) (fun ρ S => b.den c ρ S) c.fuel ρ S
  | .ret e, ρ, S => onR ρ (e.den c ρ S) fun v S1 => .rt v ρ S1
  | .retN, ρ, S => .rt .non ρ S
  | .rse x e, ρ, S => onR ρ (e.den c ρ S) fun v S1 => .exc x v ρ S1
  | .pass, ρ, S => .nx ρ S
  | .brk, ρ, S => .bk ρ S
  | .cont, ρ, S => .ct ρ S
  | .try_ b x h i, ρ, S => match b.den c ρ S with
    | .exc y v ρ1 S1 => if y ∈ c.errs then (if x ∈ y :: c.sub y then (match c.hot h y v with
      | some w => if i < ρ1.length ∧ w.length ≤ lim then .rt (.str w) ρ1 S1 else .out
      | none => .out) else .exc y v ρ1 S1) else .out
    | r => r
def Sts.den (c : Cfg) : Sts → Env → Store → SR
  | .nil, ρ, S => .nx ρ S
  | .cons s r, ρ, S => match s.den c ρ S with
    | .nx ρ1 S1 => r.den c ρ1 S1
    | q => q
end

/-! ### defs -/
structure Def where
  /-- it is called for caught errors only -/
  hot : Bool := false
  params : Nat
  dfl : List PV := []
  slots : Nat
  body : Sts
def Def.run (c : Cfg) (d : Def) (vs : List PV) (S : Store) : R PV :=
  if vs.length = d.params then
    match d.body.den c (vs.map some ++ List.replicate (d.slots - d.params) none) S with
    | .nx _ S1 => .ok .non S1
    | .rt v _ S1 => .ok v S1
    | .exc x v _ S1 => .exc x v S1
    | _ => .out
  else .out
structure Prog where
  defs : List (Str × Def)
  meths : List ((Str × Str) × Def)
  sub : List (Str × List Str)
  attrs : List (Str × List Str)
  fld : List (Str × Str)
  fuel : Nat
/-- where nothing is called -/
def cfg0 (P : Prog) : Cfg where
  call := fun _ _ _ => .out
  meth := fun _ _ _ _ => .out
  hot := fun _ _ _ => none
  sub := fun x => (P.sub.lookup x).getD []
  attrs := fun x => (P.attrs.lookup x).getD []
  fld := fun x => (P.fld.lookup x).getD ""
  has := fun C m => (P.meths.lookup (C, m)).isSome
  errs := P.fld.map (·.1)
  init := fun _ _ _ => .out
  mks := false
  fuel := P.fuel
def hotP (P : Prog) (h c : Str) (v : PV) : Option Str := match P.defs.lookup h with
  | some d => if v.top = 0 then (match d.run (cfg0 P) [.exn c v] [] with
    | .ok (.str x) _ => some x
    | _ => none) else none
  | none => none
/-- the calls to a depth -/
def cfg (P : Prog) : Nat → Cfg
  | 0 => { cfg0 P with hot := hotP P }
  | 1 => { cfg0 P with
    hot := hotP P
    mks := true
    call := fun f vs S => match P.defs.lookup f with
      | some d => if d.hot = true then .out else d.run (cfg P 0) vs S
      | none => .out
    meth := fun C m vs S => match P.meths.lookup (C, m) with
      | some d => d.run (cfg P 0) vs S
      | none => .out }
  | n + 2 => { cfg0 P with
    hot := hotP P
    mks := true
    call := fun f vs S => match P.defs.lookup f with
      | some d => if d.hot = true then .out else d.run (cfg P (n + 1)) vs S
      | none => .out
    meth := fun C m vs S => match P.meths.lookup (C, m) with
      | some d => d.run (cfg P (n + 1)) vs S
      | none => .out
    init := fun C vs S => match P.meths.lookup (C, ("__init__" : Str)) with
      | some d => d.run (cfg P n) vs S
      | none => .out }
end Pz
end
section
set_option Elab.async false
set_option linter.all false
set_option maxRecDepth 100000
/-! Pz: how pure values stand in the abstract heap; the readings. -/
namespace Pz
open PySem PySem.Spec PyProof.Rows L2
abbrev St' := L2.St
/-- the addresses of the store's cells; those of lists that are being made -/
structure Mp where
  c : List Addr
  h : List Addr
/-- neither -/
def Mp.out (m : Mp) (a : Addr) : Prop := a ∉ m.c ∧ a ∉ m.h

/-- a module's tables: what stands written, what its names hold, the field of an error class -/
structure Md where
  K : PySem.W.Frag
  mg : Str → Option Value
  fld : Str → Str
  /-- the error in hand: its object, its class, its dict, its class's name -/
  hot : Option (Addr × Addr × Addr × Str) := none

def keyPV : Key → PV
  | .inl i => .int i
  | .inr x => .str x
theorem keyK_keyPV (k : Key) : keyK (keyPV k) = some k := by cases k <;> rfl
theorem keyPV_of {x : PV} {k : Key} (h : keyK x = some k) : x = keyPV k := by
  cases x <;> simp [keyK] at h <;> subst h <;> rfl
theorem keysK_map (ks : List Key) : keysK (ks.map keyPV) = some ks := by
  induction ks with
  | nil => rfl
  | cons k ks ih => simp [keysK, keyK_keyPV, ih]
theorem keysK_of : ∀ {xs : List PV} {ks : List Key}, keysK xs = some ks → xs = ks.map keyPV
  | [], ks, h => by simp [keysK] at h; subst h; rfl
  | x :: xs, ks, h => by
    unfold keysK at h
    split at h
    · rename_i k r e1 e2
      cases h
      rw [keyPV_of e1, keysK_of e2]; rfl
    · cases h

/-- a tuple at a: its object is known, and no cell -/
def TAt (m : Mp) (H : Hp) (a : Addr) (vs : List V) : Prop := (∃ o : Obj, H a = some (.frz o (.tup vs)) ∧ o.dict = none) ∧ m.out a
theorem TAt.sq {K : PySem.W.Frag} {m : Mp} {H : Hp} {a : Addr} {vs : List V} (h : TAt m H a vs) : SqT K H a vs := let ⟨⟨o, h, _⟩, _⟩ := h; .inl (.inr ⟨o, h⟩)
/-- .. that may be a dict's key -/
def KAt (m : Mp) (H : Hp) (a : Addr) (vs : List V) : Prop := H a = some (.tup vs) ∧ m.out a
theorem KAt.sq {K : PySem.W.Frag} {m : Mp} {H : Hp} {a : Addr} {vs : List V} (h : KAt m H a vs) : SqT K H a vs := .inl (.inl h.1)
/-- a tuple of the module's top -/
def WAt (K : PySem.W.Frag) (a : Addr) (vs : List V) : Prop := ∃ (o : Obj) (its : Array Value) (n : Nat), K.lookup a = some o ∧ o.cls = .type "tuple" ∧ o.data = .seq its n ∧ its.size ≤ sizeLine ∧ Vals vs its.toList
/-- a list of the module's top -/
def LW (K : PySem.W.Frag) (a : Addr) (vs : List V) : Prop := ∃ (o : Obj) (its : Array Value) (n : Nat), K.lookup a = some o ∧ o.cls = .type "list" ∧ o.dict = none ∧ o.data = .seq its n ∧ its.size ≤ sizeLine ∧ Vals vs its.toList
theorem LW.sq {K : PySem.W.Frag} {H : Hp} {a : Addr} {vs : List V} (h : LW K a vs) : SqL K H a vs := .inr h
theorem WAt.sq {K : PySem.W.Frag} {H : Hp} {a : Addr} {vs : List V} (h : WAt K a vs) : SqT K H a vs := .inr h
mutual
inductive Rep (M : Md) (m : Mp) (H : Hp) : PV → V → Prop
  | non : Rep M m H .non .non
  | bl (b : Bool) : Rep M m H (.bl b) (.bl b)
  | int (i : Int) : Rep M m H (.int i) (.int i)
  | str {x : Str} : x.length ≤ lim → Rep M m H (.str x) (.str x)
  | tup {a : Addr} {vs : List V} {xs : List PV} : TAt m H a vs → vs.length ≤ lim → RepL M m H xs vs → Rep M m H (.tup xs) (.ref a)
  | lst {a : Addr} {vs : List V} {xs : List PV} : H a = some (.lst vs) → m.out a → vs.length ≤ lim → RepL M m H xs vs → Rep M m H (.lst xs) (.ref a)
  | dK {a : Addr} {kvs : List (Key × V)} {vs : List PV} : H a = some (.dK kvs) → m.out a → kvs.length ≤ lim → RepL M m H vs (kvs.map (·.2)) → Rep M m H (.dct false (kvs.map fun p => keyPV p.1) vs) (.ref a)
  | dT {a : Addr} {kvs : List (List Key × V)} {vs : List PV} : H a = some (.dT kvs) → m.out a → kvs.length ≤ lim → RepL M m H vs (kvs.map (·.2)) → Rep M m H (.dct true (kvs.map fun p => .ktup (p.1.map keyPV)) vs) (.ref a)
  | cell {n : Nat} {a : Addr} : m.c[n]? = some a → Rep M m H (.cell n) (.ref a)
  | fn {x : Str} {f : Addr} : M.mg x = some (.ref f) → PySem.W.keepIn M.K (.ref f) = true → Rep M m H (.fn x) (.ref f)
  | frz {a : Addr} {o : Obj} {vs : List V} {xs : List PV} : H a = some (.frz o (.lst vs)) → m.out a → vs.length ≤ lim → RepL M m H xs vs → Rep M m H (.frz xs) (.ref a)
  | frw {a : Addr} {vs : List V} {xs : List PV} : LW M.K a vs → vs.length ≤ lim → RepL M m H xs vs → Rep M m H (.frz xs) (.ref a)
  | ktup {a : Addr} {vs : List V} {xs : List PV} : KAt m H a vs → vs.length ≤ lim → RepL M m H xs vs → Rep M m H (.ktup xs) (.ref a)
  | wtup {a : Addr} {vs : List V} {xs : List PV} : WAt M.K a vs → vs.length ≤ lim → RepL M m H xs vs → Rep M m H (.wtup xs) (.ref a)
  | exn {c : Str} {x : PV} {C a dd : Addr} {u : V} : M.hot = some (a, C, dd, c) → M.mg c = some (.ref C) → H dd = some (.xd [(M.fld c, u)]) → m.out dd → Rep M m H x u → Rep M m H (.exn c x) (.ref a)
inductive RepL (M : Md) (m : Mp) (H : Hp) : List PV → List V → Prop
  | nil : RepL M m H [] []
  | cons {x : PV} {v : V} {xs : List PV} {vs : List V} : Rep M m H x v → RepL M m H xs vs → RepL M m H (x :: xs) (v :: vs)
end
section
variable {M : Md} {m m' m1 m2 : Mp} {H H' H1 H2 : Hp}
theorem RepL.length : ∀ {xs : List PV} {vs : List V}, RepL M m H xs vs → xs.length = vs.length
  | _, _, .nil => rfl
  | _, _, .cons _ t => by simp [t.length]
theorem RepL.get : ∀ {xs : List PV} {vs : List V} {i : Nat} {x : PV}, RepL M m H xs vs → xs[i]? = some x → ∃ v, vs[i]? = some v ∧ Rep M m H x v
  | _, _, _, _, .nil, e => by simp at e
  | _, _, 0, _, .cons r _, e => by simp at e; subst e; exact ⟨_, rfl, r⟩
  | _, _, i + 1, _, .cons _ t, e => by
    obtain ⟨v, h1, h2⟩ := RepL.get (i := i) t (by simpa using e)
    exact ⟨v, by simpa using h1, h2⟩
theorem RepL.get' : ∀ {xs : List PV} {vs : List V} {i : Nat} {v : V}, RepL M m H xs vs → vs[i]? = some v → ∃ x, xs[i]? = some x ∧ Rep M m H x v
  | _, _, _, _, .nil, e => by simp at e
  | _, _, 0, _, .cons r _, e => by simp at e; subst e; exact ⟨_, rfl, r⟩
  | _, _, i + 1, _, .cons _ t, e => by
    obtain ⟨v, h1, h2⟩ := RepL.get' (i := i) t (by simpa using e)
    exact ⟨v, by simpa using h1, h2⟩
theorem RepL.append : ∀ {xs ys : List PV} {vs ws : List V}, RepL M m H xs vs → RepL M m H ys ws → RepL M m H (xs ++ ys) (vs ++ ws)
  | _, _, _, _, .nil, s => s
  | _, _, _, _, .cons r t, s => .cons r (RepL.append t s)
theorem RepL.drop : ∀ {xs : List PV} {vs : List V} (n : Nat), RepL M m H xs vs → RepL M m H (xs.drop n) (vs.drop n)
  | _, _, 0, r => r
  | _, _, _ + 1, .nil => .nil
  | _, _, n + 1, .cons _ t => RepL.drop n t
theorem RepL.take : ∀ {xs : List PV} {vs : List V} (n : Nat), RepL M m H xs vs → RepL M m H (xs.take n) (vs.take n)
  | _, _, 0, _ => .nil
  | _, _, _ + 1, .nil => .nil
  | _, _, n + 1, .cons r t => .cons r (RepL.take n t)
theorem RepL.set : ∀ {xs : List PV} {vs : List V} (i : Nat) {x : PV} {v : V}, Rep M m H x v → RepL M m H xs vs → RepL M m H (xs.set i x) (vs.set i v)
  | _, _, _, _, _, _, .nil => .nil
  | _, _, 0, _, _, r, .cons _ t => .cons r t
  | _, _, i + 1, _, _, r, .cons q t => .cons q (RepL.set i r t)
theorem RepL.reverse {xs : List PV} {vs : List V} (h : RepL M m H xs vs) : RepL M m H xs.reverse vs.reverse := by
  induction xs generalizing vs with
  | nil => cases h; exact .nil
  | cons x xs ih => cases h with
    | cons r t => rw [List.reverse_cons, List.reverse_cons]; exact (ih t).append (.cons r .nil)
theorem RepL.one {x : PV} {vs : List V} (h : RepL M m H [x] vs) : ∃ v, vs = [v] ∧ Rep M m H x v := by
  cases h with
  | cons r t => cases t; exact ⟨_, rfl, r⟩
theorem RepL.two {x y : PV} {vs : List V} (h : RepL M m H [x, y] vs) : ∃ v w, vs = [v, w] ∧ Rep M m H x v ∧ Rep M m H y w := by
  cases h with
  | cons r t => obtain ⟨w, rfl, r2⟩ := t.one; exact ⟨_, _, rfl, r, r2⟩
theorem RepL.ints : ∀ {xs : List PV} {vs : List V} {is : List Int}, RepL M m H xs vs → intsOf xs = some is → vs = is.map V.int
  | _, _, _, .nil, e => by simp [intsOf] at e; subst e; rfl
  | _, _, is, .cons (x := x) r t, e => by
    unfold intsOf at e
    split at e
    · rename_i e1; cases e1
    · rename_i i xs' e1
      cases e1
      split at e
      · rename_i is' e2
        cases e
        cases r
        rw [t.ints e2]; rfl
      · cases e
    · cases e
theorem RepL.bools : ∀ {xs : List PV} {vs : List V} {bs : List Bool}, RepL M m H xs vs → boolsOf xs = some bs → vs = bs.map V.bl
  | _, _, _, .nil, e => by simp [boolsOf] at e; subst e; rfl
  | _, _, is, .cons (x := x) r t, e => by
    unfold boolsOf at e
    split at e
    · rename_i e1; cases e1
    · rename_i i xs' e1
      cases e1
      split at e
      · rename_i is' e2
        cases e
        cases r
        rw [t.bools e2]; rfl
      · cases e
    · cases e

/-- the heap and the cells behind some steps -/
structure Ext (m m' : Mp) (H H' : Hp) : Prop where
  pre : ∃ ms, m'.c = m.c ++ ms ∧ ∀ a ∈ ms, H a = none
  hid : m'.h = m.h
  keep : ∀ a o, H a = some o → a ∉ m.c → H' a = some o
  there : ∀ a ∈ m'.c, ∃ o, H' a = some o
theorem Ext.out (e : Ext m m' H H') {a : Addr} {o : HO} (h : H a = some o) (n : m.out a) : m'.out a := by
  obtain ⟨ms, e1, hm⟩ := e.pre
  refine ⟨fun z => ?_, by rw [e.hid]; exact n.2⟩
  rw [e1] at z
  rcases List.mem_append.mp z with z | z
  · exact n.1 z
  · rw [hm a z] at h; cases h
theorem Ext.at (e : Ext m m' H H') {n : Nat} {a : Addr} (h : m.c[n]? = some a) : m'.c[n]? = some a := by
  obtain ⟨ms, e1, hm⟩ := e.pre
  rw [e1, List.getElem?_append_left (List.getElem?_eq_some_iff.mp h).1]; exact h
theorem Ext.trans (e : Ext m m1 H H1) (f : Ext m1 m2 H1 H2) : Ext m m2 H H2 := by
  obtain ⟨ms, e1, hm⟩ := e.pre
  obtain ⟨ns, e2, hn⟩ := f.pre
  have nin : ∀ a o, H a = some o → a ∉ m.c → a ∉ m1.c := fun a o h n z => by
    rw [e1] at z
    rcases List.mem_append.mp z with z | z
    · exact n z
    · rw [hm a z] at h; cases h
  refine ⟨⟨ms ++ ns, by rw [e2, e1, List.append_assoc], fun a ha => ?_⟩, f.hid.trans e.hid, fun a o h n => f.keep a o (e.keep a o h n) (nin a o h n), f.there⟩
  rcases List.mem_append.mp ha with z | z
  · exact hm a z
  · cases q : H a with
    | none => rfl
    | some o =>
      by_cases k : a ∈ m.c
      · obtain ⟨o', h'⟩ := e.there a (by rw [e1]; exact List.mem_append_left _ k)
        rw [hn a z] at h'; cases h'
      · have := e.keep a o q k
        rw [hn a z] at this; cases this
theorem Ext.refl (h : ∀ a ∈ m.c, ∃ o, H a = some o) : Ext m m H H := ⟨⟨[], by simp, by simp⟩, rfl, fun _ _ h _ => h, h⟩
/-- one new object -/
theorem Ext.new {p : Addr} {o : HO} (h : ∀ a ∈ m.c, ∃ o, H a = some o) (hp : H p = none) : Ext m m H (upd H p o) := by
  refine ⟨⟨[], by simp, by simp⟩, rfl, fun a u e _ => ?_, fun a ha => ?_⟩
  · rw [upd_ne (ne_of_none e hp)]; exact e
  · obtain ⟨u, e⟩ := h a ha
    exact ⟨u, by rw [upd_ne (ne_of_none e hp)]; exact e⟩
/-- .. with one more cell -/
def Mp.add (m : Mp) (p : Addr) : Mp := { m with c := m.c ++ [p] }
theorem Ext.newCell {p : Addr} {o : HO} (h : ∀ a ∈ m.c, ∃ o, H a = some o) (hp : H p = none) : Ext m (m.add p) H (upd H p o) := by
  refine ⟨⟨[p], rfl, by simpa using hp⟩, rfl, fun a u e _ => ?_, fun a ha => ?_⟩
  · rw [upd_ne (ne_of_none e hp)]; exact e
  · rcases List.mem_append.mp ha with ha | ha
    · obtain ⟨u, e⟩ := h a ha
      exact ⟨u, by rw [upd_ne (ne_of_none e hp)]; exact e⟩
    · obtain rfl : a = p := by simpa using ha
      exact ⟨o, upd_same⟩
/-- a cell is changed -/
theorem Ext.upd {n : Nat} {p : Addr} {o : HO} (h : ∀ a ∈ m.c, ∃ o, H a = some o) (hp : m.c[n]? = some p) : Ext m m H (upd H p o) := by
  refine ⟨⟨[], by simp, by simp⟩, rfl, fun a u e k => ?_, fun a ha => ?_⟩
  · rw [upd_ne (fun z => k (by rw [z]; exact List.mem_of_getElem? hp))]; exact e
  · by_cases z : a = p
    · subst z; exact ⟨o, upd_same⟩
    · obtain ⟨u, e⟩ := h a ha
      exact ⟨u, by rw [upd_ne z]; exact e⟩

theorem TAt.mono {a : Addr} {vs : List V} (h : TAt m H a vs) (e : Ext m m' H H') : TAt m' H' a vs := let ⟨⟨o, h1, h2⟩, h3⟩ := h; ⟨⟨o, e.keep _ _ h1 h3.1, h2⟩, e.out h1 h3⟩
theorem KAt.mono {a : Addr} {vs : List V} (h : KAt m H a vs) (e : Ext m m' H H') : KAt m' H' a vs := ⟨e.keep _ _ h.1 h.2.1, e.out h.1 h.2⟩
mutual
theorem Rep.mono {x : PV} {v : V} (h : Rep M m H x v) (e : Ext m m' H H') : Rep M m' H' x v := match h with
  | .non => .non
  | .bl b => .bl b
  | .int i => .int i
  | .str h => .str h
  | .tup t l r => .tup (t.mono e) l (RepL.mono r e)
  | .lst h n l r => .lst (e.keep _ _ h n.1) (e.out h n) l (RepL.mono r e)
  | .dK h n l r => .dK (e.keep _ _ h n.1) (e.out h n) l (RepL.mono r e)
  | .dT h n l r => .dT (e.keep _ _ h n.1) (e.out h n) l (RepL.mono r e)
  | .cell h => .cell (e.at h)
  | .fn h h2 => .fn h h2
  | .frz h n l r => .frz (e.keep _ _ h n.1) (e.out h n) l (RepL.mono r e)
  | .wtup h l r => .wtup h l (RepL.mono r e)
  | .frw h l r => .frw h l (RepL.mono r e)
  | .ktup h l r => .ktup (h.mono e) l (RepL.mono r e)
  | .exn h0 h1 h n r => .exn h0 h1 (e.keep _ _ h n.1) (e.out h n) (Rep.mono r e)
theorem RepL.mono {xs : List PV} {vs : List V} (h : RepL M m H xs vs) (e : Ext m m' H H') : RepL M m' H' xs vs := match h with
  | .nil => .nil
  | .cons r t => .cons (Rep.mono r e) (RepL.mono t e)
end

/-- what stands in a cell -/
def RepO (M : Md) (m : Mp) (H : Hp) (a : Addr) : PO → Prop
  | .lst xs => ∃ vs, H a = some (.lst vs) ∧ vs.length ≤ lim ∧ RepL M m H xs vs
  | .dct false ks vs => ∃ kvs : List (Key × V), H a = some (.dK kvs) ∧ kvs.length ≤ lim ∧ ks = kvs.map (fun p => keyPV p.1) ∧ RepL M m H vs (kvs.map (·.2))
  | .dct true ks vs => ∃ kvs : List (List Key × V), H a = some (.dT kvs) ∧ kvs.length ≤ lim ∧ ks = kvs.map (fun p => .ktup (p.1.map keyPV)) ∧ RepL M m H vs (kvs.map (·.2))
  | .ins c fs => ∃ (C dx : Addr) (fvs : List (Str × V)), M.mg c = some (.ref C) ∧ H a = some (.ins C dx fvs) ∧ (Cls M.K C ∧ ∀ f ∈ fs.map (·.1), NoAttr M.K C f) ∧ fs.map (·.1) = fvs.map (·.1) ∧ RepL M m H (fs.map (·.2)) (fvs.map (·.2))
structure RepS (M : Md) (m : Mp) (H : Hp) (S : Store) : Prop where
  nd : m.c.Nodup
  len : m.c.length = S.length
  hid : ∀ a ∈ m.h, a ∉ m.c ∧ ∃ o, H a = some o
  ob : ∀ (n : Nat) (a : Addr) (o : PO), m.c[n]? = some a → S[n]? = some o → RepO M m H a o
theorem RepO.there {a : Addr} {o : PO} (h : RepO M m H a o) : ∃ u, H a = some u := by
  cases o with
  | lst xs => obtain ⟨vs, h, _⟩ := h; exact ⟨_, h⟩
  | dct t ks vs => cases t with
    | false => obtain ⟨kvs, h, _⟩ := h; exact ⟨_, h⟩
    | true => obtain ⟨kvs, h, _⟩ := h; exact ⟨_, h⟩
  | ins c fs => obtain ⟨C, dx, fvs, _, h, _⟩ := h; exact ⟨_, h⟩
theorem RepS.at {S : Store} (r : RepS M m H S) {n : Nat} {a : Addr} (h : m.c[n]? = some a) : ∃ o, S[n]? = some o ∧ RepO M m H a o := by
  have l : n < S.length := by rw [← r.len]; exact (List.getElem?_eq_some_iff.mp h).1
  exact ⟨S[n], by simp [l], r.ob n a _ h (by simp [l])⟩
theorem RepS.there {S : Store} (r : RepS M m H S) : ∀ a ∈ m.c, ∃ o, H a = some o := fun a ha => by
  obtain ⟨n, h⟩ := List.getElem?_of_mem ha
  obtain ⟨o, _, q⟩ := r.at h
  exact q.there
theorem RepS.refl {S : Store} (r : RepS M m H S) : Ext m m H H := Ext.refl r.there
/-- all cells are kept -/
theorem RepO.mono {a : Addr} {o : PO} (h : RepO M m H a o) (e : Ext m m' H H') (k : H' a = H a) : RepO M m' H' a o := by
  cases o with
  | lst xs => obtain ⟨vs, h, l, r⟩ := h; exact ⟨vs, by rw [k]; exact h, l, r.mono e⟩
  | dct t ks vs => cases t with
    | false => obtain ⟨kvs, h, l, q, r⟩ := h; exact ⟨kvs, by rw [k]; exact h, l, q, r.mono e⟩
    | true => obtain ⟨kvs, h, l, q, r⟩ := h; exact ⟨kvs, by rw [k]; exact h, l, q, r.mono e⟩
  | ins c fs => obtain ⟨C, dx, fvs, h0, h, z, q, r⟩ := h; exact ⟨C, dx, fvs, h0, by rw [k]; exact h, z, q, r.mono e⟩
/-- what is hidden stays so -/
theorem RepS.hidE {S : Store} (r : RepS M m H S) (e : Ext m m' H H') : ∀ a ∈ m'.h, a ∉ m'.c ∧ ∃ o, H' a = some o := fun a ha => by
  rw [e.hid] at ha
  obtain ⟨n, o, h⟩ := r.hid a ha
  obtain ⟨ms, e1, hm⟩ := e.pre
  refine ⟨fun z => ?_, o, e.keep a o h n⟩
  rw [e1] at z
  rcases List.mem_append.mp z with z | z
  · exact n z
  · rw [hm a z] at h; cases h
theorem RepS.new {S : Store} (r : RepS M m H S) {p : Addr} {o : HO} (hp : H p = none) : RepS M m (L2.upd H p o) S := by
  refine ⟨r.nd, r.len, r.hidE (Ext.new r.there hp), fun n a q h1 h2 => (r.ob n a q h1 h2).mono (Ext.new r.there hp) ?_⟩
  obtain ⟨u, e⟩ := r.there a (List.mem_of_getElem? h1)
  exact upd_ne (ne_of_none e hp)
theorem RepS.notin {S : Store} (r : RepS M m H S) {p : Addr} (hp : H p = none) : m.out p := by
  refine ⟨fun z => ?_, fun z => ?_⟩
  · obtain ⟨o, e⟩ := r.there p z
    rw [hp] at e; cases e
  · obtain ⟨_, o, e⟩ := r.hid p z
    rw [hp] at e; cases e
theorem RepS.newCell {S : Store} (r : RepS M m H S) {p : Addr} {o : HO} {q : PO} (hp : H p = none) (new : RepO M (m.add p) (L2.upd H p o) p q) : RepS M (m.add p) (L2.upd H p o) (S ++ [q]) := by
  have ex := Ext.newCell (o := o) r.there hp
  refine ⟨?_, by simp [r.len, Mp.add], r.hidE ex, fun n a u h1 h2 => ?_⟩
  · show (m.c ++ [p]).Nodup
    rw [List.nodup_append]
    refine ⟨r.nd, by simp, fun a ha b hb e => ?_⟩
    obtain rfl : b = p := by simpa using hb
    exact (r.notin hp).1 (e ▸ ha)
  · replace h1 : (m.c ++ [p])[n]? = some a := h1
    by_cases hn : n < m.c.length
    · rw [List.getElem?_append_left hn] at h1
      rw [List.getElem?_append_left (by rw [← r.len]; exact hn)] at h2
      refine (r.ob n a u h1 h2).mono ex ?_
      obtain ⟨w, e⟩ := r.there a (List.mem_of_getElem? h1)
      exact upd_ne (ne_of_none e hp)
    · have e1 : n = m.c.length := by
        have := (List.getElem?_eq_some_iff.mp h1).1
        simp at this; omega
      subst e1
      rw [List.getElem?_append_right (Nat.le_refl _)] at h1
      rw [r.len, List.getElem?_append_right (Nat.le_refl _)] at h2
      simp at h1 h2
      subst h1 h2
      exact new
theorem RepS.upd {S : Store} (r : RepS M m H S) {n : Nat} {p : Addr} {o : HO} {q : PO} (hp : m.c[n]? = some p) (new : RepO M m (L2.upd H p o) p q) : RepS M m (L2.upd H p o) (S.set n q) := by
  have ex := Ext.upd (o := o) r.there hp
  refine ⟨r.nd, by simp [r.len], r.hidE ex, fun k a u h1 h2 => ?_⟩
  by_cases hk : k = n
  · subst hk
    rw [hp] at h1; cases h1
    rw [List.getElem?_set_self (by rw [← r.len]; exact (List.getElem?_eq_some_iff.mp hp).1)] at h2
    cases h2
    exact new
  · rw [List.getElem?_set_ne (Ne.symm hk)] at h2
    refine (r.ob k a u h1 h2).mono ex (upd_ne fun e => hk ?_)
    subst e
    obtain ⟨l1, g1⟩ := List.getElem?_eq_some_iff.mp h1
    obtain ⟨l2, g2⟩ := List.getElem?_eq_some_iff.mp hp
    exact (List.getElem_inj r.nd).mp (g1.trans g2.symm)

/-! ### hidden lists -/
def Mp.hide (m : Mp) (p : Addr) : Mp := { m with h := p :: m.h }
mutual
theorem Rep.hide {x : PV} {v : V} (r : Rep M m H x v) {p : Addr} {o : HO} (hp : H p = none) : Rep M (m.hide p) (L2.upd H p o) x v := by
  have k : ∀ {a u}, H a = some u → m.out a → L2.upd H p o a = some u ∧ (m.hide p).out a := fun {a u} e n => by
    have ne := ne_of_none e hp
    exact ⟨by rw [upd_ne ne]; exact e, n.1, by simp only [Mp.hide, List.mem_cons, not_or]; exact ⟨ne, n.2⟩⟩
  cases r with
  | non => exact .non
  | bl b => exact .bl b
  | int i => exact .int i
  | str h => exact .str h
  | tup t l r => obtain ⟨⟨ob, t1, t2⟩, t3⟩ := t; exact .tup ⟨⟨ob, (k t1 t3).1, t2⟩, (k t1 t3).2⟩ l (RepL.hide r hp)
  | ktup t l r => exact .ktup (k t.1 t.2) l (RepL.hide r hp)
  | lst h n l r => exact .lst (k h n).1 (k h n).2 l (RepL.hide r hp)
  | dK h n l r => exact .dK (k h n).1 (k h n).2 l (RepL.hide r hp)
  | dT h n l r => exact .dT (k h n).1 (k h n).2 l (RepL.hide r hp)
  | cell h => exact .cell h
  | fn h h2 => exact .fn h h2
  | frz h n l r => exact .frz (k h n).1 (k h n).2 l (RepL.hide r hp)
  | wtup h l r => exact .wtup h l (RepL.hide r hp)
  | frw h l r => exact .frw h l (RepL.hide r hp)
  | exn h0 h1 h n r => exact .exn h0 h1 (k h n).1 (k h n).2 (Rep.hide r hp)
theorem RepL.hide {xs : List PV} {vs : List V} (r : RepL M m H xs vs) {p : Addr} {o : HO} (hp : H p = none) : RepL M (m.hide p) (L2.upd H p o) xs vs := by
  cases r with
  | nil => exact .nil
  | cons r t => exact .cons (Rep.hide r hp) (RepL.hide t hp)
end
mutual
/-- the hidden list grows -/
theorem Rep.grow {x : PV} {v : V} (r : Rep M m H x v) {p : Addr} {o : HO} (hp : p ∈ m.h) : Rep M m (L2.upd H p o) x v := by
  have k : ∀ {a u}, H a = some u → m.out a → L2.upd H p o a = some u := fun {a u} e n => by
    rw [upd_ne (fun z => n.2 (by rw [z]; exact hp))]; exact e
  cases r with
  | non => exact .non
  | bl b => exact .bl b
  | int i => exact .int i
  | str h => exact .str h
  | tup t l r => obtain ⟨⟨ob, t1, t2⟩, t3⟩ := t; exact .tup ⟨⟨ob, k t1 t3, t2⟩, t3⟩ l (RepL.grow r hp)
  | ktup t l r => exact .ktup ⟨k t.1 t.2, t.2⟩ l (RepL.grow r hp)
  | lst h n l r => exact .lst (k h n) n l (RepL.grow r hp)
  | dK h n l r => exact .dK (k h n) n l (RepL.grow r hp)
  | dT h n l r => exact .dT (k h n) n l (RepL.grow r hp)
  | cell h => exact .cell h
  | fn h h2 => exact .fn h h2
  | frz h n l r => exact .frz (k h n) n l (RepL.grow r hp)
  | wtup h l r => exact .wtup h l (RepL.grow r hp)
  | frw h l r => exact .frw h l (RepL.grow r hp)
  | exn h0 h1 h n r => exact .exn h0 h1 (k h n) n (Rep.grow r hp)
theorem RepL.grow {xs : List PV} {vs : List V} (r : RepL M m H xs vs) {p : Addr} {o : HO} (hp : p ∈ m.h) : RepL M m (L2.upd H p o) xs vs := by
  cases r with
  | nil => exact .nil
  | cons r t => exact .cons (Rep.grow r hp) (RepL.grow t hp)
end
mutual
/-- less is hidden -/
theorem Rep.show {x : PV} {v : V} (r : Rep M m H x v) {hs : List Addr} (hh : ∀ a ∈ hs, a ∈ m.h) : Rep M { m with h := hs } H x v := by
  have k : ∀ {a}, m.out a → ({ m with h := hs } : Mp).out a := fun {a} n => ⟨n.1, fun z => n.2 (hh a z)⟩
  cases r with
  | non => exact .non
  | bl b => exact .bl b
  | int i => exact .int i
  | str h => exact .str h
  | tup t l r => exact .tup ⟨t.1, k t.2⟩ l (RepL.show r hh)
  | ktup t l r => exact .ktup ⟨t.1, k t.2⟩ l (RepL.show r hh)
  | lst h n l r => exact .lst h (k n) l (RepL.show r hh)
  | dK h n l r => exact .dK h (k n) l (RepL.show r hh)
  | dT h n l r => exact .dT h (k n) l (RepL.show r hh)
  | cell h => exact .cell h
  | fn h h2 => exact .fn h h2
  | frz h n l r => exact .frz h (k n) l (RepL.show r hh)
  | wtup h l r => exact .wtup h l (RepL.show r hh)
  | frw h l r => exact .frw h l (RepL.show r hh)
  | exn h0 h1 h n r => exact .exn h0 h1 h (k n) (Rep.show r hh)
theorem RepL.show {xs : List PV} {vs : List V} (r : RepL M m H xs vs) {hs : List Addr} (hh : ∀ a ∈ hs, a ∈ m.h) : RepL M { m with h := hs } H xs vs := by
  cases r with
  | nil => exact .nil
  | cons r t => exact .cons (Rep.show r hh) (RepL.show t hh)
end
theorem RepO.hide {a : Addr} {q : PO} (r : RepO M m H a q) {p : Addr} {o : HO} (hp : H p = none) (ha : a ≠ p) : RepO M (m.hide p) (L2.upd H p o) a q := by
  have k : L2.upd H p o a = H a := upd_ne ha
  cases q with
  | lst xs => obtain ⟨vs, h, l, r⟩ := r; exact ⟨vs, by rw [k]; exact h, l, r.hide hp⟩
  | dct t ks vs => cases t with
    | false => obtain ⟨kvs, h, l, q, r⟩ := r; exact ⟨kvs, by rw [k]; exact h, l, q, r.hide hp⟩
    | true => obtain ⟨kvs, h, l, q, r⟩ := r; exact ⟨kvs, by rw [k]; exact h, l, q, r.hide hp⟩
  | ins c fs => obtain ⟨C, dx, fvs, h0, h, z, q, r⟩ := r; exact ⟨C, dx, fvs, h0, by rw [k]; exact h, z, q, r.hide hp⟩
theorem RepO.grow {a : Addr} {q : PO} (r : RepO M m H a q) {p : Addr} {o : HO} (hp : p ∈ m.h) (ha : a ≠ p) : RepO M m (L2.upd H p o) a q := by
  have k : L2.upd H p o a = H a := upd_ne ha
  cases q with
  | lst xs => obtain ⟨vs, h, l, r⟩ := r; exact ⟨vs, by rw [k]; exact h, l, r.grow hp⟩
  | dct t ks vs => cases t with
    | false => obtain ⟨kvs, h, l, q, r⟩ := r; exact ⟨kvs, by rw [k]; exact h, l, q, r.grow hp⟩
    | true => obtain ⟨kvs, h, l, q, r⟩ := r; exact ⟨kvs, by rw [k]; exact h, l, q, r.grow hp⟩
  | ins c fs => obtain ⟨C, dx, fvs, h0, h, z, q, r⟩ := r; exact ⟨C, dx, fvs, h0, by rw [k]; exact h, z, q, r.grow hp⟩
theorem RepO.show {a : Addr} {q : PO} (r : RepO M m H a q) {hs : List Addr} (hh : ∀ a ∈ hs, a ∈ m.h) : RepO M { m with h := hs } H a q := by
  cases q with
  | lst xs => obtain ⟨vs, h, l, r⟩ := r; exact ⟨vs, h, l, r.show hh⟩
  | dct t ks vs => cases t with
    | false => obtain ⟨kvs, h, l, q, r⟩ := r; exact ⟨kvs, h, l, q, r.show hh⟩
    | true => obtain ⟨kvs, h, l, q, r⟩ := r; exact ⟨kvs, h, l, q, r.show hh⟩
  | ins c fs => obtain ⟨C, dx, fvs, h0, h, z, q, r⟩ := r; exact ⟨C, dx, fvs, h0, h, z, q, r.show hh⟩
theorem RepS.hide {S : Store} (r : RepS M m H S) {p : Addr} {o : HO} (hp : H p = none) : RepS M (m.hide p) (L2.upd H p o) S := by
  have hc := (r.notin hp).1
  refine ⟨r.nd, r.len, fun a ha => ?_, fun n a q h1 h2 => (r.ob n a q h1 h2).hide hp fun e => hc (e ▸ List.mem_of_getElem? h1)⟩
  rcases List.mem_cons.mp ha with e | ha
  · subst e; exact ⟨hc, o, upd_same⟩
  · obtain ⟨n, u, e⟩ := r.hid a ha
    exact ⟨n, u, by rw [upd_ne (ne_of_none e hp)]; exact e⟩
theorem RepS.grow {S : Store} (r : RepS M m H S) {p : Addr} {o : HO} (hp : p ∈ m.h) : RepS M m (L2.upd H p o) S := by
  have hc := (r.hid p hp).1
  refine ⟨r.nd, r.len, fun a ha => ?_, fun n a q h1 h2 => (r.ob n a q h1 h2).grow hp fun e => hc (e ▸ List.mem_of_getElem? h1)⟩
  obtain ⟨n, u, e⟩ := r.hid a ha
  by_cases z : a = p
  · subst z; exact ⟨n, o, upd_same⟩
  · exact ⟨n, u, by rw [upd_ne z]; exact e⟩
theorem RepS.show {S : Store} (r : RepS M m H S) {hs : List Addr} (hh : ∀ a ∈ hs, a ∈ m.h) : RepS M { m with h := hs } H S :=
  ⟨r.nd, r.len, fun a ha => r.hid a (hh a ha), fun n a q h1 h2 => (r.ob n a q h1 h2).show hh⟩

/-- the frame's slots -/
structure RepE (M : Md) (m : Mp) (H : Hp) (ρ : Env) (σ : St') : Prop where
  len : ρ.length = σ.length
  at_ : ∀ (i : Nat) (x : PV), ρ[i]? = some (some x) → ∃ v, σ[i]? = some (some v) ∧ Rep M m H x v
theorem RepE.mono {ρ : Env} {σ : St'} (h : RepE M m H ρ σ) (e : Ext m m' H H') : RepE M m' H' ρ σ :=
  ⟨h.len, fun i x q => let ⟨v, a, b⟩ := h.at_ i x q; ⟨v, a, b.mono e⟩⟩
theorem RepE.set {ρ : Env} {σ : St'} (h : RepE M m H ρ σ) (i : Nat) {x : PV} {v : V} (r : Rep M m H x v) : RepE M m H (ρ.set i (some x)) (σ.set i (some v)) := by
  refine ⟨by simp [h.len], fun j y q => ?_⟩
  by_cases hj : j = i
  · subst hj
    by_cases l : j < ρ.length
    · rw [List.getElem?_set_self l] at q
      cases q
      exact ⟨v, by rw [List.getElem?_set_self (by rw [← h.len]; exact l)], r⟩
    · rw [List.getElem?_eq_none (by simpa using l)] at q; cases q
  · rw [List.getElem?_set_ne (Ne.symm hj)] at q ⊢
    exact h.at_ j y q
theorem RepE.hide {ρ : Env} {σ : St'} (h : RepE M m H ρ σ) {p : Addr} {o : HO} (hp : H p = none) : RepE M (m.hide p) (L2.upd H p o) ρ σ :=
  ⟨h.len, fun i x q => let ⟨v, a, b⟩ := h.at_ i x q; ⟨v, a, b.hide hp⟩⟩
theorem RepE.grow {ρ : Env} {σ : St'} (h : RepE M m H ρ σ) {p : Addr} {o : HO} (hp : p ∈ m.h) : RepE M m (L2.upd H p o) ρ σ :=
  ⟨h.len, fun i x q => let ⟨v, a, b⟩ := h.at_ i x q; ⟨v, a, b.grow hp⟩⟩
theorem RepE.wipe {ρ : Env} {σ : St'} (h : RepE M m H ρ σ) : ∀ vs : List Nat, RepE M m H (Pz.wipe ρ vs) (L2.wipe σ vs)
  | [] => h
  | v :: vs => by
    have ih := RepE.wipe h vs
    refine ⟨by simp [Pz.wipe, L2.wipe, ih.len], fun j y q => ?_⟩
    unfold Pz.wipe at q
    unfold L2.wipe
    by_cases hj : j = v
    · subst hj
      by_cases l : j < (Pz.wipe ρ vs).length
      · rw [List.getElem?_set_self l] at q; cases q
      · rw [List.getElem?_eq_none (by simpa using l)] at q; cases q
    · rw [List.getElem?_set_ne (Ne.symm hj)] at q ⊢
      exact ih.at_ j y q

/-- an error in the air: its class, its own dict -/
def ExcAt (M : Md) (m : Mp) (H : Hp) (c : Str) (v : PV) (cls : Value) (d : Option Addr) : Prop :=
  ∃ (C dd : Addr) (u : V), M.mg c = some (.ref C) ∧ cls = .ref C ∧ d = some dd ∧ H dd = some (.xd [(M.fld c, u)]) ∧ m.out dd ∧ Rep M m H v u
theorem ExcAt.mono {c : Str} {v : PV} {cls : Value} {d : Option Addr} (h : ExcAt M m H c v cls d) (e : Ext m m' H H') : ExcAt M m' H' c v cls d := by
  obtain ⟨C, dd, u, h1, h2, h3, h4, h5, h6⟩ := h
  exact ⟨C, dd, u, h1, h2, h3, e.keep _ _ h4 h5.1, e.out h4 h5, h6.mono e⟩

/-- what is wanted behind a pure result -/
def Post {α β : Type} (M : Md) (RA : Mp → Hp → α → β → Prop) (r : R α) (m : Mp) (H : Hp) (σ : St') (W : WX) (Q : β → Hp → Prop) : Prop := match r with
  | .ok a S' => ∀ m' H' b, Ext m m' H H' → RepS M m' H' S' → RA m' H' a b → Q b H'
  | .exc c v S' => ∀ m' H' cls d, Ext m m' H H' → RepS M m' H' S' → ExcAt M m' H' c v cls d → W cls d σ H'
  | .out => False
theorem Post.shift {α β : Type} {RA : Mp → Hp → α → β → Prop} {r : R α} {σ : St'} {W : WX} {Q : β → Hp → Prop} (h : Post M RA r m H σ W Q) (e : Ext m m1 H H1) : Post M RA r m1 H1 σ W Q := by
  cases r with
  | ok a S => exact fun m' H' b x s ra => h m' H' b (e.trans x) s ra
  | exc c v S => exact fun m' H' cls d x s ra => h m' H' cls d (e.trans x) s ra
  | out => exact h
theorem Post.bind {α β γ δ : Type} {RA : Mp → Hp → α → β → Prop} {RB : Mp → Hp → γ → δ → Prop} {r : R α} {k : α → Store → R γ} {σ : St'} {W : WX} {Q : δ → Hp → Prop} {Q' : β → Hp → Prop}
    (h : Post M RB (r.bind k) m H σ W Q) (q : ∀ a S1 m1 H1 b, r = .ok a S1 → Ext m m1 H H1 → RepS M m1 H1 S1 → RA m1 H1 a b → Post M RB (k a S1) m1 H1 σ W Q → Q' b H1) : Post M RA r m H σ W Q' := by
  cases r with
  | ok a S => exact fun m' H' b x s ra => q a S m' H' b rfl x s ra (Post.shift (by exact h) x)
  | exc c v S => exact h
  | out => exact h
theorem Post.ok {α β : Type} {RA : Mp → Hp → α → β → Prop} {a : α} {S : Store} {σ : St'} {W : WX} {Q : β → Hp → Prop} (h : Post M RA (.ok a S) m H σ W Q) {b : β} {H' : Hp} (e : Ext m m' H H') (s : RepS M m' H' S) (r : RA m' H' a b) : Q b H' := h m' H' b e s r
theorem Post.ok0 {α β : Type} {RA : Mp → Hp → α → β → Prop} {a : α} {S : Store} {σ : St'} {W : WX} {Q : β → Hp → Prop} (h : Post M RA (.ok a S) m H σ W Q) {b : β} (s : RepS M m H S) (r : RA m H a b) : Q b H := h m H b s.refl s r
theorem Post.ofO {α β : Type} {RA : Mp → Hp → α → β → Prop} {o : Option α} {S : Store} {σ : St'} {W : WX} {Q : β → Hp → Prop} (h : Post M RA (Pz.ofO o S) m H σ W Q) : ∃ a, o = some a ∧ Post M RA (.ok a S) m H σ W Q := by
  cases o with
  | none => exact False.elim h
  | some a => exact ⟨a, rfl, h⟩
def RepB : Mp → Hp → Bool → Bool → Prop := fun _ _ a b => a = b
def RepI : Mp → Hp → Option Int → Option Int → Prop := fun _ _ a b => a = b

/-! ### the readings -/
def tE (M : Md) (c : Cfg) (W : WX) (e : E) : TE := fun σ H Q => ∃ ρ S m, RepE M m H ρ σ ∧ RepS M m H S ∧ Post M (Rep M) (e.den c ρ S) m H σ W Q
def tT (M : Md) (c : Cfg) (W : WX) (e : E) : TT := fun σ H Q => ∃ ρ S m, RepE M m H ρ σ ∧ RepS M m H S ∧ Post M RepB (e.denB c ρ S) m H σ W Q
def tEs (M : Md) (c : Cfg) (W : WX) (e : Es) : TA := fun σ H Q => ∃ ρ S m, RepE M m H ρ σ ∧ RepS M m H S ∧ Post M (RepL M) (e.den c ρ S) m H σ W Q
def tEo (M : Md) (c : Cfg) (W : WX) (e : Eo) : TO := fun σ H Q => ∃ ρ S m, RepE M m H ρ σ ∧ RepS M m H S ∧ Post M RepI (e.den c ρ S) m H σ W Q
/-- the frame behind a target: other slots are as they were -/
def RepG (M : Md) (ns : List Nat) (σ : St') : Mp → Hp → Env → St' → Prop := fun m H ρ σ2 => RepE M m H ρ σ2 ∧ σ2.length = σ.length ∧ ∀ i, i ∉ ns → σ2[i]? = σ[i]?
def tG (M : Md) (c : Cfg) (W : WX) (t : Tg) : TG := fun v σ H Q => ∃ x ρ S m, Rep M m H x v ∧ RepE M m H ρ σ ∧ RepS M m H S ∧ Post M (RepG M t.names σ) (t.den c x ρ S) m H σ W Q
def tGs (M : Md) (c : Cfg) (W : WX) (t : Tgs) : TGs := fun vs σ H Q => ∃ xs ρ S m, RepL M m H xs vs ∧ RepE M m H ρ σ ∧ RepS M m H S ∧ Post M (RepG M t.names σ) (t.den c xs ρ S) m H σ W Q
/-- a new list: Q of the heap with it -/
def tF (M : Md) (c : Cfg) (W : WX) (f : F) : TE := fun σ H Q => ∃ ρ S m, RepE M m H ρ σ ∧ RepS M m H S ∧ Post M (RepL M) (f.den c ρ S) m H σ W fun vs H1 => vs.length ≤ lim → ∀ p, H1 p = none → Q (.ref p) (L2.upd H1 p (.lst vs))
def PostS (M : Md) (r : SR) (m : Mp) (H : Hp) (W : WX) (D : Ends) : Prop := match r with
  | .nx ρ S => ∀ m' H' σ, Ext m m' H H' → RepS M m' H' S → RepE M m' H' ρ σ → D.nx σ H'
  | .rt v ρ S => ∀ m' H' u, Ext m m' H H' → RepS M m' H' S → Rep M m' H' v u → D.rt u H'
  | .bk ρ S => ∀ m' H' σ, Ext m m' H H' → RepS M m' H' S → RepE M m' H' ρ σ → D.bk σ H'
  | .ct ρ S => ∀ m' H' σ, Ext m m' H H' → RepS M m' H' S → RepE M m' H' ρ σ → D.ct σ H'
  | .exc c v ρ S => ∀ m' H' σ cls d, Ext m m' H H' → RepS M m' H' S → RepE M m' H' ρ σ → ExcAt M m' H' c v cls d → W cls d σ H'
  | .out => False
def tS (M : Md) (c : Cfg) (W : WX) (s : St) : TS := fun D σ H => ∃ ρ S m, RepE M m H ρ σ ∧ RepS M m H S ∧ PostS M (s.den c ρ S) m H W D
def tSs (M : Md) (c : Cfg) (W : WX) (s : Sts) : TS := fun D σ H => ∃ ρ S m, RepE M m H ρ σ ∧ RepS M m H S ∧ PostS M (s.den c ρ S) m H W D
end
end Pz
end
section
set_option Elab.async false
set_option linter.all false
set_option maxRecDepth 100000
/-! Pz: the readings hold, expression by expression. -/
namespace Pz
open PySem PySem.Spec PyProof.Rows L2

theorem PE.imp {X : Cx} {e : Expr} {t t' : TE} (h : PE X e t) (i : ∀ σ H Q, t' σ H Q → t σ H Q) : PE X e t' := ⟨fun pins s σ H Q I q => h.run pins s σ H Q I (i _ _ _ q)⟩
theorem PT.imp {X : Cx} {e : Expr} {t t' : TT} (h : PT X e t) (i : ∀ σ H Q, t' σ H Q → t σ H Q) : PT X e t' := ⟨fun pins s σ H Q I q => h.run pins s σ H Q I (i _ _ _ q)⟩
theorem PA.imp {X : Cx} {e : List Expr} {t t' : TA} (h : PA X e t) (i : ∀ σ H Q, t' σ H Q → t σ H Q) : PA X e t' := ⟨fun pos pins s σ H Q I q => h.run pos pins s σ H Q I (i _ _ _ q)⟩
theorem PO.imp {X : Cx} {e : Option Expr} {t t' : TO} (h : L2.PO X e t) (i : ∀ σ H Q, t' σ H Q → t σ H Q) : L2.PO X e t' := ⟨fun pins s σ H Q I q => h.run pins s σ H Q I (i _ _ _ q)⟩
theorem PG.imp {X : Cx} {e : Expr} {t t' : TG} (h : PG X e t) (i : ∀ v σ H Q, t' v σ H Q → t v σ H Q) : PG X e t' := ⟨fun pins s σ H v u Q I r q => h.run pins s σ H v u Q I r (i _ _ _ _ q)⟩
theorem PGs.imp {X : Cx} {e : List Expr} {t t' : TGs} (h : PGs X e t) (i : ∀ v σ H Q, t' v σ H Q → t v σ H Q) : PGs X e t' := ⟨fun pins s σ H v u Q I r q => h.run pins s σ H v u Q I r (i _ _ _ _ q)⟩
theorem PS.imp {X : Cx} {e : Stmt} {t t' : TS} (h : PS X e t) (i : ∀ D σ H, t' D σ H → t D σ H) : PS X e t' := ⟨fun pins s σ H D I q => h.run pins s σ H D I (i _ _ _ q)⟩
theorem PSs.imp {X : Cx} {e : List Stmt} {t t' : TS} (h : PSs X e t) (i : ∀ D σ H, t' D σ H → t D σ H) : PSs X e t' := ⟨fun pins s σ H D I q => h.run pins s σ H D I (i _ _ _ q)⟩

theorem OpR.imp {X : Cx} {f : Value → Value → Sem Value} {r r' : R2} (h : OpR X f r) (i : ∀ x y H Q, r' x y H Q → r x y H Q) : OpR X f r' := fun pins s σ H x y v u Q I rx ry q => h pins s σ H x y v u Q I rx ry (i _ _ _ _ q)

/-- built-in names that the module leaves alone -/
def bltNames : List Str := ["len", "abs", "int", "str", "all", "any", "sum", "tuple", "list", "isinstance", "bool", "dict", "set", "range", "enumerate", "zip", "reversed", "sorted", "min", "max", "repr"]
/-- a context where the rules go: at a def's or a comprehension's text -/
structure Gd (M : Md) (X : Cx) : Prop where
  blt : ∀ x ∈ bltNames, M.mg x = none
  K : X.K = M.K
  mg : X.mg = M.mg
  nd : X.N.Nodup
  un : X.A.units + 70 < cLine
/-- .. and no error is handled -/
structure Gc (M : Md) (X : Cx) : Prop extends Gd M X where
  calm : X.calm = true

section
variable {M : Md} {m m' : Mp} {H H' : Hp} {S : Store}

/-! ### what values are -/
theorem Rep.listOf {x : PV} {v : V} {xs : List PV} (h : Rep M m H x v) (rs : RepS M m H S) (e : listOf S x = some xs) : ∃ a vs, v = .ref a ∧ H a = some (.lst vs) ∧ vs.length ≤ lim ∧ RepL M m H xs vs := by
  cases h with
  | lst h1 h2 h3 h4 => simp [Pz.listOf] at e; subst e; exact ⟨_, _, rfl, h1, h3, h4⟩
  | cell hc =>
    obtain ⟨o, e1, ro⟩ := rs.at hc
    simp only [Pz.listOf, e1] at e
    cases o with
    | lst ys => simp at e; subst e; obtain ⟨vs, h1, h2, h3⟩ := ro; exact ⟨_, _, rfl, h1, h2, h3⟩
    | _ => simp at e
  | _ => simp [Pz.listOf] at e
theorem Rep.seqOf {x : PV} {v : V} {xs : List PV} (h : Rep M m H x v) (rs : RepS M m H S) (e : seqOf S x = some xs) : ∃ a vs, v = .ref a ∧ (SqL M.K H a vs ∨ SqT M.K H a vs) ∧ vs.length ≤ lim ∧ RepL M m H xs vs := by
  cases h with
  | tup t l r => simp [Pz.seqOf] at e; subst e; exact ⟨_, _, rfl, .inr t.sq, l, r⟩
  | frz h n l r => simp [Pz.seqOf] at e; subst e; exact ⟨_, _, rfl, .inl (.inl (.inr ⟨_, h⟩)), l, r⟩
  | wtup h l r => simp [Pz.seqOf] at e; subst e; exact ⟨_, _, rfl, .inr h.sq, l, r⟩
  | frw h l r => simp [Pz.seqOf] at e; subst e; exact ⟨_, _, rfl, .inl h.sq, l, r⟩
  | ktup h l r => simp [Pz.seqOf] at e; subst e; exact ⟨_, _, rfl, .inr h.sq, l, r⟩
  | lst h1 h2 h3 h4 =>
    obtain ⟨a, vs, e1, e2, e3, e4⟩ := Rep.listOf (.lst h1 h2 h3 h4) rs (by simpa [Pz.seqOf] using e)
    exact ⟨a, vs, e1, .inl (SqL.of e2), e3, e4⟩
  | cell hc =>
    obtain ⟨a, vs, e1, e2, e3, e4⟩ := Rep.listOf (.cell hc) rs (by simpa [Pz.seqOf] using e)
    exact ⟨a, vs, e1, .inl (SqL.of e2), e3, e4⟩
  | _ => simp [Pz.seqOf, Pz.listOf] at e
theorem Rep.tupOf {x : PV} {v : V} {xs : List PV} (h : Rep M m H x v) (e : tupOf x = some xs) : ∃ a vs, v = .ref a ∧ SqT M.K H a vs ∧ vs.length ≤ lim ∧ RepL M m H xs vs := by
  cases h with
  | tup t l r => simp [Pz.tupOf] at e; subst e; exact ⟨_, _, rfl, t.sq, l, r⟩
  | wtup t l r => simp [Pz.tupOf] at e; subst e; exact ⟨_, _, rfl, t.sq, l, r⟩
  | ktup t l r => simp [Pz.tupOf] at e; subst e; exact ⟨_, _, rfl, t.sq, l, r⟩
  | _ => simp [Pz.tupOf] at e
/-- a dict, its keys of one kind -/
theorem Rep.dictOf {x : PV} {v : V} {t : Bool} {ks vs : List PV} (h : Rep M m H x v) (rs : RepS M m H S) (e : dictOf S x = some (t, ks, vs)) :
    ∃ a, v = .ref a ∧ ((t = false ∧ ∃ kvs : List (Key × V), H a = some (.dK kvs) ∧ kvs.length ≤ lim ∧ ks = kvs.map (fun p => keyPV p.1) ∧ RepL M m H vs (kvs.map (·.2))) ∨
      (t = true ∧ ∃ kvs : List (List Key × V), H a = some (.dT kvs) ∧ kvs.length ≤ lim ∧ ks = kvs.map (fun p => .ktup (p.1.map keyPV)) ∧ RepL M m H vs (kvs.map (·.2)))) := by
  cases h with
  | dK h1 h2 h3 h4 => simp [Pz.dictOf] at e; obtain ⟨rfl, rfl, rfl⟩ := e; exact ⟨_, rfl, .inl ⟨rfl, _, h1, h3, rfl, h4⟩⟩
  | dT h1 h2 h3 h4 => simp [Pz.dictOf] at e; obtain ⟨rfl, rfl, rfl⟩ := e; exact ⟨_, rfl, .inr ⟨rfl, _, h1, h3, rfl, h4⟩⟩
  | cell hc =>
    obtain ⟨o, e1, ro⟩ := rs.at hc
    simp only [Pz.dictOf, e1] at e
    cases o with
    | dct t' ks' vs' =>
      simp at e
      obtain ⟨rfl, rfl, rfl⟩ := e
      cases t' with
      | false => obtain ⟨kvs, h1, h2, h3, h4⟩ := ro; exact ⟨_, rfl, .inl ⟨rfl, kvs, h1, h2, h3, h4⟩⟩
      | true => obtain ⟨kvs, h1, h2, h3, h4⟩ := ro; exact ⟨_, rfl, .inr ⟨rfl, kvs, h1, h2, h3, h4⟩⟩
    | _ => simp at e
  | _ => simp [Pz.dictOf] at e
mutual
theorem Rep.dp {x : PV} {v : V} {d : PyData} (h : Rep M m H x v) (e : x.data = some d) : Dp M.K H v d := match h, e with
  | .non, e => by simp [PV.data] at e; subst e; exact .non
  | .bl b, e => by simp [PV.data] at e; subst e; exact .bl b
  | .int i, e => by simp [PV.data] at e; subst e; exact .int i
  | .str _, e => by simp [PV.data] at e; subst e; exact .str _
  | .tup t l r, e => by
    simp only [PV.data, Option.map_eq_some_iff] at e
    obtain ⟨ds, e1, rfl⟩ := e
    exact .tup t.sq (RepL.dp r e1)
  | .lst h1 _ _ r, e => by
    simp only [PV.data, Option.map_eq_some_iff] at e
    obtain ⟨ds, e1, rfl⟩ := e
    exact .lst (SqL.of h1) (RepL.dp r e1)
  | .dK .., e => by simp [PV.data] at e
  | .dT .., e => by simp [PV.data] at e
  | .cell .., e => by simp [PV.data] at e
  | .fn .., e => by simp [PV.data] at e
  | .frz .., e => by simp [PV.data] at e
  | .frw .., e => by simp [PV.data] at e
  | .exn .., e => by simp [PV.data] at e
  | .wtup h _ r, e => by
    simp only [PV.data, Option.map_eq_some_iff] at e
    obtain ⟨ds, e1, rfl⟩ := e
    exact .tup h.sq (RepL.dp r e1)
  | .ktup h _ r, e => by
    simp only [PV.data, Option.map_eq_some_iff] at e
    obtain ⟨ds, e1, rfl⟩ := e
    exact .tup h.sq (RepL.dp r e1)
theorem RepL.dp {xs : List PV} {vs : List V} {ds : List PyData} (h : RepL M m H xs vs) (e : PV.data.dataL xs = some ds) : DpAll M.K H vs ds := match h, e with
  | .nil, e => by simp [PV.data.dataL] at e; subst e; exact .nil
  | .cons r t, e => by
    unfold PV.data.dataL at e
    split at e
    · rename_i d r' e1 e2
      cases e
      exact .cons (Rep.dp r e1) (RepL.dp t e2)
    · cases e
end
theorem Rep.dpOf {x : PV} {v : V} {d : PyData} (h : Rep M m H x v) (rs : RepS M m H S) (e : dataOf S x = some d) : Dp M.K H v d := by
  cases x with
  | cell n =>
    cases h with
    | cell hc =>
      obtain ⟨o, e1, ro⟩ := rs.at hc
      simp only [dataOf, e1] at e
      cases o with
      | lst ys =>
        simp only [Option.map_eq_some_iff] at e
        obtain ⟨ds, e2, rfl⟩ := e
        obtain ⟨vs, h1, h2, h3⟩ := ro
        exact .lst (SqL.of h1) (h3.dp e2)
      | _ => simp at e
  | _ => exact h.dp (by simpa [dataOf] using e)
theorem shapedO_some {o : Option PyData} {d : PyData} (h : shapedO o = some d) : o = some d ∧ SeqAt.shaped d = true := by
  unfold shapedO at h
  split at h
  · split at h
    · cases h; exact ⟨rfl, by assumption⟩
    · cases h
  · cases h
theorem RepL.isEmpty {xs : List PV} {vs : List V} (h : RepL M m H xs vs) : xs.isEmpty = vs.isEmpty := by cases h <;> rfl
theorem Rep.truthy {x : PV} {v : V} {b : Bool} (h : Rep M m H x v) (rs : RepS M m H S) (e : truthy S x = some b) : TruV M.K v H b := by
  cases h with
  | non => have e' : some false = some b := e; cases e'; exact (rfl : false = false)
  | bl t => have e' : some t = some b := e; exact (Option.some.inj e').symm
  | int i => have e' : some (i != 0) = some b := e; cases e'; exact (rfl : (i != 0) = (i != 0))
  | @str x l => have e' : some ((x.length : Int) != 0) = some b := e; cases e'; exact ⟨l, rfl⟩
  | @tup a vs xs t l r => have e' : some (!xs.isEmpty) = some b := e; cases e'; exact .inr (.inl ⟨vs, t.sq, by rw [r.isEmpty]⟩)
  | @ktup a vs xs t l r => have e' : some (!xs.isEmpty) = some b := e; cases e'; exact .inr (.inl ⟨vs, t.sq, by rw [r.isEmpty]⟩)
  | @lst a vs xs h1 h2 h3 h4 => have e' : some (!xs.isEmpty) = some b := e; cases e'; exact .inl ⟨vs, SqL.of h1, by rw [h4.isEmpty]⟩
  | cell hc =>
    have e' : (match Pz.listOf S (.cell _) with | some xs => some (!xs.isEmpty) | none => none) = some b := e
    split at e'
    · rename_i xs e1
      cases e'
      obtain ⟨a, vs, e2, e3, e4, e5⟩ := Rep.listOf (.cell hc) rs e1
      cases e2
      exact .inl ⟨vs, SqL.of e3, by rw [e5.isEmpty]⟩
    · cases e'
  | _ => simp [Pz.truthy, Pz.listOf] at e

/-! ### names, constants -/
variable {X : Cx} {c : Cfg} {W : WX} {a b d : Expr} {a' b' d' : E} {pos : Pos}
theorem s_var {i : Nat} {x : Str} (hN : X.N[i]? = some x) (hv : Vis X.env.scope x) (hd : (x == ("__debug__" : Str)) = false) (hcd : (x == ("__classdict__" : Str)) = false) : PE X (.Name x pos) (tE M c W (.var i)) :=
  PE.imp (pe_var hN hv hd hcd) fun σ H Q ⟨ρ, S, m, re, rs, p⟩ => by
    simp only [E.den] at p
    split at p
    · rename_i v e
      obtain ⟨u, e1, r⟩ := re.at_ i v e
      exact ⟨u, e1, p.ok0 rs r⟩
    · exact p.elim
theorem s_int {i : Int} {j : Nat} : PE X (.Constant (.int i) j pos) (tE M c W (.con (.int i))) := PE.imp pe_int fun σ H Q ⟨ρ, S, m, re, rs, p⟩ => by simp only [E.den] at p; exact p.ok0 rs (Rep.int i)
theorem s_bl {i : Bool} {j : Nat} : PE X (.Constant (.bool i) j pos) (tE M c W (.con (.bl i))) := PE.imp pe_bl fun σ H Q ⟨ρ, S, m, re, rs, p⟩ => by simp only [E.den] at p; exact p.ok0 rs (Rep.bl i)
theorem s_non {j : Nat} : PE X (.Constant .none j pos) (tE M c W (.con .non)) := PE.imp pe_non fun σ H Q ⟨ρ, S, m, re, rs, p⟩ => by simp only [E.den] at p; exact p.ok0 rs Rep.non
theorem s_str {x : Str} {j : Nat} (l : x.length ≤ lim) : PE X (.Constant (.str x) j pos) (tE M c W (.con (.str x))) := PE.imp pe_str fun σ H Q ⟨ρ, S, m, re, rs, p⟩ => by simp only [E.den] at p; exact p.ok0 rs (Rep.str l)
/-- what a module's name holds -/
def GloOk (M : Md) (x : Str) (v : PV) : Prop := ∃ w u, M.mg x = some u ∧ RelV w u ∧ ∀ m H, Rep M m H v w
theorem s_glo (g : Gd M X) {x : Str} {v : PV} (hg : Gl X x) (h : GloOk M x v) (hd : (x == ("__debug__" : Str)) = false) : PE X (.Name x pos) (tE M c W (.glo x v)) := by
  obtain ⟨w, u, h1, h2, h3⟩ := h
  exact PE.imp (pe_glob hg (by rw [g.mg]; exact h1) h2 hd) fun σ H Q ⟨ρ, S, m, re, rs, p⟩ => by simp only [E.den] at p; exact p.ok0 rs (h3 m H)

/-! ### rows of expressions -/
theorem s_nil : PA X [] (tEs M c W .nil) := PA.imp pa_nil fun σ H Q ⟨ρ, S, m, re, rs, p⟩ => by simp only [Es.den] at p; exact p.ok0 rs RepL.nil
theorem s_cons {es : List Expr} {es' : Es} (ha : PE X a (tE M c W a')) (hr : PA X es (tEs M c W es')) (hs : starEach (a :: es) X.env = (false, eval a X.env) :: starEach es X.env) : PA X (a :: es) (tEs M c W (.cons a' es')) :=
  PA.imp (pa_cons ha hr hs) fun σ H Q ⟨ρ, S, m, re, rs, p⟩ => by
    simp only [Es.den] at p
    refine ⟨ρ, S, m, re, rs, p.bind fun v S1 m1 H1 u e1 x1 rs1 r1 p1 => ?_⟩
    refine ⟨ρ, S1, m1, re.mono x1, rs1, p1.bind fun vs S2 m2 H2 us e2 x2 rs2 r2 p2 => ?_⟩
    exact p2.ok0 rs2 (.cons (r1.mono x2) r2)
theorem s_ktup {es : List Expr} {es' : Es} {j} (h : PA X es (tEs M c W es')) (hl : es'.len ≤ lim) (hd : ∀ (ρ : Env) S vs S1, es'.den c ρ S = .ok vs S1 → vs.length = es'.len) : PE X (.Tuple es j pos) (tE M c W (.ktup es')) :=
  PE.imp (pe_tup h) fun σ H Q ⟨ρ, S, m, re, rs, p⟩ => by
    simp only [E.den] at p
    refine ⟨ρ, S, m, re, rs, p.bind fun vs S1 m1 H1 us e1 x1 rs1 r1 p1 => ?_⟩
    have hlen : us.length ≤ lim := by rw [← r1.length, hd ρ S vs S1 e1]; exact hl
    refine ⟨by rw [sizeLine_eq]; exact hlen, fun q hq => ?_⟩
    exact p1.ok (Ext.new rs1.there hq) (rs1.new hq) (.ktup ⟨upd_same, rs1.notin hq⟩ hlen (r1.mono (Ext.new rs1.there hq)))
/-- a tuple's object -/
abbrev tupO (its : List Value) : Obj := { cls := .type "tuple", data := .seq its.toArray }
/-- a new tuple, its object known -/
theorem tupNew {pins : List (Addr × Obj)} {σ : St'} {s : Shared} {t' : Nat} {xs : List V} {its : List Value} (I : Inv X pins σ H s) (r : Vals xs its) (hz : xs.length ≤ sizeLine) :
    Inv X pins σ (upd H s.heap.objs.size (.frz (tupO its) (.tup xs))) { s with heap := s.heap.push (tupO its), toks := t' } :=
  I.laid (t' := t') (fun b u e => Heap.get?_push_of_some _ e) (Nat.le_refl _) ⟨Heap.get?_push_size _ rfl, hz, its, r, ⟨_, Heap.get?_push_size _ rfl, rfl, 0, rfl⟩⟩
/-- what follows a new tuple -/
def NewT (H : Hp) (xs : List V) (Q : VK) : Prop := ∀ (p : Addr) (o : Obj), H p = none → o.dict = none → Q (.ref p) (upd H p (.frz o (.tup xs)))
theorem NewT.of {Q : VK} {σ : St'} {xs : List PV} {vs : List V} (rs : RepS M m H S) (r : RepL M m H xs vs) (l : vs.length ≤ lim) (p : Post M (Rep M) (.ok (.tup xs) S) m H σ W Q) : NewT H vs Q := fun q o hq ho =>
  p.ok (Ext.new rs.there hq) (rs.new hq) (.tup ⟨⟨o, upd_same, ho⟩, rs.notin hq⟩ l (r.mono (Ext.new rs.there hq)))
theorem pe_tupF {es : List Expr} {t : TA} {j} (h : PA X es t) : PE X (.Tuple es j pos) (fun σ H Q => t σ H fun xs H1 => xs.length ≤ sizeLine ∧ NewT H1 xs Q) := by
  refine ⟨fun pins s σ H Q I hq => ?_⟩
  refine wpAny_Tuple_spliced (thn (h.run pos pins s σ H _ I hq) fun us s1 ⟨xs, H1, I1, r, z, q⟩ => ⟨by rw [← r.length]; exact z, ?_⟩)
  exact ⟨.ref _, _, tupNew (t' := s1.toks) I1 r z, rfl, q _ _ (I1.hok.fresh (Nat.le_refl _)) rfl⟩
theorem s_tup {es : List Expr} {es' : Es} {j} (h : PA X es (tEs M c W es')) (hl : es'.len ≤ lim) (hd : ∀ (ρ : Env) S vs S1, es'.den c ρ S = .ok vs S1 → vs.length = es'.len) : PE X (.Tuple es j pos) (tE M c W (.tup es')) :=
  PE.imp (pe_tupF h) fun σ H Q ⟨ρ, S, m, re, rs, p⟩ => by
    simp only [E.den] at p
    refine ⟨ρ, S, m, re, rs, p.bind fun vs S1 m1 H1 us e1 x1 rs1 r1 p1 => ?_⟩
    have hlen : us.length ≤ lim := by rw [← r1.length, hd ρ S vs S1 e1]; exact hl
    exact ⟨by rw [sizeLine_eq]; exact hlen, NewT.of rs1 r1 hlen p1⟩
/-! ### new lists -/
theorem ro_tF {f' : F} {σ : St'} {Q : VK} : tE M c W (.ro f') σ H Q → tF M c W f' σ H Q := fun ⟨ρ, S, m, re, rs, p⟩ => by
  simp only [E.den] at p
  refine ⟨ρ, S, m, re, rs, p.bind fun vs S1 m1 H1 us e1 x1 rs1 r1 p1 => fun hlen q hq => ?_⟩
  exact p1.ok (Ext.new rs1.there hq) (rs1.new hq) (.lst upd_same (rs1.notin hq) hlen (r1.mono (Ext.new rs1.there hq)))
theorem s_ro {f' : F} (h : PE X a (tF M c W f')) : PE X a (tE M c W (.ro f')) := PE.imp h fun σ H Q => ro_tF
theorem mk_tF {f' : F} {σ : St'} {Q : VK} : tE M c W (.mk f') σ H Q → tF M c W f' σ H Q := fun ⟨ρ, S, m, re, rs, p⟩ => by
  simp only [E.den] at p
  refine ⟨ρ, S, m, re, rs, p.bind fun vs S1 m1 H1 us e1 x1 rs1 r1 p1 => fun hlen q hq => ?_⟩
  have ex : Ext m1 (m1.add q) H1 (upd H1 q (.lst us)) := Ext.newCell rs1.there hq
  exact p1.ok ex (rs1.newCell hq ⟨us, upd_same, hlen, r1.mono ex⟩) (.cell (by rw [← rs1.len]; simp [Mp.add]))
theorem s_mk {f' : F} (h : PE X a (tF M c W f')) : PE X a (tE M c W (.mk f')) := PE.imp h fun σ H Q => mk_tF
theorem s_disp {es : List Expr} {es' : Es} (h : PA X es (tEs M c W es')) (hl : es'.len ≤ lim) (hd : ∀ (ρ : Env) S vs S1, es'.den c ρ S = .ok vs S1 → vs.length = es'.len) : PE X (.List es pos) (tF M c W (.disp es')) :=
  PE.imp (pe_lst h) fun σ H Q ⟨ρ, S, m, re, rs, p⟩ => by
    simp only [F.den] at p
    refine ⟨ρ, S, m, re, rs, ?_⟩
    cases e : es'.den c ρ S with
    | ok vs S1 =>
      rw [e] at p
      intro m1 H1 us x1 rs1 r1
      have hlen : us.length ≤ lim := by rw [← r1.length, hd ρ S vs S1 e]; exact hl
      exact ⟨by rw [sizeLine_eq]; exact hlen, fun q hq => p m1 H1 us x1 rs1 r1 hlen q hq⟩
    | exc x v S1 => rw [e] at p; exact p
    | out => rw [e] at p; exact p

/-! ### operators -/
theorem post2 {op : PV → PV → Store → R PV} {σ : St'} {Q : VK} {ρ : Env} {R2' : V → V → Hp → VK → Prop} (re : RepE M m H ρ σ) (rs : RepS M m H S)
    (p : Post M (Rep M) ((a'.den c ρ S).bind fun x S1 => (b'.den c ρ S1).bind fun y S2 => op x y S2) m H σ W Q)
    (q : ∀ x y S2 m2 H2 u w, RepS M m2 H2 S2 → Rep M m2 H2 x u → Rep M m2 H2 y w → Post M (Rep M) (op x y S2) m2 H2 σ W Q → R2' u w H2 Q) : tOp R2' (tE M c W a') (tE M c W b') σ H Q := by
  refine ⟨ρ, S, m, re, rs, p.bind fun x S1 m1 H1 u e1 x1 rs1 r1 p1 => ?_⟩
  refine ⟨ρ, S1, m1, re.mono x1, rs1, p1.bind fun y S2 m2 H2 w e2 x2 rs2 r2 p2 => ?_⟩
  exact q x y S2 m2 H2 u w rs2 (r1.mono x2) r2 p2
def bopOf : Operator → Option Bop
  | .Add => some .add
  | .Sub => some .sub
  | .Mult => some .mul
  | .FloorDiv => some .fdiv
  | .Mod => some .mod
  | _ => none
/-- t + u -/
def rCatF (K : PySem.W.Frag) : R2 := fun x y H Q => ∃ a b xs ys, x = .ref a ∧ y = .ref b ∧ SqT K H a xs ∧ SqT K H b ys ∧ xs.length + ys.length ≤ sizeLine ∧
  (xs = [] → Q (.ref b) H) ∧ (xs ≠ [] → ys = [] → Q (.ref a) H) ∧ (xs ≠ [] → ys ≠ [] → NewT H (xs ++ ys) Q)
theorem op_catF : OpR X (binaryOp .Add) (rCatF X.K) := by
  intro pins s σ H x y v u Q I rx ry h
  obtain ⟨a, b, xs, ys, rfl, rfl, ha, hb, hz, q0, q1, q2⟩ := h
  cases rx
  cases ry
  obtain ⟨its, r1, p1, _⟩ := I.tuple ha
  obtain ⟨its2, r2, p2, _⟩ := I.tuple hb
  by_cases hx : xs = []
  · subst hx
    cases r1
    exact cat_tup0 p1 p2 ⟨.ref b, H, I, rfl, q0 rfl⟩
  · refine HT.cat_tup p1 p2 (fun z => hx (r1.nil_iff.mp z)) (fun z => ⟨.ref a, H, I, rfl, q1 hx (r2.nil_iff.mp z)⟩) (fun z => ?_) (by rw [← r1.length, ← r2.length]; exact hz)
    exact ⟨.ref _, _, tupNew (t' := s.toks) I (r1.append r2) (by rw [List.length_append]; exact hz), rfl, q2 hx (fun w => z (r2.nil_iff.mpr w)) _ _ (I.hok.fresh (Nat.le_refl _)) rfl⟩
def rAddP (K : PySem.W.Frag) : R2 := fun x y H Q => (∃ i j, x = .int i ∧ y = .int j ∧ Q (.int (i + j)) H) ∨ (∃ i j, x = .str i ∧ y = .str j ∧ i.length + j.length ≤ sizeLine ∧ Q (.str (i ++ j)) H) ∨ rCatF K x y H Q ∨ rCat x y H Q
theorem op_addP : OpR X (binaryOp .Add) (rAddP X.K) := op_add.or (op_add_str.or (op_catF.or op_cat))
theorem str_len_append (x y : Str) : (x ++ y).length = x.length + y.length := by
  show (x.cps ++ y.cps).size = _
  rw [Array.size_append]; rfl
theorem add_ok {x y z : PV} {u w : V} {Q : VK} {σ : St'} (rs : RepS M m H S) (r1 : Rep M m H x u) (r2 : Rep M m H y w) (e : binop S .add x y = some z) (p : Post M (Rep M) (.ok z S) m H σ W Q) : rAddP M.K u w H Q := by
  have gen : catL S x y = some z → rAddP M.K u w H Q := by
    intro e
    unfold catL at e
    split at e
    · rename_i xs ys e1 e2
      split at e
      · rename_i hl
        cases e
        obtain ⟨a, vs, rfl, h1, h2, h3⟩ := r1.listOf rs e1
        obtain ⟨b, ws, rfl, g1, g2, g3⟩ := r2.listOf rs e2
        refine .inr (.inr (.inr ⟨a, b, vs, ws, rfl, rfl, h1, g1, by rw [← h3.length, ← g3.length, sizeLine_eq]; exact hl, fun q hq => ?_⟩))
        refine p.ok (Ext.new rs.there hq) (rs.new hq) (.lst upd_same (rs.notin hq) (by rw [List.length_append, ← h3.length, ← g3.length]; exact hl) ((h3.append g3).mono (Ext.new rs.there hq)))
      · cases e
    · cases e
  cases r1 with
  | int i =>
    cases r2 with
    | int j => simp [binop] at e; subst e; exact .inl ⟨i, j, rfl, rfl, p.ok0 rs (.int _)⟩
    | _ => simp [binop, catL, Pz.listOf] at e
  | str l =>
    cases r2 with
    | str l2 =>
      simp only [binop] at e
      split at e
      · rename_i hl
        cases e
        exact .inr (.inl ⟨_, _, rfl, rfl, by rw [sizeLine_eq]; exact hl, p.ok0 rs (.str (by rw [str_len_append]; exact hl))⟩)
      · cases e
    | _ => simp [binop, catL, Pz.listOf] at e
  | @tup a vs xs t l r =>
    cases r2 with
    | @tup b ws ys t2 l2 r2 =>
      simp only [binop] at e
      split at e
      · rename_i hl
        cases e
        have hl' : vs.length + ws.length ≤ lim := by rw [← r.length, ← r2.length]; exact hl
        refine .inr (.inr (.inl ⟨a, b, vs, ws, rfl, rfl, t.sq, t2.sq, by rw [sizeLine_eq]; exact hl', fun h0 => ?_, fun h0 h1 => ?_, fun h0 h1 => ?_⟩))
        · subst h0; cases r; exact p.ok0 rs (.tup t2 l2 r2)
        · subst h1; cases r2; exact p.ok0 rs (by rw [List.append_nil]; exact .tup t l r)
        · exact NewT.of rs (r.append r2) (by rw [List.length_append]; exact hl') p
      · cases e
    | @ktup b ws ys t2 l2 r2 =>
      simp only [binop] at e
      split at e
      · rename_i hl
        cases e
        have hl' : vs.length + ws.length ≤ lim := by rw [← r.length, ← r2.length]; exact hl
        refine .inr (.inr (.inl ⟨a, b, vs, ws, rfl, rfl, t.sq, t2.sq, by rw [sizeLine_eq]; exact hl', fun h0 => ?_, fun h0 h1 => ?_, fun h0 h1 => ?_⟩))
        · subst h0; cases r; exact p.ok0 rs (.ktup t2 l2 r2)
        · subst h1
          cases r2
          cases r with
          | nil => exact absurd rfl h0
          | cons r0 rt => exact p.ok0 rs (by simp only [List.isEmpty_cons, Bool.false_eq_true, if_false, List.append_nil]; exact .tup t l (.cons r0 rt))
        · cases r with
          | nil => exact absurd rfl h0
          | cons r0 rt => exact NewT.of rs ((RepL.cons r0 rt).append r2) (by rw [List.length_append]; exact hl') p
      · cases e
    | _ => simp [binop, catL, Pz.listOf] at e
  | @ktup a vs xs t l r =>
    cases r2 with
    | @tup b ws ys t2 l2 r2 =>
      simp only [binop] at e
      split at e
      · rename_i hl
        cases e
        have hl' : vs.length + ws.length ≤ lim := by rw [← r.length, ← r2.length]; exact hl
        refine .inr (.inr (.inl ⟨a, b, vs, ws, rfl, rfl, t.sq, t2.sq, by rw [sizeLine_eq]; exact hl', fun h0 => ?_, fun h0 h1 => ?_, fun h0 h1 => ?_⟩))
        · subst h0; cases r; exact p.ok0 rs (.tup t2 l2 r2)
        · subst h1
          cases r2
          cases r with
          | nil => exact absurd rfl h0
          | cons r0 rt => exact p.ok0 rs (.ktup t l (.cons r0 rt))
        · cases r2 with
          | nil => exact absurd rfl h1
          | cons q0 qt =>
            cases r with
            | nil => exact absurd rfl h0
            | cons r0 rt => exact NewT.of rs ((RepL.cons r0 rt).append (.cons q0 qt)) (by rw [List.length_append]; exact hl') p
      · cases e
    | _ => simp [binop, catL, Pz.listOf] at e
  | lst h1 h2 h3 h4 => exact gen (by cases r2 <;> simpa [binop] using e)
  | cell hc => exact gen (by cases r2 <;> simpa [binop] using e)
  | _ => simp [binop, catL, Pz.listOf] at e
theorem s_bin (g : Gd M X) {op : Operator} {o : Bop} (ho : bopOf op = some o) (ha : PE X a (tE M c W a')) (hb : PE X b (tE M c W b')) : PE X (.BinOp a op b pos) (tE M c W (.bin o a' b')) := by
  cases op <;> simp [bopOf] at ho <;> subst ho
  · refine PE.imp (pe_op (op_addP (X := X)) ha hb) fun σ H Q ⟨ρ, S, m, re, rs, p⟩ => ?_
    simp only [E.den] at p
    refine post2 re rs p fun x y S2 m2 H2 u w rs2 r1 r2 p2 => ?_
    obtain ⟨z, e, p3⟩ := p2.ofO
    rw [g.K]
    exact add_ok rs2 r1 r2 e p3
  · refine PE.imp (pe_op op_sub ha hb) fun σ H Q ⟨ρ, S, m, re, rs, p⟩ => ?_
    simp only [E.den] at p
    refine post2 re rs p fun x y S2 m2 H2 u w rs2 r1 r2 p2 => ?_
    obtain ⟨z, e, p3⟩ := p2.ofO
    cases r1 <;> cases r2 <;> simp [binop] at e
    subst e
    exact ⟨_, _, rfl, rfl, p3.ok0 rs2 (.int _)⟩
  · refine PE.imp (pe_op op_mul ha hb) fun σ H Q ⟨ρ, S, m, re, rs, p⟩ => ?_
    simp only [E.den] at p
    refine post2 re rs p fun x y S2 m2 H2 u w rs2 r1 r2 p2 => ?_
    obtain ⟨z, e, p3⟩ := p2.ofO
    cases r1 <;> cases r2 <;> simp [binop] at e
    obtain ⟨h, e⟩ := e
    subst e
    refine ⟨_, _, rfl, rfl, ?_, p3.ok0 rs2 (.int _)⟩
    rcases h with h | h
    · exact .inl (by simpa [smallI] using h)
    · exact .inr (by simpa [smallI] using h)
  · refine PE.imp (pe_op op_mod ha hb) fun σ H Q ⟨ρ, S, m, re, rs, p⟩ => ?_
    simp only [E.den] at p
    refine post2 re rs p fun x y S2 m2 H2 u w rs2 r1 r2 p2 => ?_
    obtain ⟨z, e, p3⟩ := p2.ofO
    cases r1 <;> cases r2 <;> simp [binop] at e
    obtain ⟨h, e⟩ := e
    subst e
    exact ⟨_, _, rfl, rfl, h, p3.ok0 rs2 (.int _)⟩
  · refine PE.imp (pe_op op_fdiv ha hb) fun σ H Q ⟨ρ, S, m, re, rs, p⟩ => ?_
    simp only [E.den] at p
    refine post2 re rs p fun x y S2 m2 H2 u w rs2 r1 r2 p2 => ?_
    obtain ⟨z, e, p3⟩ := p2.ofO
    cases r1 <;> cases r2 <;> simp [binop] at e
    obtain ⟨h, e⟩ := e
    subst e
    exact ⟨_, _, rfl, rfl, h, p3.ok0 rs2 (.int _)⟩
theorem s_neg (ha : PE X a (tE M c W a')) : PE X (.UnaryOp .USub a pos) (tE M c W (.neg a')) :=
  PE.imp (pe_un un_neg ha) fun σ H Q ⟨ρ, S, m, re, rs, p⟩ => by
    simp only [E.den] at p
    refine ⟨ρ, S, m, re, rs, p.bind fun x S1 m1 H1 u e1 x1 rs1 r1 p1 => ?_⟩
    cases r1 with
    | int i => exact ⟨i, rfl, p1.ok0 rs1 (.int _)⟩
    | _ => exact False.elim p1
end
end Pz
end
section
set_option Elab.async false
set_option linter.all false
set_option maxRecDepth 100000
/-! Pz: comparisons, tests. -/
namespace Pz
open PySem PySem.Spec PyProof.Rows L2

/-! ### the order of rows of ints -/
theorem lexG_nil_left (r : Int → Int → Bool) (z : Nat → Nat → Bool) (ys : List Int) : lexG r z [] ys = z 0 ys.length := rfl
theorem lexG_nil_right (r : Int → Int → Bool) (z : Nat → Nat → Bool) (xs : List Int) : lexG r z xs [] = z xs.length 0 := by cases xs <;> rfl
theorem lexAt_lexG {ns ms : List Int} {r : Int → Int → Bool} {z : Nat → Nat → Bool} (hz : ∀ i j k, z (i + k) (j + k) = z i j) : ∀ (k i : Nat), i + k = min ns.length ms.length →
    Ob.lexAt (fun j => decide (ns.getD j 0 = ms.getD j 0)) (fun j => r (ns.getD j 0) (ms.getD j 0)) (z ns.length ms.length) i k = lexG r z (ns.drop i) (ms.drop i)
  | 0, i, h => by
    rw [Ob.lexAt_zero]
    have h' : i = min ns.length ms.length := by omega
    have hz' : z ns.length ms.length = z (ns.length - i) (ms.length - i) := by
      have := hz (ns.length - i) (ms.length - i) i
      rw [Nat.sub_add_cancel (by omega), Nat.sub_add_cancel (by omega)] at this
      exact this
    rw [hz']
    by_cases c : ns.length ≤ ms.length
    · have e : ns.drop i = [] := List.drop_eq_nil_of_le (by omega)
      rw [e, show ns.length - i = 0 by omega, lexG_nil_left, List.length_drop]
    · have e : ms.drop i = [] := List.drop_eq_nil_of_le (by omega)
      rw [e, show ms.length - i = 0 by omega, lexG_nil_right, List.length_drop]
  | k + 1, i, h => by
    rw [Ob.lexAt_succ]
    have h1 : i < ns.length := by omega
    have h2 : i < ms.length := by omega
    rw [List.drop_eq_getElem_cons h1, List.drop_eq_getElem_cons h2]
    have e1 : ns.getD i 0 = ns[i] := by simp [h1]
    have e2 : ms.getD i 0 = ms[i] := by simp [h2]
    simp only [e1, e2]
    unfold lexG
    by_cases q : ns[i] = ms[i]
    · rw [if_pos (by simpa using q), if_pos q]
      exact lexAt_lexG hz k (i + 1) (by omega)
    · rw [if_neg (by simpa using q), if_neg q]
def rOrd (K : PySem.W.Frag) (r : Int → Int → Bool) (z : Nat → Nat → Bool) : R2 := fun x y H Q => (∃ i j, x = .int i ∧ y = .int j ∧ Q (.bl (r i j)) H) ∨
  ∃ (a b : Addr) (ns ms : List Int), x = .ref a ∧ y = .ref b ∧ SqT K H a (ns.map V.int) ∧ SqT K H b (ms.map V.int) ∧ Q (.bl (lexG r z ns ms)) H
theorem op_ordT {X : Cx} (op : CmpOp) (r : Int → Int → Bool) (z : Nat → Nat → Bool) (hz : ∀ i j k, z (i + k) (j + k) = z i j)
    (hr : ∀ {s : Shared} (a b : Int) (t u : Tok), Ob.RcOp op X.A.in1 s (.int a t) (.int b u) (r a b))
    (ht : ∀ {s : Shared} {l b : Addr} {items items2 : Array Value} {e q : Nat → Bool}, s.heap.IsTuple l items → s.heap.IsTuple b items2 →
      (∀ j (h1 : j < items.size) (h2 : j < items2.size), SeqAt.EqAt X.A.in1 s items[j] items2[j] (e j)) → (∀ j (h1 : j < items.size) (h2 : j < items2.size), e j = false → Ob.RcOp op X.A.in1 s items[j] items2[j] (q j)) →
      Ob.RcOp op X.A s (.ref l) (.ref b) (Ob.lexAt e q (z items.size items2.size) 0 (min items.size items2.size)))
    (hco : ∀ v u, compareOp op v u = richCompare op v u) :
    OpR X (compareOp op) (fun x y H Q => ∃ (a b : Addr) (ns ms : List Int), x = .ref a ∧ y = .ref b ∧ SqT X.K H a (ns.map V.int) ∧ SqT X.K H b (ms.map V.int) ∧ Q (.bl (lexG r z ns ms)) H) := by
  intro pins s σ H x y v u Q I rx ry h
  obtain ⟨a, b, ns, ms, rfl, rfl, ha, hb, q⟩ := h
  cases rx
  cases ry
  obtain ⟨its, r1, p1, _⟩ := I.tuple ha
  obtain ⟨its2, r2, p2, _⟩ := I.tuple hb
  have i1 : IntsAre its ns := Vals.ints r1
  have i2 : IntsAre its2 ms := Vals.ints r2
  have e1 : its.toArray.size = ns.length := by rw [List.size_toArray]; exact i1.length
  have e2 : its2.toArray.size = ms.length := by rw [List.size_toArray]; exact i2.length
  have at1 : ∀ j (h1 : j < its.toArray.size), ∃ t, its.toArray[j] = .int (ns.getD j 0) t := fun j h1 => PyProof.Rows.IntsAre.int_at i1 _ _ (by simp at h1; simp [h1])
  have at2 : ∀ j (h1 : j < its2.toArray.size), ∃ t, its2.toArray[j] = .int (ms.getD j 0) t := fun j h1 => PyProof.Rows.IntsAre.int_at i2 _ _ (by simp at h1; simp [h1])
  have R := ht (s := s) (e := fun j => decide (ns.getD j 0 = ms.getD j 0)) (q := fun j => r (ns.getD j 0) (ms.getD j 0)) p1 p2 (fun j h1 h2 => by
    obtain ⟨t, et⟩ := at1 j h1
    obtain ⟨t', et'⟩ := at2 j h2
    rw [et, et']
    have z : (ns.getD j 0 == ms.getD j 0) = decide (ns.getD j 0 = ms.getD j 0) := by
      by_cases q : ns.getD j 0 = ms.getD j 0
      · rw [decide_eq_true q]; exact beq_iff_eq.mpr q
      · rw [decide_eq_false q]; exact beq_eq_false_iff_ne.mpr q
    rw [← z]
    exact SeqAt.EqAt.int_int _ _ _ _) (fun j h1 h2 _ => by
    obtain ⟨t, et⟩ := at1 j h1
    obtain ⟨t', et'⟩ := at2 j h2
    rw [et, et']
    exact hr _ _ _ _)
  rw [e1, e2, lexAt_lexG hz _ 0 (by omega), List.drop_zero, List.drop_zero] at R
  rw [hco]
  exact R X.prog X.w X.xe (EP X pins σ Q) ⟨.bl _, H, I, rfl, q⟩
theorem op_ltP {X : Cx} (hu : X.A.units < cLine) : OpR X (compareOp .Lt) (rOrd X.K (fun i j => decide (i < j)) fun i j => decide (i < j)) :=
  op_lt.or (op_ordT .Lt _ _ (fun i j k => by simp) (fun a b t u => Ob.RcOp.lt_int a b t u) (fun h1 h2 h3 h4 => Ob.RcOp.tuples_lt h1 h2 hu h3 h4) fun _ _ => rfl)
theorem op_leP {X : Cx} (hu : X.A.units < cLine) : OpR X (compareOp .LtE) (rOrd X.K (fun i j => decide (i ≤ j)) fun i j => decide (i ≤ j)) :=
  op_le.or (op_ordT .LtE _ _ (fun i j k => by simp) (fun a b t u => Ob.RcOp.le_int a b t u) (fun h1 h2 h3 h4 => Ob.RcOp.tuples_le h1 h2 hu h3 h4) fun _ _ => rfl)
theorem op_gtP {X : Cx} (hu : X.A.units < cLine) : OpR X (compareOp .Gt) (rOrd X.K (fun i j => decide (j < i)) fun i j => decide (j < i)) :=
  op_gt.or (op_ordT .Gt _ _ (fun i j k => by simp) (fun a b t u => Ob.RcOp.gt_int a b t u) (fun h1 h2 h3 h4 => Ob.RcOp.tuples_gt h1 h2 hu h3 h4) fun _ _ => rfl)
theorem op_geP {X : Cx} (hu : X.A.units < cLine) : OpR X (compareOp .GtE) (rOrd X.K (fun i j => decide (j ≤ i)) fun i j => decide (j ≤ i)) :=
  op_ge.or (op_ordT .GtE _ _ (fun i j k => by simp) (fun a b t u => Ob.RcOp.ge_int a b t u) (fun h1 h2 h3 h4 => Ob.RcOp.tuples_ge h1 h2 hu h3 h4) fun _ _ => rfl)

/-! ### in -/
def rInT (K : PySem.W.Frag) (neg : Bool) : R2 := fun x y H Q => ∃ d ds, Dp K H x d ∧ Dp K H y (.tuple ds) ∧ SeqAt.shaped d = true ∧ SeqAt.shaped (.list ds) = true ∧ Q (.bl (if neg then !ds.any fun z => PyData.eqv z d else ds.any fun z => PyData.eqv z d)) H
theorem op_inT {X : Cx} (hu : X.A.units + 65 < cLine) : OpR X (compareOp .In) (rInT X.K false) := by
  intro pins s σ H x y v u Q I rx ry h
  obtain ⟨d, ds, hd, he, sd, se, q⟩ := h
  obtain ⟨as, r1⟩ := Dp.reads I d x v hd rx
  obtain ⟨bs, r2⟩ := Dp.reads I (.tuple ds) y u he ry
  exact SeqAt.in_tuple_reads r2 r1 (SeqAt.canLay_of_shaped se) (SeqAt.canLay_of_shaped sd) (room_in_shaped sd hu) ⟨.bl _, H, I, rfl, q⟩
theorem op_notInT {X : Cx} (hu : X.A.units + 65 < cLine) : OpR X (compareOp .NotIn) (rInT X.K true) := by
  intro pins s σ H x y v u Q I rx ry h
  obtain ⟨d, ds, hd, he, sd, se, q⟩ := h
  obtain ⟨as, r1⟩ := Dp.reads I d x v hd rx
  obtain ⟨bs, r2⟩ := Dp.reads I (.tuple ds) y u he ry
  exact SeqAt.notIn_tuple_reads r2 r1 (SeqAt.canLay_of_shaped se) (SeqAt.canLay_of_shaped sd) (room_in_shaped sd hu) ⟨.bl _, H, I, rfl, q⟩
def rInDc (neg : Bool) : R2 := fun x y H Q => ∃ a o, y = .ref a ∧ DGet H a x o ∧ Q (.bl (if neg then !o.isSome else o.isSome)) H
theorem op_inDc {X : Cx} (hu : X.A.units + 1 < cLine) : OpR X (compareOp .In) (rInDc false) := by
  intro pins s σ H x y v u Q I rx ry h
  obtain ⟨a, o, rfl, g, q⟩ := h
  cases ry
  exact d_in hu I g rx fun s' I' => ⟨.bl _, H, I', rfl, q⟩
theorem op_notInDc {X : Cx} (hu : X.A.units + 1 < cLine) : OpR X (compareOp .NotIn) (rInDc true) := by
  intro pins s σ H x y v u Q I rx ry h
  obtain ⟨a, o, rfl, g, q⟩ := h
  cases ry
  exact d_notIn hu I g rx fun s' I' => ⟨.bl _, H, I', rfl, q⟩
def rInP (K : PySem.W.Frag) : R2 := fun x y H Q => (∃ i j, x = .str i ∧ y = .str j ∧ Q (.bl (!(Builtin.Str.occurrences j i 0 j.length 1).isEmpty)) H) ∨ rInD K x y H Q ∨ rInT K false x y H Q ∨ rInDc false x y H Q
def rNotInP (K : PySem.W.Frag) : R2 := fun x y H Q => (∃ i j, x = .str i ∧ y = .str j ∧ Q (.bl (!(!(Builtin.Str.occurrences j i 0 j.length 1).isEmpty))) H) ∨ rNotInD K x y H Q ∨ rInT K true x y H Q ∨ rInDc true x y H Q
theorem op_inP {X : Cx} (hu : X.A.units + 65 < cLine) : OpR X (compareOp .In) (rInP X.K) := op_in_str.or ((op_inD hu).or ((op_inT hu).or (op_inDc (by omega))))
theorem op_notInP {X : Cx} (hu : X.A.units + 65 < cLine) : OpR X (compareOp .NotIn) (rNotInP X.K) := op_notIn_str.or ((op_notInD hu).or ((op_notInT hu).or (op_notInDc (by omega))))

section
variable {M : Md} {m m' : Mp} {H H' : Hp} {S : Store}
/-! ### dicts -/
theorem keyPV_kV {k : Key} {v : V} (h : Rep M m H (keyPV k) v) : v = kV k := by
  cases k <;> (cases h; rfl)
theorem keysPV_kV : ∀ {ks : List Key} {vs : List V}, RepL M m H (ks.map keyPV) vs → vs = ks.map kV
  | [], _, h => by cases h; rfl
  | k :: ks, _, h => by
    cases h with
    | cons r t => rw [keyPV_kV r, keysPV_kV t]; rfl
theorem keyPV_inj {a b : Key} (h : keyPV a = keyPV b) : a = b := by
  cases a <;> cases b <;> simp [keyPV] at h <;> rw [h]
theorem keysPV_inj : ∀ {a b : List Key}, a.map keyPV = b.map keyPV → a = b
  | [], [], _ => rfl
  | [], _ :: _, h => by simp at h
  | _ :: _, [], h => by simp at h
  | a :: as, b :: bs, h => by
    simp only [List.map_cons, List.cons.injEq] at h
    rw [keyPV_inj h.1, keysPV_inj h.2]
/-- what a dict's look-up finds -/
theorem lookK_K (k : Key) : ∀ {kvs : List (Key × V)} {vs : List PV}, RepL M m H vs (kvs.map (·.2)) → match lookK false (.inl k) (kvs.map fun p => keyPV p.1) vs with
    | some x => ∃ v, valV kvs k = some v ∧ Rep M m H x v
    | none => valV kvs k = none
  | [], vs, h => by cases h; exact rfl
  | (j, w) :: kvs, vs, h => by
    cases h with
    | @cons x v xs vs' r t =>
      simp only [List.map_cons, lookK, keyOf, keyK_keyPV, Option.map_some, Option.some.injEq, Sum.inl.injEq]
      by_cases e : j = k
      · rw [if_pos e]; exact ⟨w, valV_pos e, r⟩
      · rw [if_neg e, valV_neg e]; exact lookK_K k t
theorem lookK_T (k : List Key) : ∀ {kvs : List (List Key × V)} {vs : List PV}, RepL M m H vs (kvs.map (·.2)) → match lookK true (.inr k) (kvs.map fun p => .ktup (p.1.map keyPV)) vs with
    | some x => ∃ v, valV kvs k = some v ∧ Rep M m H x v
    | none => valV kvs k = none
  | [], vs, h => by cases h; exact rfl
  | (j, w) :: kvs, vs, h => by
    cases h with
    | @cons x v xs vs' r t =>
      simp only [List.map_cons, lookK, keyOf, keysK_map, Option.map_some, Option.some.injEq, Sum.inr.injEq]
      by_cases e : j = k
      · rw [if_pos e]; exact ⟨w, valV_pos e, r⟩
      · rw [if_neg e, valV_neg e]; exact lookK_T k t
/-- the key and the dict: what stands there -/
theorem dget_of {x y : PV} {u w : V} {t : Bool} {ks vs : List PV} {d : DKey} (rs : RepS M m H S) (r1 : Rep M m H x u) (r2 : Rep M m H y w) (e : dictOf S x = some (t, ks, vs)) (k : keyOf t y = some d) :
    ∃ a, u = .ref a ∧ match lookK t d ks vs with
      | some z => ∃ v, DGet H a w (some v) ∧ Rep M m H z v
      | none => DGet H a w none := by
  obtain ⟨a, rfl, h⟩ := r1.dictOf rs e
  refine ⟨a, rfl, ?_⟩
  rcases h with ⟨rfl, kvs, h1, h2, rfl, h4⟩ | ⟨rfl, kvs, h1, h2, rfl, h4⟩
  · simp only [keyOf, Option.map_eq_some_iff] at k
    obtain ⟨k, k1, rfl⟩ := k
    have e3 := keyPV_of k1
    subst e3
    have e4 := keyPV_kV r2
    subst e4
    have q := lookK_K k h4
    cases el : lookK false (.inl k) (kvs.map fun p => keyPV p.1) vs with
    | some z =>
      rw [el] at q
      obtain ⟨v, e6, rv⟩ := q
      exact ⟨v, by rw [← e6]; exact DGet.k h1, rv⟩
    | none =>
      rw [el] at q
      have q' : valV kvs k = none := q
      show DGet H a (kV k) none
      rw [← q']; exact DGet.k h1
  · cases r2 with
    | ktup t l r =>
      simp only [keyOf, Option.map_eq_some_iff] at k
      obtain ⟨k, k1, rfl⟩ := k
      have e3 := keysK_of k1
      subst e3
      have e4 := keysPV_kV r
      subst e4
      have q := lookK_T k h4
      cases el : lookK true (.inr k) (kvs.map fun p => .ktup (p.1.map keyPV)) vs with
      | some z =>
        rw [el] at q
        obtain ⟨v, e6, rv⟩ := q
        exact ⟨v, by rw [← e6]; exact DGet.t h1 t.1, rv⟩
      | none =>
        rw [el] at q
        have q' : valV kvs k = none := q
        show DGet H a (.ref _) none
        rw [← q']; exact DGet.t h1 t.1
    | _ => simp [keyOf] at k

theorem Rep.dpSeq {x : PV} {v : V} {xs : List PV} {ds : List PyData} (h : Rep M m H x v) (rs : RepS M m H S) (e : Pz.seqOf S x = some xs) (hd : PV.data.dataL xs = some ds) : Dp M.K H v (.list ds) ∨ Dp M.K H v (.tuple ds) := by
  obtain ⟨a, vs, rfl, q, _, r⟩ := h.seqOf rs e
  rcases q with q | q
  · exact .inl (.lst q (r.dp hd))
  · exact .inr (.tup q (r.dp hd))
theorem in_ok {x y : PV} {u w : V} {b : Bool} (rs : RepS M m H S) (r1 : Rep M m H x u) (r2 : Rep M m H y w) (e : isIn S x y = some b) {Q : VK} :
    (Q (.bl b) H → rInP M.K u w H Q) ∧ (Q (.bl (!b)) H → rNotInP M.K u w H Q) := by
  have gen : (∀ t, y ≠ .str t) → (Q (.bl b) H → rInP M.K u w H Q) ∧ (Q (.bl (!b)) H → rNotInP M.K u w H Q) := by
    intro hy
    have e' : isInDS S x y = some b := by
      cases y with
      | str t => exact absurd rfl (hy t)
      | _ => exact e
    unfold isInDS isInSeq at e'
    split at e'
    · rename_i t ks vs e1
      split at e'
      · rename_i d e2
        cases e'
        obtain ⟨a, rfl, g⟩ := dget_of rs r2 r1 e1 e2
        cases el : lookK t d ks vs with
        | some z =>
          rw [el] at g
          obtain ⟨v, g, _⟩ := g
          exact ⟨fun q => .inr (.inr (.inr ⟨a, _, rfl, g, q⟩)), fun q => .inr (.inr (.inr ⟨a, _, rfl, g, q⟩))⟩
        | none =>
          rw [el] at g
          exact ⟨fun q => .inr (.inr (.inr ⟨a, _, rfl, g, q⟩)), fun q => .inr (.inr (.inr ⟨a, _, rfl, g, q⟩))⟩
      · cases e'
    · split at e'
      · rename_i ys e1
        split at e'
        · rename_i d ds e2 e3
          cases e'
          obtain ⟨d1, d2⟩ := shapedO_some e2
          obtain ⟨d3, d4⟩ := shapedO_some e3
          obtain ⟨ds', d5, d6⟩ := Option.map_eq_some_iff.mp d3
          cases d6
          rcases r2.dpSeq rs e1 d5 with q | q
          · exact ⟨fun h => .inr (.inl ⟨d, ds, r1.dp d1, q, d2, d4, h⟩), fun h => .inr (.inl ⟨d, ds, r1.dp d1, q, d2, d4, h⟩)⟩
          · exact ⟨fun h => .inr (.inr (.inl ⟨d, ds, r1.dp d1, q, d2, d4, h⟩)), fun h => .inr (.inr (.inl ⟨d, ds, r1.dp d1, q, d2, d4, h⟩))⟩
        · cases e'
      · cases e'
  by_cases hy : ∃ t, y = .str t
  · obtain ⟨t, rfl⟩ := hy
    cases x with
    | str z =>
      cases r1; cases r2
      have e' : some (!(Builtin.Str.occurrences t z 0 t.length 1).isEmpty) = some b := e
      cases e'
      exact ⟨fun q => .inl ⟨_, _, rfl, rfl, q⟩, fun q => .inl ⟨_, _, rfl, rfl, q⟩⟩
    | _ => simp [isIn] at e
  · exact gen fun t h => hy ⟨t, h⟩

/-! ### comparisons -/
def copOf : CmpOp → Option Cop
  | .Eq => some .eq
  | .NotEq => some .ne
  | .Lt => some .lt
  | .LtE => some .le
  | .Gt => some .gt
  | .GtE => some .ge
  | .In => some .mem
  | .NotIn => some .nmem
  | _ => none
/-- what a comparison asks of values -/
def rCmp (K : PySem.W.Frag) : CmpOp → R2
  | .Eq => rEqD K
  | .NotEq => rNeD K
  | .Lt => rOrd K (fun i j => decide (i < j)) fun i j => decide (i < j)
  | .LtE => rOrd K (fun i j => decide (i ≤ j)) fun i j => decide (i ≤ j)
  | .Gt => rOrd K (fun i j => decide (j < i)) fun i j => decide (j < i)
  | .GtE => rOrd K (fun i j => decide (j ≤ i)) fun i j => decide (j ≤ i)
  | .In => rInP K
  | .NotIn => rNotInP K
  | _ => fun _ _ _ _ => False
theorem op_cmpP {X : Cx} (hu : X.A.units + 70 < cLine) (op : CmpOp) : OpR X (compareOp op) (rCmp X.K op) := by
  cases op
  case Eq => exact op_eqD (by omega)
  case NotEq => exact op_neD (by omega)
  case Lt => exact op_ltP (by omega)
  case LtE => exact op_leP (by omega)
  case Gt => exact op_gtP (by omega)
  case GtE => exact op_geP (by omega)
  case In => exact op_inP (by omega)
  case NotIn => exact op_notInP (by omega)
  all_goals exact fun _ _ _ _ _ _ _ _ _ _ _ _ h => h.elim
theorem ord_ok {x y z : PV} {u w : V} {p : Int → Int → Bool} {q : Nat → Nat → Bool} {Q : VK} (r1 : Rep M m H x u) (r2 : Rep M m H y w) (e : order p (lexG p q) x y = some z) (h : ∃ b, z = .bl b ∧ Q (.bl b) H) : rOrd M.K p q u w H Q := by
  obtain ⟨b, rfl, h⟩ := h
  unfold order at e
  split at e
  · cases r1; cases r2; cases e; exact .inl ⟨_, _, rfl, rfl, h⟩
  · split at e
    · rename_i xs ys e1 e2
      obtain ⟨a1, vs, rfl, t1, l1, q1⟩ := r1.tupOf e1
      obtain ⟨a2, ws, rfl, t2, l2, q2⟩ := r2.tupOf e2
      split at e
      · rename_i is js e3 e4
        cases e
        have b1 := q1.ints e3
        have b2 := q2.ints e4
        subst b1 b2
        exact .inr ⟨_, _, _, _, rfl, rfl, t1, t2, h⟩
      · cases e
    · cases e
theorem cmp_bool {o : Cop} {x y z : PV} (e : cmpop S o x y = some z) : ∃ b, z = .bl b := by
  have ho : ∀ {p q}, order p q x y = some z → ∃ b, z = .bl b := by
    intro p q e
    unfold order at e
    split at e
    · cases e; exact ⟨_, rfl⟩
    · split at e
      · split at e
        · cases e; exact ⟨_, rfl⟩
        · cases e
      · cases e
  cases o <;> unfold cmpop at e <;> dsimp only at e
  · split at e
    · cases e; exact ⟨_, rfl⟩
    · cases e
  · split at e
    · cases e; exact ⟨_, rfl⟩
    · cases e
  · exact ho e
  · exact ho e
  · exact ho e
  · exact ho e
  · obtain ⟨b, _, rfl⟩ := Option.map_eq_some_iff.mp e; exact ⟨_, rfl⟩
  · obtain ⟨b, _, rfl⟩ := Option.map_eq_some_iff.mp e; exact ⟨_, rfl⟩
theorem cmp_ok {op : CmpOp} {o : Cop} (ho : copOf op = some o) {x y : PV} {b : Bool} {u w : V} {Q : VK} (rs : RepS M m H S) (r1 : Rep M m H x u) (r2 : Rep M m H y w) (e : cmpop S o x y = some (.bl b)) (h : Q (.bl b) H) : rCmp M.K op u w H Q := by
  cases op <;> simp only [copOf, Option.some.injEq, reduceCtorEq] at ho <;> subst ho <;> unfold cmpop at e <;> dsimp only at e
  · split at e
    · rename_i p q e1 e2
      cases e
      obtain ⟨a1, a2⟩ := shapedO_some e1
      obtain ⟨a3, a4⟩ := shapedO_some e2
      exact ⟨p, q, r1.dpOf rs a1, r2.dpOf rs a3, a2, a4, h⟩
    · cases e
  · split at e
    · rename_i p q e1 e2
      cases e
      obtain ⟨a1, a2⟩ := shapedO_some e1
      obtain ⟨a3, a4⟩ := shapedO_some e2
      exact ⟨p, q, r1.dpOf rs a1, r2.dpOf rs a3, a2, a4, h⟩
    · cases e
  · exact ord_ok r1 r2 e ⟨b, rfl, h⟩
  · exact ord_ok r1 r2 e ⟨b, rfl, h⟩
  · exact ord_ok r1 r2 e ⟨b, rfl, h⟩
  · exact ord_ok r1 r2 e ⟨b, rfl, h⟩
  · obtain ⟨t, e1, e2⟩ := Option.map_eq_some_iff.mp e
    cases e2
    exact (in_ok rs r1 r2 e1).1 h
  · obtain ⟨t, e1, e2⟩ := Option.map_eq_some_iff.mp e
    cases e2
    exact (in_ok rs r1 r2 e1).2 h
variable {X : Cx} {c : Cfg} {W : WX} {a b d : Expr} {a' b' d' : E} {pos : Pos}
theorem cmp_tOp (g : Gd M X) {op : CmpOp} {o : Cop} (ho : copOf op = some o) {σ : St'} {Q : VK} (h : tE M c W (.cmp o a' b') σ H Q) : tOp (rCmp X.K op) (tE M c W a') (tE M c W b') σ H Q := by
  obtain ⟨ρ, S, m, re, rs, p⟩ := h
  simp only [E.den] at p
  refine post2 re rs p fun x y S2 m2 H2 u w rs2 r1 r2 p2 => ?_
  obtain ⟨z, e, p3⟩ := p2.ofO
  obtain ⟨t, rfl⟩ := cmp_bool e
  rw [g.K]
  exact cmp_ok ho rs2 r1 r2 e (p3.ok0 rs2 (.bl t))
theorem s_cmp (g : Gd M X) {op : CmpOp} {o : Cop} (ho : copOf op = some o) (ha : PE X a (tE M c W a')) (hb : PE X b (tE M c W b')) (hm : behindInMarks op b = false) : PE X (.Compare a [op] [b] pos) (tE M c W (.cmp o a' b')) :=
  PE.imp (pe_cmpR (op_cmpP g.un op) ha hb hm) fun σ H Q h => cmp_tOp g ho h
/-- a test whose value is its truth -/
theorem tT_tE {e' : E} {σ : St'} {Q : Bool → Hp → Prop} (h : tT M c W e' σ H Q) : tE M c W e' σ H fun x H' => ∃ k, TruV M.K x H' k ∧ Q k H' := by
  obtain ⟨ρ, S, m, re, rs, p⟩ := h
  unfold E.denB at p
  refine ⟨ρ, S, m, re, rs, p.bind fun x S1 m1 H1 u e1 x1 rs1 r1 p1 => ?_⟩
  obtain ⟨t, e, p2⟩ := p1.ofO
  exact ⟨t, r1.truthy rs1 e, p2.ok0 rs1 rfl⟩
theorem s_test (g : Gd M X) {e : Expr} {e' : E} (h : PE X e (tE M c W e')) (he : ∀ whole, isTrue e X.env whole = (do let v ← whole; standAt e.pos; holding [v] (PySem.truthy v))) : PT X e (tT M c W e') :=
  PT.imp (pt_truth h he) fun σ H Q q => by rw [g.K]; exact tT_tE q
theorem TruV.bl {K : PySem.W.Frag} {x : V} {b k : Bool} (h : TruV K x H k) (e : x = .bl b) : k = b := by subst e; exact h
theorem s_cmpT (g : Gd M X) {op : CmpOp} {o : Cop} (ho : copOf op = some o) (ha : PE X a (tE M c W a')) (hb : PE X b (tE M c W b')) (hm : behindInMarks op b = false) : PT X (.Compare a [op] [b] pos) (tT M c W (.cmp o a' b')) :=
  PT.imp (pt_cmpR (op_cmpP g.un op) ha hb hm) fun σ H Q h => by
    obtain ⟨ρ, S, m, re, rs, p⟩ := h
    refine cmp_tOp g ho ⟨ρ, S, m, re, rs, ?_⟩
    unfold E.denB at p
    refine p.bind fun x S1 m1 H1 u e1 x1 rs1 r1 p1 => ?_
    have hx : ∃ t, x = .bl t := by
      simp only [E.den] at e1
      cases ea : a'.den c ρ S with
      | ok v1 S2 =>
        rw [ea, R.bind_ok] at e1
        cases eb : b'.den c ρ S2 with
        | ok v2 S3 =>
          rw [eb, R.bind_ok] at e1
          cases ec : cmpop S3 o v1 v2 with
          | some z => rw [ec] at e1; cases e1; exact cmp_bool ec
          | none => rw [ec] at e1; cases e1
        | exc _ _ _ => rw [eb] at e1; cases e1
        | out => rw [eb] at e1; cases e1
      | exc _ _ _ => rw [ea] at e1; cases e1
      | out => rw [ea] at e1; cases e1
    obtain ⟨t, rfl⟩ := hx
    cases r1
    exact ⟨t, rfl, Post.ok0 (RA := RepB) (by simpa [Pz.truthy] using p1) rs1 rfl⟩
end
end Pz
end
section
set_option Elab.async false
set_option linter.all false
set_option maxRecDepth 100000
/-! Pz: chains, and, or, not, if; subscripts, slices. -/
namespace Pz
open PySem PySem.Spec PyProof.Rows L2

/-! ### tests, as pure results -/
section
variable {c : Cfg} {ρ : Env} {S : Store} {a b d : E}
theorem denB_and : (E.and a b).denB c ρ S = (a.denB c ρ S).bind fun t S1 => if t = true then b.denB c ρ S1 else .ok false S1 := by
  unfold E.denB
  simp only [E.den]
  cases a.den c ρ S with
  | ok x S1 =>
    simp only [R.bind_ok]
    cases e : truthy S1 x with
    | none => simp
    | some t => cases t <;> simp [e]
  | exc _ _ _ => rfl
  | out => rfl
theorem denB_or : (E.or a b).denB c ρ S = (a.denB c ρ S).bind fun t S1 => if t = true then .ok true S1 else b.denB c ρ S1 := by
  unfold E.denB
  simp only [E.den]
  cases a.den c ρ S with
  | ok x S1 =>
    simp only [R.bind_ok]
    cases e : truthy S1 x with
    | none => simp
    | some t => cases t <;> simp [e]
  | exc _ _ _ => rfl
  | out => rfl
theorem denB_not : (E.not a).denB c ρ S = (a.denB c ρ S).bind fun t S1 => .ok (!t) S1 := by
  unfold E.denB
  simp only [E.den]
  cases a.den c ρ S with
  | ok x S1 =>
    simp only [R.bind_ok]
    cases e : truthy S1 x with
    | none => simp
    | some t => simp [truthy]
  | exc _ _ _ => rfl
  | out => rfl
theorem den_not : (E.not a).den c ρ S = (a.denB c ρ S).bind fun t S1 => .ok (.bl (!t)) S1 := by
  unfold E.denB
  simp only [E.den]
  cases a.den c ρ S with
  | ok x S1 =>
    simp only [R.bind_ok]
    cases e : truthy S1 x <;> simp
  | exc _ _ _ => rfl
  | out => rfl
theorem den_ite : (E.ite d a b).den c ρ S = (d.denB c ρ S).bind fun t S1 => if t = true then a.den c ρ S1 else b.den c ρ S1 := by
  unfold E.denB
  simp only [E.den]
  cases d.den c ρ S with
  | ok x S1 =>
    simp only [R.bind_ok]
    cases e : truthy S1 x with
    | none => simp
    | some t => cases t <;> simp
  | exc _ _ _ => rfl
  | out => rfl
theorem denB_ite : (E.ite d a b).denB c ρ S = (d.denB c ρ S).bind fun t S1 => if t = true then a.denB c ρ S1 else b.denB c ρ S1 := by
  unfold E.denB
  simp only [E.den]
  cases d.den c ρ S with
  | ok x S1 =>
    simp only [R.bind_ok]
    cases e : truthy S1 x with
    | none => simp
    | some t => cases t <;> simp
  | exc _ _ _ => rfl
  | out => rfl
end
theorem pt_ifExp {X : Cx} {c a b : Expr} {tc ta tb : TT} {pos : Pos} (hc : PT X c tc) (ha : PT X a ta) (hb : PT X b tb) : PT X (.IfExp c a b pos) (fun σ H Q => tc σ H fun k H1 => if k = true then ta σ H1 Q else tb σ H1 Q) := by
  refine ⟨fun pins s σ H Q I h => ?_⟩
  show wpAny _ _ (do if ← isTrue c X.env (eval c X.env) then isTrue a X.env (eval a X.env) else isTrue b X.env (eval b X.env)) _ _ s
  refine wpAny_bind (thn (hc.run pins s σ H _ I h) fun d s1 ⟨H1, I1, q1⟩ => ?_)
  cases d with
  | true => exact ha.run pins s1 σ H1 Q I1 q1
  | false => exact hb.run pins s1 σ H1 Q I1 q1

section
variable {M : Md} {m m' : Mp} {H H' : Hp} {S : Store} {X : Cx} {c : Cfg} {W : WX} {a b d : Expr} {a' b' d' : E} {pos : Pos} {rest : List Expr}

/-- from a test's reading: what follows it -/
theorem tT_bind {α β : Type} {RA : Mp → Hp → α → β → Prop} {σ : St'} {Q : β → Hp → Prop} {ρ : Env} {e' : E} {k : Bool → Store → R α} {Q' : Bool → Hp → Prop} (re : RepE M m H ρ σ) (rs : RepS M m H S)
    (p : Post M RA ((e'.denB c ρ S).bind k) m H σ W Q) (q : ∀ t S1 m1 H1, Ext m m1 H H1 → RepS M m1 H1 S1 → RepE M m1 H1 ρ σ → Post M RA (k t S1) m1 H1 σ W Q → Q' t H1) : tT M c W e' σ H Q' :=
  ⟨ρ, S, m, re, rs, p.bind fun t S1 m1 H1 u e1 x1 rs1 r1 p1 => by cases r1; exact q t S1 m1 H1 x1 rs1 (re.mono x1) p1⟩
/-! ### and, or, not, if: tests -/
theorem w_and1 (ha : PT X a (tT M c W a')) : PW X (.BoolOp .And [a] pos) (tT M c W a') := pw_and1 ha
theorem w_or1 (ha : PT X a (tT M c W a')) : PW X (.BoolOp .Or [a] pos) (tT M c W a') := pw_or1 ha
theorem PW.imp {e : Expr} {t t' : TT} (h : PW X e t) (i : ∀ σ H Q, t' σ H Q → t σ H Q) : PW X e t' := ⟨fun wh pins s σ H Q I q => h.run wh pins s σ H Q I (i _ _ _ q)⟩
theorem w_and (ha : PT X a (tT M c W a')) (hb : PW X (.BoolOp .And (b :: rest) pos) (tT M c W b')) : PW X (.BoolOp .And (a :: b :: rest) pos) (tT M c W (.and a' b')) :=
  PW.imp (pw_and ha hb) fun σ H Q ⟨ρ, S, m, re, rs, p⟩ => by
    rw [denB_and] at p
    refine tT_bind re rs p fun t S1 m1 H1 x1 rs1 re1 p1 => ?_
    cases t with
    | true => exact ⟨ρ, S1, m1, re1, rs1, p1⟩
    | false => exact p1.ok0 rs1 rfl
theorem w_or (ha : PT X a (tT M c W a')) (hb : PW X (.BoolOp .Or (b :: rest) pos) (tT M c W b')) : PW X (.BoolOp .Or (a :: b :: rest) pos) (tT M c W (.or a' b')) :=
  PW.imp (pw_or ha hb) fun σ H Q ⟨ρ, S, m, re, rs, p⟩ => by
    rw [denB_or] at p
    refine tT_bind re rs p fun t S1 m1 H1 x1 rs1 re1 p1 => ?_
    cases t with
    | true => exact p1.ok0 rs1 rfl
    | false => exact ⟨ρ, S1, m1, re1, rs1, p1⟩
theorem s_notT (ha : PT X a (tT M c W a')) : PT X (.UnaryOp .Not a pos) (tT M c W (.not a')) :=
  PT.imp (pt_not ha) fun σ H Q ⟨ρ, S, m, re, rs, p⟩ => by
    rw [denB_not] at p
    exact tT_bind re rs p fun t S1 m1 H1 x1 rs1 re1 p1 => p1.ok0 rs1 rfl
theorem s_iteT (hc : PT X d (tT M c W d')) (ha : PT X a (tT M c W a')) (hb : PT X b (tT M c W b')) : PT X (.IfExp d a b pos) (tT M c W (.ite d' a' b')) :=
  PT.imp (pt_ifExp hc ha hb) fun σ H Q ⟨ρ, S, m, re, rs, p⟩ => by
    rw [denB_ite] at p
    refine tT_bind re rs p fun t S1 m1 H1 x1 rs1 re1 p1 => ?_
    cases t with
    | true => exact ⟨ρ, S1, m1, re1, rs1, p1⟩
    | false => exact ⟨ρ, S1, m1, re1, rs1, p1⟩
/-! ### .. as values -/
theorem s_not (ha : PE X a (tE M c W a')) (g : Gd M X) : PE X (.UnaryOp .Not a pos) (tE M c W (.not a')) :=
  PE.imp (pe_notT ha) fun σ H Q ⟨ρ, S, m, re, rs, p⟩ => by
    rw [den_not] at p
    rw [g.K]
    refine tT_tE (tT_bind (Q' := fun k H1 => Q (.bl (!k)) H1) re rs p fun t S1 m1 H1 x1 rs1 re1 p1 => p1.ok0 rs1 (.bl _))
theorem s_ite (hc : PT X d (tT M c W d')) (ha : PE X a (tE M c W a')) (hb : PE X b (tE M c W b')) : PE X (.IfExp d a b pos) (tE M c W (.ite d' a' b')) :=
  PE.imp (pe_ifExp hc ha hb) fun σ H Q ⟨ρ, S, m, re, rs, p⟩ => by
    rw [den_ite] at p
    refine tT_bind re rs p fun t S1 m1 H1 x1 rs1 re1 p1 => ?_
    cases t with
    | true => exact ⟨ρ, S1, m1, re1, rs1, p1⟩
    | false => exact ⟨ρ, S1, m1, re1, rs1, p1⟩
theorem s_and (g : Gd M X) (ha : PE X a (tE M c W a')) (hb : PE X (.BoolOp .And (b :: rest) pos) (tE M c W b')) : PE X (.BoolOp .And (a :: b :: rest) pos) (tE M c W (.and a' b')) :=
  PE.imp (pe_andT ha hb) fun σ H Q ⟨ρ, S, m, re, rs, p⟩ => by
    simp only [E.den] at p
    refine ⟨ρ, S, m, re, rs, p.bind fun x S1 m1 H1 u e1 x1 rs1 r1 p1 => ?_⟩
    split at p1
    · rename_i e; exact ⟨true, by rw [g.K]; exact r1.truthy rs1 e, ⟨ρ, S1, m1, re.mono x1, rs1, p1⟩⟩
    · rename_i e; exact ⟨false, by rw [g.K]; exact r1.truthy rs1 e, p1.ok0 rs1 r1⟩
    · exact p1.elim
theorem s_or (g : Gd M X) (ha : PE X a (tE M c W a')) (hb : PE X (.BoolOp .Or (b :: rest) pos) (tE M c W b')) : PE X (.BoolOp .Or (a :: b :: rest) pos) (tE M c W (.or a' b')) :=
  PE.imp (pe_orT ha hb) fun σ H Q ⟨ρ, S, m, re, rs, p⟩ => by
    simp only [E.den] at p
    refine ⟨ρ, S, m, re, rs, p.bind fun x S1 m1 H1 u e1 x1 rs1 r1 p1 => ?_⟩
    split at p1
    · rename_i e; exact ⟨true, by rw [g.K]; exact r1.truthy rs1 e, p1.ok0 rs1 r1⟩
    · rename_i e; exact ⟨false, by rw [g.K]; exact r1.truthy rs1 e, ⟨ρ, S1, m1, re.mono x1, rs1, p1⟩⟩
    · exact p1.elim
/-! ### is None -/
theorem Rep.non_iff {x : PV} {u : V} (h : Rep M m H x u) : isNon x = decide (u = .non) := by
  cases h <;> rfl
theorem isN_r {σ : St'} {Q : VK} (h : tE M c W (.isN a') σ H Q) : tIsN (tE M c W a') σ H Q := by
  obtain ⟨ρ, S, m, re, rs, p⟩ := h
  simp only [E.den] at p
  refine ⟨ρ, S, m, re, rs, p.bind fun x S1 m1 H1 u e1 x1 rs1 r1 p1 => ?_⟩
  rw [r1.non_iff] at p1
  exact p1.ok0 rs1 (.bl _)
theorem notN_r {σ : St'} {Q : VK} (h : tE M c W (.notN a') σ H Q) : tNotN (tE M c W a') σ H Q := by
  obtain ⟨ρ, S, m, re, rs, p⟩ := h
  simp only [E.den] at p
  refine ⟨ρ, S, m, re, rs, p.bind fun x S1 m1 H1 u e1 x1 rs1 r1 p1 => ?_⟩
  rw [r1.non_iff] at p1
  exact p1.ok0 rs1 (.bl _)
/-- a test of a bool-valued expression -/
theorem tT_bool {e' : E} {σ : St'} {Q : Bool → Hp → Prop} (hb : ∀ (ρ : Env) S v S1, e'.den c ρ S = .ok v S1 → ∃ b, v = .bl b) (h : tT M c W e' σ H Q) : tE M c W e' σ H fun x H1 => ∃ k, x = .bl k ∧ Q k H1 := by
  obtain ⟨ρ, S, m, re, rs, p⟩ := h
  unfold E.denB at p
  refine ⟨ρ, S, m, re, rs, p.bind fun x S1 m1 H1 u e1 x1 rs1 r1 p1 => ?_⟩
  obtain ⟨t, rfl⟩ := hb ρ S x S1 e1
  cases r1
  exact ⟨t, rfl, Post.ok0 (RA := RepB) (by simpa [Pz.truthy] using p1) rs1 rfl⟩
theorem R.bind_ok_iff {α β : Type} {r : R α} {k : α → Store → R β} {v : β} {S1 : Store} (h : r.bind k = .ok v S1) : ∃ x S2, r = .ok x S2 ∧ k x S2 = .ok v S1 := by
  cases r with
  | ok x S2 => exact ⟨x, S2, rfl, h⟩
  | exc _ _ _ => cases h
  | out => cases h
theorem isN_bool (ρ : Env) (S : Store) (v : PV) (S1 : Store) (h : (E.isN a').den c ρ S = .ok v S1) : ∃ b, v = .bl b := by
  simp only [E.den] at h
  obtain ⟨x, S2, _, h⟩ := R.bind_ok_iff h
  cases h; exact ⟨_, rfl⟩
theorem notN_bool (ρ : Env) (S : Store) (v : PV) (S1 : Store) (h : (E.notN a').den c ρ S = .ok v S1) : ∃ b, v = .bl b := by
  simp only [E.den] at h
  obtain ⟨x, S2, _, h⟩ := R.bind_ok_iff h
  cases h; exact ⟨_, rfl⟩
theorem s_isN {j : Nat} {pos' : Pos} (ha : PE X a (tE M c W a')) : PE X (.Compare a [.Is] [.Constant .none j pos'] pos) (tE M c W (.isN a')) := PE.imp (pe_cmp (pc_isN ha)) fun σ H Q h => isN_r h
theorem s_notN {j : Nat} {pos' : Pos} (ha : PE X a (tE M c W a')) : PE X (.Compare a [.IsNot] [.Constant .none j pos'] pos) (tE M c W (.notN a')) := PE.imp (pe_cmp (pc_notN ha)) fun σ H Q h => notN_r h
theorem s_isNT {j : Nat} {pos' : Pos} (ha : PE X a (tE M c W a')) : PT X (.Compare a [.Is] [.Constant .none j pos'] pos) (tT M c W (.isN a')) := PT.imp (pt_cmp (pc_isN ha)) fun σ H Q h => isN_r (tT_bool isN_bool h)
theorem s_notNT {j : Nat} {pos' : Pos} (ha : PE X a (tE M c W a')) : PT X (.Compare a [.IsNot] [.Constant .none j pos'] pos) (tT M c W (.notN a')) := PT.imp (pt_cmp (pc_notN ha)) fun σ H Q h => notN_r (tT_bool notN_bool h)
/-! ### chains -/
theorem chain_r (g : Gd M X) {op op' : CmpOp} {o o' : Cop} (ho : copOf op = some o) (ho' : copOf op' = some o') {σ : St'} {Q : VK} (h : tE M c W (.chain o o' a' b' d') σ H Q) : tChain (rCmp X.K op) (rCmp X.K op') (tE M c W a') (tE M c W b') (tE M c W d') σ H Q := by
  obtain ⟨ρ, S, m, re, rs, p⟩ := h
  simp only [E.den] at p
  refine ⟨ρ, S, m, re, rs, p.bind fun x S1 m1 H1 u e1 x1 rs1 r1 p1 => ?_⟩
  refine ⟨ρ, S1, m1, re.mono x1, rs1, p1.bind fun y S2 m2 H2 w e2 x2 rs2 r2 p2 => ?_⟩
  rw [g.K]
  split at p2
  · rename_i e
    refine cmp_ok ho rs2 (r1.mono x2) r2 e ⟨true, rfl, ?_⟩
    rw [if_pos rfl]
    refine ⟨ρ, S2, m2, (re.mono x1).mono x2, rs2, p2.bind fun z S3 m3 H3 q e3 x3 rs3 r3 p3 => ?_⟩
    obtain ⟨z', e4, p4⟩ := p3.ofO
    obtain ⟨t, rfl⟩ := cmp_bool e4
    exact cmp_ok ho' rs3 (r2.mono x3) r3 e4 (p4.ok0 rs3 (.bl t))
  · rename_i e
    refine cmp_ok ho rs2 (r1.mono x2) r2 e ⟨false, rfl, ?_⟩
    rw [if_neg Bool.false_ne_true]
    exact p2.ok0 rs2 (.bl _)
  · exact p2.elim
theorem chain_bool {o o' : Cop} (ρ : Env) (S : Store) (v : PV) (S1 : Store) (h : (E.chain o o' a' b' d').den c ρ S = .ok v S1) : ∃ b, v = .bl b := by
  simp only [E.den] at h
  obtain ⟨x, S2, _, h⟩ := R.bind_ok_iff h
  obtain ⟨y, S3, _, h⟩ := R.bind_ok_iff h
  split at h
  · obtain ⟨z, S4, _, h⟩ := R.bind_ok_iff h
    cases e : cmpop S4 o' y z with
    | none => rw [e] at h; cases h
    | some q => rw [e] at h; cases h; exact cmp_bool e
  · cases h; exact ⟨_, rfl⟩
  · cases h
theorem s_chain (g : Gd M X) {op op' : CmpOp} {o o' : Cop} (ho : copOf op = some o) (ho' : copOf op' = some o') (ha : PE X a (tE M c W a')) (hb : PE X b (tE M c W b')) (hd : PE X d (tE M c W d')) (hm : lastMarks [op, op'] [b, d] = false) :
    PE X (.Compare a [op, op'] [b, d] pos) (tE M c W (.chain o o' a' b' d')) := PE.imp (pe_chain (op_cmpP g.un op) (op_cmpP g.un op') ha hb hd hm) fun σ H Q h => chain_r g ho ho' h
theorem s_chainT (g : Gd M X) {op op' : CmpOp} {o o' : Cop} (ho : copOf op = some o) (ho' : copOf op' = some o') (ha : PE X a (tE M c W a')) (hb : PE X b (tE M c W b')) (hd : PE X d (tE M c W d')) (hm : lastMarks [op, op'] [b, d] = false) :
    PT X (.Compare a [op, op'] [b, d] pos) (tT M c W (.chain o o' a' b' d')) := PT.imp (pt_chain (op_cmpP g.un op) (op_cmpP g.un op') ha hb hd hm) fun σ H Q h => chain_r g ho ho' (tT_bool chain_bool h)

/-! ### subscripts -/
def rIxD : R2 := fun x y H Q => ∃ a v, x = .ref a ∧ DGet H a y (some v) ∧ Q v H
theorem ix_dict (hu : X.A.units + 1 < cLine) : IxR X rIxD := by
  intro value slice pins s σ H x y v u Q I rx ry h hs
  obtain ⟨a, z, rfl, g, q⟩ := h
  cases rx
  exact tail_any (dict_typeIs I g) PySem.F.slot_dict_getitem.lookup (d_getItem hu I g ry fun w' s3 I3 rw' => ⟨z, H, I3, rw', q⟩) hs
theorem RepL.atI {xs : List PV} {vs : List V} {i : Int} {x : PV} (h : RepL M m H xs vs) (e : L2.atI xs i = some x) : ∃ v, L2.atI vs i = some v ∧ Rep M m H x v := by
  unfold L2.atI at e ⊢
  rw [h.length] at e
  cases q : ixN vs.length i with
  | none => rw [q] at e; cases e
  | some j =>
    rw [q] at e
    exact h.get e
theorem atI_none_str {S : Store} {x : Str} {i : PV} {z : PV} (e : index S (.str x) i = some z) : ∃ k cp, i = .int k ∧ L2.atI x.cps.toList k = some cp ∧ z = .str ⟨#[cp]⟩ := by
  simp only [index, Pz.dictOf] at e
  cases i with
  | int k =>
    simp only at e
    split at e
    · rename_i cp e1; cases e; exact ⟨k, cp, rfl, e1, rfl⟩
    · cases e
  | _ => simp at e
theorem ix_ok {x y z : PV} {u w : V} {Q : VK} (rs : RepS M m H S) (r1 : Rep M m H x u) (r2 : Rep M m H y w) (e : index S x y = some z) (q : ∀ v, Rep M m H z v → Q v H) : rIx M.K u w H Q ∨ rIxD u w H Q := by
  cases ed : Pz.dictOf S x with
  | some tkv =>
    obtain ⟨t, ks, vs⟩ := tkv
    simp only [index, ed] at e
    split at e
    · rename_i d e1
      obtain ⟨a, rfl, g⟩ := dget_of rs r1 r2 ed e1
      rw [e] at g
      obtain ⟨v, g, rv⟩ := g
      exact .inr ⟨a, v, rfl, g, q v rv⟩
    · cases e
  | none =>
    have seq : (∀ s, x ≠ .str s) → rIx M.K u w H Q ∨ rIxD u w H Q := by
      intro hs
      simp only [index, ed] at e
      cases y with
      | int k =>
        cases r2
        have e' : (match Pz.seqOf S x with | some xs => L2.atI xs k | none => none) = some z := by
          cases x with
          | str s => exact absurd rfl (hs s)
          | _ => exact e
        split at e'
        · rename_i xs e1
          obtain ⟨a, vs, rfl, h, _, r⟩ := r1.seqOf rs e1
          obtain ⟨v, e2, rv⟩ := r.atI e'
          rcases h with h | h
          · exact .inl (.inl ⟨a, vs, k, v, rfl, rfl, h, e2, q v rv⟩)
          · exact .inl (.inr (.inl ⟨a, vs, k, v, rfl, rfl, h, e2, q v rv⟩))
        · cases e'
      | _ => simp at e
    cases x with
    | str s =>
      obtain ⟨k, cp, rfl, e1, rfl⟩ := atI_none_str e
      cases r1 with
      | str l =>
        cases r2
        exact .inl (.inr (.inr ⟨s, k, cp, rfl, rfl, by rw [sizeLine_eq]; exact l, e1, q _ (.str (by show (1 : Nat) ≤ 16777216; decide))⟩))
    | _ => exact seq (fun s h => by cases h)
theorem s_idx (g : Gd M X) (ha : PE X a (tE M c W a')) (hb : PE X b (tE M c W b')) (hs : PlainIx b) : PE X (.Subscript a b pos) (tE M c W (.idx a' b')) :=
  PE.imp (pe_ix (IxR.or ix_seq (ix_dict (by have := g.un; omega))) ha hb hs) fun σ H Q ⟨ρ, S, m, re, rs, p⟩ => by
    simp only [E.den] at p
    refine post2 re rs p fun x y S2 m2 H2 u w rs2 r1 r2 p2 => ?_
    obtain ⟨z, e, p3⟩ := p2.ofO
    rw [g.K]
    exact ix_ok rs2 r1 r2 e fun v rv => p3.ok0 rs2 rv
/-! ### slices -/
theorem s_none : L2.PO X none (tEo M c W .none) := PO.imp po_none fun σ H Q ⟨ρ, S, m, re, rs, p⟩ => by
  simp only [Eo.den] at p; exact p.ok0 rs rfl
theorem s_some (ha : PE X a (tE M c W a')) : L2.PO X (some a) (tEo M c W (.some a')) := PO.imp (po_some ha) fun σ H Q ⟨ρ, S, m, re, rs, p⟩ => by
  simp only [Eo.den] at p
  refine ⟨ρ, S, m, re, rs, p.bind fun x S1 m1 H1 u e1 x1 rs1 r1 p1 => ?_⟩
  cases r1 with
  | int i => exact ⟨i, rfl, p1.ok0 rs1 rfl⟩
  | _ => exact False.elim p1
theorem cut_cutV (xs : List V) (lo hi : Option Int) : cut xs lo hi = cutV xs lo hi := rfl
theorem RepL.cut {xs : List PV} {vs : List V} (h : RepL M m H xs vs) (lo hi : Option Int) : RepL M m H (Pz.cut xs lo hi) (cutV vs lo hi) := by
  unfold Pz.cut cutV
  rw [h.length]
  exact (h.drop _).take _
/-- t[lo:hi], its object known -/
def rSlF (K : PySem.W.Frag) : V → Option Int → Option Int → Hp → VK → Prop := fun x lo hi H Q => ∃ a xs, x = .ref a ∧ SqT K H a xs ∧
  (HT.sIx xs.length 0 lo = 0 ∧ HT.sIx xs.length xs.length hi = xs.length → Q (.ref a) H) ∧ (¬ (HT.sIx xs.length 0 lo = 0 ∧ HT.sIx xs.length xs.length hi = xs.length) → NewT H (cutV xs lo hi) Q)
theorem sl_tupF : SlR X (rSlF X.K) := by
  intro pins s σ H x v vl vu lo hi sl Q I rx hs pl pu h
  obtain ⟨a, xs, rfl, hx, q1, q2⟩ := h
  cases rx
  obtain ⟨its, r, ht, hz⟩ := I.tuple hx
  have hlen : its.toArray.size = xs.length := by rw [List.size_toArray]; exact r.length.symm
  refine ⟨"tuple", _, PyProof.Rows.slot_tuple_getitem.lookup, ht.typeIs, ?_⟩
  by_cases hw : HT.sIx xs.length 0 lo = 0 ∧ HT.sIx xs.length xs.length hi = xs.length
  · exact getItem_tuple_whole ht hs pl pu (by rw [hlen]; exact hw) ⟨.ref a, H, I, rfl, q1 hw⟩
  · refine HT.getItem_tuple_cut ht hs pl pu (by rw [hlen]; exact hw) ?_ (by rw [hlen]; exact hz)
    rw [hlen]
    exact ⟨.ref _, _, tupNew (t' := s.toks) I ((r.drop (HT.sIx xs.length 0 lo)).take (HT.sIx xs.length xs.length hi - HT.sIx xs.length 0 lo)) (Nat.le_trans (cutV_length xs lo hi) hz), rfl, q2 hw _ _ (I.hok.fresh (Nat.le_refl _)) rfl⟩
def rSlP (K : PySem.W.Frag) : V → Option Int → Option Int → Hp → VK → Prop := fun x lo hi H Q => rSlL K x lo hi H Q ∨ rSlF K x lo hi H Q ∨ rSlS x lo hi H Q
theorem sl_P : SlR X (rSlP X.K) := sl_list.or (sl_tupF.or sl_str)
theorem cut_cutS (z : Str) (lo hi : Option Int) : (⟨(Pz.cut z.cps.toList lo hi).toArray⟩ : Str) = cutS z lo hi := by
  unfold Pz.cut cutS
  have e : z.cps.toList.length = z.length := by simp [Str.length]
  rw [e]
theorem cutS_le (z : Str) (lo hi : Option Int) : (cutS z lo hi).length ≤ z.length := by
  have h : (cutS z lo hi).length = ((z.cps.toList.drop (HT.sIx z.length 0 lo)).take (HT.sIx z.length z.length hi - HT.sIx z.length 0 lo)).length := by
    unfold cutS; simp [Str.length]
  rw [h, List.length_take, List.length_drop]
  have e : z.cps.toList.length = z.length := by simp [Str.length]
  omega
theorem cut_length {α : Type} (xs : List α) (lo hi : Option Int) : (Pz.cut xs lo hi).length ≤ xs.length := by
  unfold Pz.cut; rw [List.length_take, List.length_drop]; omega
theorem cutV_whole (xs : List V) (lo hi : Option Int) (h : HT.sIx xs.length 0 lo = 0 ∧ HT.sIx xs.length xs.length hi = xs.length) : cutV xs lo hi = xs := by
  unfold cutV
  rw [h.1, h.2, List.drop_zero, Nat.sub_zero, List.take_length]
theorem sl_ok {x z : PV} {lo hi : Option Int} {u : V} {Q : VK} {σ : St'} (rs : RepS M m H S) (r1 : Rep M m H x u) (e : slice S x lo hi = some z) (p : Post M (Rep M) (.ok z S) m H σ W Q) : rSlP M.K u lo hi H Q := by
  have lst : ∀ {xs}, Pz.listOf S x = some xs → z = .lst (Pz.cut xs lo hi) → rSlP M.K u lo hi H Q := by
    intro xs e1 e2
    subst e2
    obtain ⟨a, vs, rfl, h, l, r⟩ := r1.listOf rs e1
    exact .inl ⟨a, vs, rfl, SqL.of h, fun q hq => p.ok (Ext.new rs.there hq) (rs.new hq) (.lst upd_same (rs.notin hq) (Nat.le_trans (cutV_length _ _ _) l) ((r.cut lo hi).mono (Ext.new rs.there hq)))⟩
  cases r1 with
  | str l =>
    have e' : some (PV.str ⟨(Pz.cut _ lo hi).toArray⟩) = some z := e
    cases e'
    rw [cut_cutS] at p
    exact .inr (.inr ⟨_, rfl, by rw [sizeLine_eq]; exact l, p.ok0 rs (.str (Nat.le_trans (cutS_le _ _ _) l))⟩)
  | @tup a vs xs t l r =>
    have e' : some (PV.tup (Pz.cut xs lo hi)) = some z := e
    cases e'
    have rc := r.cut lo hi
    refine .inr (.inl ⟨a, vs, rfl, t.sq, fun hw => ?_, fun _ => ?_⟩)
    · rw [cutV_whole _ _ _ hw] at rc
      exact p.ok0 rs (.tup t l rc)
    · exact NewT.of rs rc (Nat.le_trans (cutV_length _ _ _) l) p
  | @lst a vs xs h1 h2 h3 h4 =>
    have e' : some (PV.lst (Pz.cut xs lo hi)) = some z := e
    cases e'
    exact lst (xs := xs) rfl rfl
  | @cell n a hc =>
    have e' : (match Pz.listOf S (.cell n) with | some xs => some (PV.lst (Pz.cut xs lo hi)) | none => none) = some z := e
    split at e'
    · rename_i xs e1; cases e'; exact lst e1 rfl
    · cases e'
  | _ => simp [slice, Pz.listOf] at e
theorem s_slc (g : Gd M X) {lo hi : Option Expr} {lo' hi' : Eo} {p2 : Pos} (ha : PE X a (tE M c W a')) (hl : L2.PO X lo (tEo M c W lo')) (hh : L2.PO X hi (tEo M c W hi')) : PE X (.Subscript a (.Slice lo hi none p2) pos) (tE M c W (.slc a' lo' hi')) :=
  PE.imp (pe_slice (sl_P (X := X)) ha hl hh) fun σ H Q ⟨ρ, S, m, re, rs, p⟩ => by
    simp only [E.den] at p
    refine ⟨ρ, S, m, re, rs, p.bind fun x S1 m1 H1 u e1 x1 rs1 r1 p1 => ?_⟩
    refine ⟨ρ, S1, m1, re.mono x1, rs1, p1.bind fun l S2 m2 H2 l2 e2 x2 rs2 r2 p2 => ?_⟩
    cases r2
    refine ⟨ρ, S2, m2, (re.mono x1).mono x2, rs2, p2.bind fun h S3 m3 H3 h2 e3 x3 rs3 r3 p3 => ?_⟩
    cases r3
    obtain ⟨z, e, p4⟩ := p3.ofO
    rw [g.K]
    exact sl_ok rs3 ((r1.mono x2).mono x3) e p4
/-! ### t[::-1] -/
theorem sliceApplied_rev {prog : Program} {w : World} {A : Around} {E' : Value → Shared → Prop} {s : Shared} {sl : Addr} {vl vu vs : Value} {n : Nat} {Q : Int × Int × Nat → Shared → Prop} (hs : s.heap.IsSliceOf sl vl vu vs) (pl : IsPart vl none) (pu : IsPart vu none) (ps : IsPart vs (some (-1)))
    (h : Q ((n : Int) - 1, -1, n) s) : wpAny (model prog w) A (Builtin.Slice.sliceApplied (.ref sl) (pure (n : Int))) Q E' s := by
  obtain ⟨os, hos, hcs, hds⟩ := id hs
  unfold Builtin.Slice.sliceApplied Builtin.Slice.sliceFields
  refine wpAny_bind (wpAny_bind (wpAny_field hos hds (x := vl) rfl (wpAny_bind (wpAny_field hos hds (x := vu) rfl (wpAny_bind (wpAny_field hos hds (x := vs) rfl (wpAny_pure ?_)))))))
  refine wpAny_bind (HT.slicePart_ ps ?_)
  show wpAny _ _ (if ((-1 : Int) == 0) = true then _ else _) _ _ s
  rw [if_neg (by decide)]
  refine wpAny_bind (HT.slicePart_ pl (wpAny_bind (HT.slicePart_ pu (wpAny_bind (wpAny_pure ?_)))))
  show wpAny _ _ (match Builtin.Slice.sliceAdjust none none (-1) (n : Int) with | (lo, hi) => pure (lo, (-1 : Int), Builtin.Slice.slicePlaces lo hi (-1))) _ _ s
  have e : Builtin.Slice.sliceAdjust none none (-1) (n : Int) = ((n : Int) - 1, -1) := by
    unfold Builtin.Slice.sliceAdjust
    simp
  have e2 : Builtin.Slice.slicePlaces ((n : Int) - 1) (-1) (-1) = n := by
    unfold Builtin.Slice.slicePlaces
    simp
    try omega
  rw [e]
  show wpAny _ _ (pure ((n : Int) - 1, (-1 : Int), Builtin.Slice.slicePlaces ((n : Int) - 1) (-1) (-1))) _ _ s
  rw [e2]
  exact wpAny_pure h
theorem pick_rev (xs : Array Value) : ((List.range xs.size).filterMap fun (m : Nat) => xs[(((xs.size : Nat) : Int) - 1 + (m : Int) * (-1)).toNat]?).toArray = xs.toList.reverse.toArray := by
  congr 1
  have h : ∀ k, k ≤ xs.size → ((List.range k).filterMap fun (m : Nat) => xs[(((xs.size : Nat) : Int) - 1 + (m : Int) * (-1)).toNat]?) = xs.toList.reverse.take k := by
    intro k
    induction k with
    | zero => intro _; simp
    | succ k ih =>
      intro hk
      rw [List.range_succ, List.filterMap_append, ih (by omega)]
      have e : (((xs.size : Nat) : Int) - 1 + (k : Int) * (-1)).toNat = xs.size - 1 - k := by omega
      have hlt : xs.size - 1 - k < xs.size := by omega
      simp only [List.filterMap_cons, List.filterMap_nil, e]
      rw [Array.getElem?_eq_getElem hlt]
      have hk2 : k < xs.toList.reverse.length := by simp; omega
      rw [List.take_succ_eq_append_getElem hk2]
      congr 1
      simp [List.getElem_reverse]
  have := h xs.size (Nat.le_refl _)
  rw [this, List.take_of_length_le (by simp)]
theorem getItem_tuple_rev {prog : Program} {w : World} {A : Around} {E' : Value → Shared → Prop} {s : Shared} {t sl : Addr} {items : Array Value} {vl vu vs : Value} {Q : Value → Shared → Prop} (ht : IsTup s.heap t items) (hs : s.heap.IsSliceOf sl vl vu vs) (pl : IsPart vl none) (pu : IsPart vu none) (ps : IsPart vs (some (-1)))
    (h : Q (.ref s.heap.objs.size) { s with heap := s.heap.push { cls := .type "tuple", data := .seq items.toList.reverse.toArray } })
    (hsz : items.size ≤ sizeLine) : wpAny (model prog w) A (getItem (.ref t) (.ref sl)) Q E' s := by
  have htake : sizeOk (.seq items.toList.reverse.toArray) := by
    show items.toList.reverse.toArray.size ≤ sizeLine
    simpa using hsz
  obtain ⟨os, hos, hcs, hds⟩ := id hs
  have hTs : s.TypeIs (.ref sl) "slice" := ⟨os, hos, hcs⟩
  unfold getItem
  try with_reducible refine wpAny_holding ?_
  first | refine wpAny_bind (wpAny_pure ?_) | skip
  refine wpAny_bind (wpAny_sequenceKey ht.typeIs (by decide) ?_)
  refine wpAny_bind (wpAny_callSpecial?_slot (name := Str.ofString "__getitem__") ht.typeIs PyProof.Rows.slot_tuple_getitem
    (wpAny_call_entry PyProof.Rows.slot_tuple_getitem ht.typeIs entry_tuple_getitem ?_ (args_tuple_getitem _ _)))
  show wpAny _ _ (Builtin.Tuple.tupleItemsOf (.ref t) >>= _) _ _ s
  refine wpAny_bind (tupleItemsOf_ ht ?_)
  refine wpAny_bind (wpAny_typeOf hTs ?_)
  rw [if_pos (by decide)]
  refine wpAny_bind (sliceApplied_rev hs pl pu ps ?_)
  have hno : ¬ ((((items.size : Nat) : Int) - 1 == 0 && (-1 : Int) == 1 && items.size == items.size) = true) := by simp
  show wpAny _ _ (if (((items.size : Nat) : Int) - 1 == 0 && (-1 : Int) == 1 && items.size == items.size) = true then _ else _) _ _ s
  rw [if_neg hno, pick_rev]
  first
    | exact wpAny_bind (m := Builtin.Tuple.tupleExact _) (wpAny_newObj_type (wpAny_pure ⟨_, rfl, wpAny_pure h⟩) htake)
    | exact wpAny_bind (m := Builtin.Tuple.tupleExact _) (wpAny_newObj_type (wpAny_bind (wpAny_pure (wpAny_pure ⟨_, rfl, wpAny_pure h⟩))) htake)
    | exact wpAny_bind (wpAny_bind (m := Builtin.Tuple.tupleExact _) (wpAny_newObj_type (wpAny_pure (wpAny_pure ⟨_, rfl, wpAny_pure h⟩)) htake))
    | exact wpAny_bind (wpAny_bind (m := Builtin.Tuple.tupleExact _) (wpAny_newObj_type (wpAny_pure ⟨_, rfl, wpAny_pure h⟩) htake))
def tRevT (K : PySem.W.Frag) (te : TE) : TE := fun σ H Q => te σ H fun x H1 => ∃ a xs, x = .ref a ∧ SqT K H1 a xs ∧ NewT H1 xs.reverse Q
theorem pe_revT {e : Expr} {te : TE} {k : Nat} {p1 p2 p3 pos : Pos} (he : PE X e te) : PE X (.Subscript e (.Slice none none (some (.UnaryOp .USub (.Constant (.int 1) k p1) p2)) p3) pos) (tRevT X.K te) := by
  refine ⟨fun pins s σ H Q I h => ?_⟩
  refine Subscript_ (thn (he.run pins s σ H _ I h) fun v s1 ⟨x, H1, I1, r1, q1⟩ => ?_)
  obtain ⟨a, xs, ex, hx, q⟩ := q1
  subst ex
  cases r1
  have hst : L2.PO X (some (.UnaryOp .USub (.Constant (.int 1) k p1) p2)) (tPart (tUn (rU fun i => .int (-i)) (tC (.int 1)))) := po_some (pe_un un_neg pe_int)
  refine wpAny_Slice (thn (po_none.run pins s1 σ H1 (fun o H2 => o = none ∧ H2 = H1) I1 ⟨rfl, rfl⟩) fun vl s2 ⟨l, H2, I2, pl, el, e2⟩ => ?_)
  subst el e2
  refine thn (po_none.run pins s2 σ H2 (fun o H3 => o = none ∧ H3 = H2) I2 ⟨rfl, rfl⟩) fun vu s3 ⟨u, H3, I3, pu, eu, e3⟩ => ?_
  subst eu e3
  refine thn (hst.run pins s3 σ H3 (fun o H4 => o = some (-1) ∧ H4 = H3) I3 ⟨1, rfl, -1, rfl, rfl, rfl⟩) fun vs s4 ⟨o, H4, I4, ps, eo, e4⟩ => ?_
  subst eo e4
  have I5 : Inv X pins σ H4 { s4 with heap := s4.heap.push { cls := .type "slice", data := .fields #[vl, vu, vs] } } := I4.kept (t' := s4.toks) fun b ob q => Heap.get?_push_of_some _ q
  obtain ⟨its, r, ht, hz⟩ := I5.tuple hx
  have hlen := r.length
  show wpAny (model X.prog X.w) X.A (subscriptTail e (.Slice none none (some (.UnaryOp .USub (.Constant (.int 1) k p1) p2)) p3) (.ref a) (.ref s4.heap.objs.size)) (EP X pins σ Q) X.xe { s4 with heap := s4.heap.push { cls := .type "slice", data := .fields #[vl, vu, vs] } }
  refine tail_any (ops := [.ref a, .ref s4.heap.objs.size]) ht.typeIs PyProof.Rows.slot_tuple_getitem.lookup ?_ (by with_unfolding_all rfl)
  refine getItem_tuple_rev ht (Heap.IsSliceOf.new _ vl vu vs) pl pu ps ?_ (by rw [List.size_toArray]; omega)
  rw [List.toList_toArray]
  exact ⟨.ref _, _, tupNew (t' := s4.toks) I5 r.reverse (by rw [List.length_reverse]; exact hz), rfl, q _ _ (I5.hok.fresh (Nat.le_refl _)) rfl⟩
theorem s_rev (g : Gd M X) {k : Nat} {p1 p2 p3 : Pos} (ha : PE X a (tE M c W a')) : PE X (.Subscript a (.Slice none none (some (.UnaryOp .USub (.Constant (.int 1) k p1) p2)) p3) pos) (tE M c W (.rev a')) :=
  PE.imp (pe_revT ha) fun σ H Q ⟨ρ, S, m, re, rs, p⟩ => by
    simp only [E.den] at p
    refine ⟨ρ, S, m, re, rs, p.bind fun x S1 m1 H1 u e1 x1 rs1 r1 p1 => ?_⟩
    split at p1
    · rename_i xs e
      obtain ⟨b, vs, rfl, t, l, r⟩ := r1.tupOf e
      exact ⟨b, vs, rfl, by rw [g.K]; exact t, NewT.of rs1 r.reverse (by rw [List.length_reverse]; exact l) p1⟩
    · exact p1.elim
end
end Pz
end
section
set_option Elab.async false
set_option linter.all false
set_option maxRecDepth 100000
/-! Pz: built-in functions, isinstance, fields, lists' methods. -/
namespace Pz
open PySem PySem.Spec PyProof.Rows L2
def isStar : Expr → Bool
  | .Starred .. => true
  | _ => false
theorem starEach_cons {a : Expr} {es : List Expr} {env : PySem.Env} (h : isStar a = false) : starEach (a :: es) env = (false, eval a env) :: starEach es env := by
  cases a <;> first | rfl | cases h
theorem any_star {pos : Pos} {env : PySem.Env} : ∀ {es : List Expr}, (∀ e ∈ es, isStar e = false) → (backTo pos (starEach es env)).any (·.1) = false
  | [], _ => rfl
  | a :: es, h => by
    rw [starEach_cons (h a (by simp))]
    show (false || (backTo pos (starEach es env)).any (·.1)) = false
    rw [any_star fun e he => h e (by simp [he])]; rfl
theorem CallR.imp {X : Cx} {f : Value} {r r' : List V → Hp → VK → Prop} (h : CallR X f r) (i : ∀ xs H Q, r' xs H Q → r xs H Q) : CallR X f r' := fun pins s σ H xs us Q I rv q => h pins s σ H xs us Q I rv (i _ _ _ q)

section
variable {M : Md} {m m' : Mp} {H H' : Hp} {S : Store} {X : Cx} {c : Cfg} {W : WX} {a b d : Expr} {a' b' d' : E} {pos p : Pos} {rest es : List Expr} {es' : Es}
def rLenK : List V → Hp → VK → Prop := fun xs H Q => ∃ (p : Addr) (kvs : List (Key × V)), xs = [.ref p] ∧ H p = some (.dK kvs) ∧ Q (.int ((kvs.length : Nat) : Int)) H
theorem call_len_dKP : CallR X (.builtin "len") rLenK := by
  intro pins s σ H xs us Q I r h
  obtain ⟨p, kvs, rfl, hp, q⟩ := h
  obtain ⟨u, rfl, rx⟩ := vals1 r
  obtain rfl : u = .ref p := rx
  exact d_len I (.inl hp) fun t s' I' => ⟨.int _, H, I', ⟨t, rfl⟩, q⟩
def rLenP (K : PySem.W.Frag) : List V → Hp → VK → Prop := fun xs H Q => (∃ x n, xs = [x] ∧ LenV K x H n ∧ Q (.int n) H) ∨ rLenK xs H Q ∨ rLenT xs H Q
theorem call_lenP : CallR X (.builtin "len") (rLenP X.K) := call_len.or (call_len_dKP.or call_len_dT)
theorem len_ok {v z : PV} {u : V} {Q : VK} (rs : RepS M m H S) (r : Rep M m H v u) (e : bi S .len [v] = some z) (q : ∀ n : Nat, z = .int n → Q (.int n) H) : rLenP M.K [u] H Q := by
  have dct : ∀ {t ks vs}, Pz.dictOf S v = some (t, ks, vs) → z = .int ks.length → rLenP M.K [u] H Q := by
    intro t ks vs e1 e2
    obtain ⟨a, rfl, h⟩ := r.dictOf rs e1
    rcases h with ⟨_, kvs, h1, h2, rfl, h4⟩ | ⟨_, kvs, h1, h2, rfl, h4⟩
    · exact .inr (.inl ⟨a, kvs, rfl, h1, q _ (by rw [e2, List.length_map])⟩)
    · exact .inr (.inr ⟨a, kvs, rfl, h1, q _ (by rw [e2, List.length_map])⟩)
  have sq : ∀ {xs}, Pz.seqOf S v = some xs → z = .int xs.length → rLenP M.K [u] H Q := by
    intro xs e1 e2
    obtain ⟨a, vs, rfl, h, _, rl⟩ := r.seqOf rs e1
    refine .inl ⟨.ref a, vs.length, rfl, ?_, q _ (by rw [e2, rl.length])⟩
    rcases h with h | h
    · exact .inl ⟨vs, h, rfl⟩
    · exact .inr ⟨vs, h, rfl⟩
  cases v with
  | str x =>
    cases r with
    | str l =>
      have e' : some (PV.int x.length) = some z := e
      cases e'
      exact .inl ⟨.str x, x.length, rfl, ⟨by rw [sizeLine_eq]; exact l, rfl⟩, q _ rfl⟩
  | dct t ks vs =>
    have e' : some (PV.int ks.length) = some z := e
    cases e'
    exact dct (t := t) (ks := ks) (vs := vs) rfl rfl
  | tup xs => have e' : some (PV.int xs.length) = some z := e; cases e'; exact sq (xs := xs) rfl rfl
  | wtup xs => have e' : some (PV.int xs.length) = some z := e; cases e'; exact sq (xs := xs) rfl rfl
  | ktup xs => have e' : some (PV.int xs.length) = some z := e; cases e'; exact sq (xs := xs) rfl rfl
  | frz xs => have e' : some (PV.int xs.length) = some z := e; cases e'; exact sq (xs := xs) rfl rfl
  | lst xs => have e' : some (PV.int xs.length) = some z := e; cases e'; exact sq (xs := xs) rfl rfl
  | cell n =>
    have e' : (match Pz.seqOf S (.cell n) with | some xs => some (PV.int xs.length) | none => match Pz.dictOf S (.cell n) with | some (_, ks, _) => some (PV.int ks.length) | none => none) = some z := e
    split at e'
    · rename_i xs e1; cases e'; exact sq e1 rfl
    · split at e'
      · rename_i t ks vs e1; cases e'; exact dct e1 rfl
      · cases e'
  | _ => simp [bi, Pz.seqOf, Pz.listOf, Pz.dictOf] at e
/-- a built-in function of one argument -/
theorem bi1_r {f : Bi} {r : List V → Hp → VK → Prop} {σ : St'} {Q : VK} (h : tE M c W (.bi f (.cons a' .nil)) σ H Q)
    (q : ∀ v z u S1 m1 H1, RepS M m1 H1 S1 → Rep M m1 H1 v u → bi S1 f [v] = some z → Post M (Rep M) (.ok z S1) m1 H1 σ W Q → r [u] H1 Q) : tCB r (tEs M c W (.cons a' .nil)) σ H Q := by
  obtain ⟨ρ, S, m, re, rs, p⟩ := h
  have hp : (E.bi f (.cons a' .nil)).den c ρ S = ((Es.cons a' .nil).den c ρ S).bind fun vs S1 => ofO (bi S1 f vs) S1 := by simp only [E.den]
  rw [hp] at p
  refine ⟨ρ, S, m, re, rs, p.bind fun vs S1 m1 H1 us e1 x1 rs1 r1 p1 => ?_⟩
  obtain ⟨z, e, p2⟩ := p1.ofO
  have hv : ∃ v, vs = [v] := by
    simp only [Es.den] at e1
    obtain ⟨v, S2, _, e2⟩ := R.bind_ok_iff e1
    simp only [R.bind_ok] at e2
    cases e2; exact ⟨v, rfl⟩
  obtain ⟨v, rfl⟩ := hv
  obtain ⟨u, rfl, r2⟩ := r1.one
  exact q v z u S1 m1 H1 rs1 r2 e p2
theorem mem_blt (g : Gd M X) {x : Str} (h : x ∈ bltNames) : X.mg x = none := by rw [g.mg]; exact g.blt x h
theorem s_len (g : Gd M X) (hg : Gl X "len") (ha : PA X [a] (tEs M c W (.cons a' .nil))) (hs : isStar a = false) : PE X (.Call (.Name "len" p) [a] [] pos) (tE M c W (.bi .len (.cons a' .nil))) :=
  PE.imp (pe_callB (call_lenP (X := X)) hg (mem_blt g (by decide +kernel)) boot_len ha (he := starEach_cons hs) (hpl := any_star (by simp))) fun σ H Q h => by
    rw [g.K]
    exact bi1_r h fun v z u S1 m1 H1 rs1 r1 e p1 => len_ok rs1 r1 e fun n en => by subst en; exact p1.ok0 rs1 (.int _)
theorem s_abs (g : Gd M X) (hg : Gl X "abs") (ha : PA X [a] (tEs M c W (.cons a' .nil))) (hs : isStar a = false) : PE X (.Call (.Name "abs" p) [a] [] pos) (tE M c W (.bi .abs (.cons a' .nil))) :=
  PE.imp (pe_callB (call_abs (X := X)) hg (mem_blt g (by decide +kernel)) (by decide +kernel) ha (he := starEach_cons hs) (hpl := any_star (by simp))) fun σ H Q h =>
    bi1_r h fun v z u S1 m1 H1 rs1 r1 e p1 => by
      cases r1 with
      | int i => simp [bi] at e; subst e; exact ⟨i, rfl, p1.ok0 rs1 (.int _)⟩
      | _ => simp [bi] at e
theorem s_sum (g : Gc M X) (hg : Gl X "sum") (ha : PA X [a] (tEs M c W (.cons a' .nil))) (hs : isStar a = false) : PE X (.Call (.Name "sum" p) [a] [] pos) (tE M c W (.bi .sum (.cons a' .nil))) :=
  PE.imp (pe_callB (cr_sum g.calm) hg (mem_blt g.toGd (by decide +kernel)) (by decide +kernel) ha (he := starEach_cons hs) (hpl := any_star (by simp))) fun σ H Q h =>
    bi1_r h fun v z u S1 m1 H1 rs1 r1 e p1 => by
      have e' : (match Pz.listOf S1 v with | some xs => (intsOf xs).map fun is => PV.int is.sum | none => none) = some z := e
      split at e'
      · rename_i xs e1
        obtain ⟨is, e2, rfl⟩ := Option.map_eq_some_iff.mp e'
        obtain ⟨b, vs, rfl, h1, _, h2⟩ := r1.listOf rs1 e1
        have e3 := h2.ints e2
        subst e3
        exact ⟨b, is, rfl, by rw [g.K]; exact SqL.of h1, p1.ok0 rs1 (.int _)⟩
      · cases e'
theorem s_all (g : Gc M X) (hg : Gl X "all") (ha : PA X [a] (tEs M c W (.cons a' .nil))) (hs : isStar a = false) : PE X (.Call (.Name "all" p) [a] [] pos) (tE M c W (.bi .all (.cons a' .nil))) :=
  PE.imp (pe_callB (cr_all g.calm) hg (mem_blt g.toGd (by decide +kernel)) (by decide +kernel) ha (he := starEach_cons hs) (hpl := any_star (by simp))) fun σ H Q h =>
    bi1_r h fun v z u S1 m1 H1 rs1 r1 e p1 => by
      have e' : (match Pz.listOf S1 v with | some xs => (boolsOf xs).map fun is => PV.bl (is.all id) | none => none) = some z := e
      split at e'
      · rename_i xs e1
        obtain ⟨is, e2, rfl⟩ := Option.map_eq_some_iff.mp e'
        obtain ⟨b, vs, rfl, h1, _, h2⟩ := r1.listOf rs1 e1
        have e3 := h2.bools e2
        subst e3
        exact ⟨b, is, rfl, by rw [g.K]; exact SqL.of h1, p1.ok0 rs1 (.bl _)⟩
      · cases e'
theorem s_any (g : Gc M X) (hg : Gl X "any") (ha : PA X [a] (tEs M c W (.cons a' .nil))) (hs : isStar a = false) : PE X (.Call (.Name "any" p) [a] [] pos) (tE M c W (.bi .any (.cons a' .nil))) :=
  PE.imp (pe_callB (cr_any g.calm) hg (mem_blt g.toGd (by decide +kernel)) (by decide +kernel) ha (he := starEach_cons hs) (hpl := any_star (by simp))) fun σ H Q h =>
    bi1_r h fun v z u S1 m1 H1 rs1 r1 e p1 => by
      have e' : (match Pz.listOf S1 v with | some xs => (boolsOf xs).map fun is => PV.bl (is.any id) | none => none) = some z := e
      split at e'
      · rename_i xs e1
        obtain ⟨is, e2, rfl⟩ := Option.map_eq_some_iff.mp e'
        obtain ⟨b, vs, rfl, h1, _, h2⟩ := r1.listOf rs1 e1
        have e3 := h2.bools e2
        subst e3
        exact ⟨b, is, rfl, by rw [g.K]; exact SqL.of h1, p1.ok0 rs1 (.bl _)⟩
      · cases e'
theorem s_intC (g : Gd M X) (hg : Gl X "int") (ha : PA X [a] (tEs M c W (.cons a' .nil))) (hs : isStar a = false) : PE X (.Call (.Name "int" p) [a] [] pos) (tE M c W (.bi .int (.cons a' .nil))) :=
  PE.imp (pe_callTy (call_int1 (X := X)) hg (mem_blt g (by decide +kernel)) (by decide +kernel) ha (he := starEach_cons hs) (hpl := any_star (by simp))) fun σ H Q h =>
    bi1_r h fun v z u S1 m1 H1 rs1 r1 e p1 => by
      cases r1 with
      | int i => simp [bi] at e; subst e; exact .inl ⟨i, rfl, p1.ok0 rs1 (.int _)⟩
      | _ => simp [bi] at e
theorem call_tupleF : CallR X (.type "tuple") (fun xs H Q => ∃ p ys, xs = [.ref p] ∧ ((SqL X.K H p ys ∧ NewT H ys Q) ∨ (SqT X.K H p ys ∧ Q (.ref p) H))) := by
  intro pins s σ H xs us Q I r h
  obtain ⟨p, ys, rfl, h⟩ := h
  obtain ⟨u, rfl, rx⟩ := vals1 r
  cases rx
  rcases h with ⟨hq, q⟩ | ⟨hq, q⟩
  · obtain ⟨its, r', pl, hz⟩ := I.list hq
    have hlen := r'.length
    refine call_tuple_list pl.isList (fun h' kp => ?_) (by simp only [List.size_toArray] <;> omega)
    have I1 : Inv X pins σ H { s with heap := h' } := I.kept (t' := s.toks) kp
    exact ⟨.ref _, _, tupNew (t' := s.toks) I1 r' hz, rfl, q _ _ (I1.hok.fresh (Nat.le_refl _)) rfl⟩
  · obtain ⟨its, r', pl, hz⟩ := I.tuple hq
    exact call_tuple_same pl ⟨.ref p, H, I, rfl, q⟩
theorem s_tupleC (g : Gd M X) (hg : Gl X "tuple") (ha : PA X [a] (tEs M c W (.cons a' .nil))) (hs : isStar a = false) : PE X (.Call (.Name "tuple" p) [a] [] pos) (tE M c W (.bi .tuple (.cons a' .nil))) :=
  PE.imp (pe_callTy (call_tupleF (X := X)) hg (mem_blt g (by decide +kernel)) (by decide +kernel) ha (he := starEach_cons hs) (hpl := any_star (by simp))) fun σ H Q h =>
    bi1_r h fun v z u S1 m1 H1 rs1 r1 e p1 => by
      have gen : ∀ xs, Pz.listOf S1 v = some xs → z = .tup xs → ∃ p ys, [u] = [V.ref p] ∧ ((SqL X.K H1 p ys ∧ NewT H1 ys Q) ∨ (SqT X.K H1 p ys ∧ Q (.ref p) H1)) := by
        intro xs e1 e2
        subst e2
        obtain ⟨b, vs, rfl, h1, l, h2⟩ := r1.listOf rs1 e1
        exact ⟨b, vs, rfl, .inl ⟨SqL.of h1, NewT.of rs1 h2 l p1⟩⟩
      cases v with
      | tup xs =>
        have e' : some (PV.tup xs) = some z := e
        cases e'
        cases r1 with
        | tup t l r => exact ⟨_, _, rfl, .inr ⟨t.sq, p1.ok0 rs1 (.tup t l r)⟩⟩
      | ktup xs =>
        have e' : some (PV.ktup xs) = some z := e
        cases e'
        cases r1 with
        | ktup t l r => exact ⟨_, _, rfl, .inr ⟨t.sq, p1.ok0 rs1 (.ktup t l r)⟩⟩
      | lst xs => have e' : some (PV.tup xs) = some z := e; cases e'; exact gen xs rfl rfl
      | cell n =>
        have e' : (match Pz.listOf S1 (.cell n) with | some xs => some (PV.tup xs) | none => none) = some z := e
        split at e'
        · rename_i xs e1; cases e'; exact gen xs e1 rfl
        · cases e'
      | _ => simp [bi, Pz.listOf] at e
/-! ### isinstance -/
def Ty.name : Ty → String
  | .int => "int"
  | .bool => "bool"
  | .str => "str"
  | .tuple => "tuple"
  | .list => "list"
theorem kit_all (K : PySem.W.Frag) (t : Ty) : PySem.W.kitOne K (.type "NoneType") (.type t.name) = some false ∧ PySem.W.kitOne K (.type "bool") (.type t.name) = some (decide (t = .int) || decide (t = .bool)) ∧ PySem.W.kitOne K (.type "int") (.type t.name) = some (decide (t = .int)) ∧
    PySem.W.kitOne K (.type "str") (.type t.name) = some (decide (t = .str)) ∧ PySem.W.kitOne K (.type "tuple") (.type t.name) = some (decide (t = .tuple)) ∧ PySem.W.kitOne K (.type "list") (.type t.name) = some (decide (t = .list)) ∧ PySem.W.kitOne K (.type "dict") (.type t.name) = some false := by
  cases t <;> exact ⟨kit_ty (by decide +kernel), kit_ty (by decide +kernel), kit_ty (by decide +kernel), kit_ty (by decide +kernel), kit_ty (by decide +kernel), kit_ty (by decide +kernel), kit_ty (by decide +kernel)⟩
theorem inst_ok {v : PV} {u : V} {t : Ty} {r : Bool} (rs : RepS M m H S) (rv : Rep M m H v u) (e : inst S v t = some r) : ∃ ty, TyX M.K H u ty ∧ PySem.W.kitOne M.K ty (.type t.name) = some r := by
  obtain ⟨k1, k2, k3, k4, k5, k6, k7⟩ := kit_all M.K t
  cases rv with
  | non => have e' : some false = some r := e; cases e'; exact ⟨_, .base .non, k1⟩
  | bl x => have e' : some (decide (t = .int) || decide (t = .bool)) = some r := e; cases e'; exact ⟨_, .base (.bl x), k2⟩
  | int x => have e' : some (decide (t = .int)) = some r := e; cases e'; exact ⟨_, .base (.int x), k3⟩
  | str l => have e' : some (decide (t = .str)) = some r := e; cases e'; exact ⟨_, .base (.str _), k4⟩
  | tup h l q => have e' : some (decide (t = .tuple)) = some r := e; cases e'; obtain ⟨⟨o, h, _⟩, _⟩ := h; exact ⟨_, .fTuple h, k5⟩
  | ktup h l q => have e' : some (decide (t = .tuple)) = some r := e; cases e'; exact ⟨_, .base (.tup h.1), k5⟩
  | wtup h l q =>
    have e' : some (decide (t = .tuple)) = some r := e; cases e'
    obtain ⟨o, its, n, h1, h2, _⟩ := h
    exact ⟨_, .kTuple h1 h2, k5⟩
  | lst h _ _ _ => have e' : some (decide (t = .list)) = some r := e; cases e'; exact ⟨_, .base (.lst h), k6⟩
  | dK h _ _ _ => have e' : some false = some r := e; cases e'; exact ⟨_, .base (.dK h), k7⟩
  | dT h _ _ _ => have e' : some false = some r := e; cases e'; exact ⟨_, .base (.dT h), k7⟩
  | @cell n ad hc =>
    obtain ⟨o, e1, ro⟩ := rs.at hc
    have e' : (match S[n]? with | some (.lst _) => some (decide (t = .list)) | _ => none) = some r := e
    rw [e1] at e'
    cases o with
    | lst ys => cases e'; obtain ⟨vs, h1, _⟩ := ro; exact ⟨_, .base (.lst h1), k6⟩
    | _ => cases e'
  | _ => simp [inst] at e
theorem s_inst (g : Gd M X) {t : Ty} {tn : Str} {p2 : Pos} (ht : tn = Str.ofString t.name) (hg : Gl X "isinstance") (hg2 : Gl X tn) (ha : PE X a (tE M c W a')) (hs : isStar a = false) :
    PE X (.Call (.Name "isinstance" p) [a, .Name tn p2] [] pos) (tE M c W (.inst a' t)) := by
  have hn : PE X (.Name tn p2) (tC (.ty t.name)) := by
    subst ht
    cases t <;> exact pe_bltn hg2 (mem_blt g (by decide +kernel)) (by decide +kernel) rfl (by decide +kernel)
  refine PE.imp (pe_callB (call_isi (X := X)) hg (mem_blt g (by decide +kernel)) (by decide +kernel) (pa_cons ha (pa_cons hn pa_nil) (starEach_cons hs)) (he := starEach_cons hs) (hpl := any_star (by simp [isStar]))) fun σ H Q h => ?_
  obtain ⟨ρ, S, m, re, rs, p⟩ := h
  simp only [E.den] at p
  refine ⟨ρ, S, m, re, rs, p.bind fun v S1 m1 H1 u e1 x1 rs1 r1 p1 => ?_⟩
  obtain ⟨z, e, p2⟩ := p1.ofO
  obtain ⟨r, e2, rfl⟩ := Option.map_eq_some_iff.mp e
  obtain ⟨ty, h1, h2⟩ := inst_ok rs1 r1 e2
  rw [g.K]
  exact ⟨u, .ty t.name, ty, .type t.name, r, rfl, .ty _, h1, h2, p2.ok0 rs1 (.bl _)⟩
/-! ### fields -/
theorem RepL.lookup {f : Str} {x : PV} : ∀ {fs : List (Str × PV)} {gs : List (Str × V)}, fs.map (·.1) = gs.map (·.1) → RepL M m H (fs.map (·.2)) (gs.map (·.2)) → fs.lookup f = some x → ∃ v, gs.lookup f = some v ∧ Rep M m H x v
  | [], _, _, _, e => by simp at e
  | (k, y) :: fs, [], h, _, _ => by simp at h
  | (k, y) :: fs, (j, w) :: gs, h, r, e => by
    simp only [List.map_cons, List.cons.injEq] at h
    obtain ⟨rfl, h⟩ := h
    cases r with
    | cons r t =>
      simp only [List.lookup_cons] at e ⊢
      cases q : f == k with
      | true => simp only [q] at e ⊢; cases e; exact ⟨w, rfl, r⟩
      | false => simp only [q] at e ⊢; exact RepL.lookup h t e
theorem mem_lookup {α : Type} {f : Str} {x : α} : ∀ {fs : List (Str × α)}, fs.lookup f = some x → f ∈ fs.map (·.1)
  | [], e => by simp at e
  | (k, y) :: fs, e => by
    simp only [List.lookup_cons] at e
    cases q : f == k with
    | true => simp only [q] at e; simp [eq_of_beq q]
    | false => simp only [q] at e; simp [mem_lookup e]
theorem s_fld (g : Gd M X) {f : Str} (ha : PE X a (tE M c W a')) (hb : attributeBase a f X.env (eval a X.env) = eval a X.env) : PE X (.Attribute a f pos) (tE M c W (.fld a' f)) :=
  PE.imp (pe_fld ha hb) fun σ H Q ⟨ρ, S, m, re, rs, p⟩ => by
    simp only [E.den] at p
    refine ⟨ρ, S, m, re, rs, p.bind fun v S1 m1 H1 u e1 x1 rs1 r1 p1 => ?_⟩
    cases r1 with
    | @cell n ad hc =>
      obtain ⟨o, e2, ro⟩ := rs1.at hc
      simp only [e2] at p1
      cases o with
      | ins C fs =>
        obtain ⟨z, e3, p2⟩ := p1.ofO
        obtain ⟨C', dx, gs, h1, h2, ⟨h3, h4⟩, h5, h6⟩ := ro
        obtain ⟨w, e4, rw'⟩ := h6.lookup h5 e3
        rw [g.K]
        exact ⟨ad, C', dx, gs, w, rfl, h2, h3, h4 f (mem_lookup e3), e4, p2.ok0 rs1 rw'⟩
      | _ => exact p1.elim
    | _ => exact False.elim p1
/-! ### lists' methods -/
def nullCall : Expr → Bool
  | .Call (.Name _ _) [] [] _ => true
  | _ => false
theorem base_of {a : Expr} {f : Str} {env : PySem.Env} {w : Sem Value} (h : nullCall a = false) : attributeBase a f env w = w := by
  unfold attributeBase
  split
  · cases h
  · rfl
theorem few1 {b : Expr} {env : PySem.Env} {cpos : Pos} (h : isStar b = false) : ((backTo cpos (starEach [b] env)).all (fun x => !x.1) && (backToKw cpos (keywordEach [] env)).all (fun x => x.1.isSome)
      && decide (([b] : List Expr).length + ([] : List Keyword).length + (if ([] : List Keyword).isEmpty then 0 else 1) < 30)) = true := by
  rw [starEach_cons h]; rfl
theorem tyV_lst {K : PySem.W.Frag} {ad : Addr} {vs : List V} (h : H ad = some (.lst vs)) : tyV K "list" (.ref ad) H := Or.inl ⟨rfl, _, SqL.of h⟩
theorem s_app {ap : Pos} (ha : PE X a (tE M c W a')) (hb : PE X b (tE M c W b')) (hs : isStar b = false) (hn : nullCall a = false) (hl : (ap.endLine == pos.line) = true) : PE X (.Call (.Attribute a "append" ap) [b] [] pos) (tE M c W (.app a' b')) :=
  PE.imp (pe_bm PySem.F.plainAttrs_list PySem.F.slot_list_append PySem.F.type_list_append mt_append ha (pa_cons hb pa_nil (starEach_cons hs)) (base_of hn) (few1 hs) hl (starEach_cons hs) (any_star (by simp))) fun σ H Q ⟨ρ, S, m, re, rs, p⟩ => by
    simp only [E.den] at p
    refine ⟨ρ, S, m, re, rs, p.bind fun v S1 m1 H1 u e1 x1 rs1 r1 p1 => ?_⟩
    cases r1 with
    | @cell n ad hc =>
      obtain ⟨o0, e2, ro0⟩ := rs1.at hc
      simp only [e2] at p1
      cases o0 with
      | lst xs0 =>
        obtain ⟨vs0, h0, _⟩ := ro0
        refine ⟨tyV_lst h0, ρ, S1, m1, re.mono x1, rs1, p1.bind fun y S2 m2 H2 w e2 x2 rs2 r2 p2 => ?_⟩
        obtain ⟨o, e3, ro⟩ := rs2.at (x2.at hc)
        simp only [e3] at p2
        cases o with
        | lst xs =>
          obtain ⟨vs, h1, h2, h3⟩ := ro
          dsimp only at p2
          split at p2
          · rename_i hl
            refine ⟨ad, vs, w, rfl, rfl, h1, by rw [sizeLine_eq, ← h3.length]; exact hl, ?_⟩
            have ex : Ext m2 m2 H2 (upd H2 ad (.lst (vs ++ [w]))) := Ext.upd rs2.there (x2.at hc)
            refine p2.ok ex (rs2.upd (x2.at hc) ⟨vs ++ [w], upd_same, ?_, (h3.append (.cons r2 .nil)).mono ex⟩) .non
            rw [List.length_append, ← h3.length]; exact hl
          · exact p2.elim
        | _ => exact p2.elim
      | _ => exact p1.elim
    | _ => exact False.elim p1
theorem s_ext {ap : Pos} (ha : PE X a (tE M c W a')) (hb : PE X b (tE M c W b')) (hs : isStar b = false) (hn : nullCall a = false) (hl : (ap.endLine == pos.line) = true) : PE X (.Call (.Attribute a "extend" ap) [b] [] pos) (tE M c W (.ext a' b')) :=
  PE.imp (pe_bm PySem.F.plainAttrs_list PySem.F.slot_list_extend PySem.F.type_list_extend mt_extend ha (pa_cons hb pa_nil (starEach_cons hs)) (base_of hn) (few1 hs) hl (starEach_cons hs) (any_star (by simp))) fun σ H Q ⟨ρ, S, m, re, rs, p⟩ => by
    simp only [E.den] at p
    refine ⟨ρ, S, m, re, rs, p.bind fun v S1 m1 H1 u e1 x1 rs1 r1 p1 => ?_⟩
    cases r1 with
    | @cell n ad hc =>
      obtain ⟨o0, e2, ro0⟩ := rs1.at hc
      simp only [e2] at p1
      cases o0 with
      | lst xs0 =>
        obtain ⟨vs0, h0, _⟩ := ro0
        refine ⟨tyV_lst h0, ρ, S1, m1, re.mono x1, rs1, p1.bind fun y S2 m2 H2 w e2 x2 rs2 r2 p2 => ?_⟩
        obtain ⟨o, e3, ro⟩ := rs2.at (x2.at hc)
        simp only [e3] at p2
        split at p2
        · rename_i xs ys e4 e5
          cases e4
          obtain ⟨vs, h1, h2, h3⟩ := ro
          obtain ⟨bd, ws, rfl, g1, g2, g3⟩ := r2.listOf rs2 e5
          split at p2
          · rename_i hl
            refine ⟨ad, bd, vs, ws, rfl, rfl, h1, g1, by rw [sizeLine_eq, ← h3.length, ← g3.length]; exact hl, ?_⟩
            have ex : Ext m2 m2 H2 (upd H2 ad (.lst (vs ++ ws))) := Ext.upd rs2.there (x2.at hc)
            refine p2.ok ex (rs2.upd (x2.at hc) ⟨vs ++ ws, upd_same, ?_, (h3.append g3).mono ex⟩) .non
            rw [List.length_append, ← h3.length, ← g3.length]; exact hl
          · exact p2.elim
        · exact p2.elim
      | _ => exact p1.elim
    | _ => exact False.elim p1
theorem RepL.strs : ∀ {xs : List PV} {vs : List V} {ss : List Str}, RepL M m H xs vs → strsOf xs = some ss → vs = ss.map V.str
  | _, _, _, .nil, e => by simp [strsOf] at e; subst e; rfl
  | _, _, _, .cons (x := x) r t, e => by
    unfold strsOf at e
    split at e
    · rename_i e1; cases e1
    · rename_i i xs' e1
      cases e1
      split at e
      · rename_i is' e2
        cases e
        cases r
        rw [t.strs e2]; rfl
      · cases e
    · cases e
/-- t.m(e), t a tuple whose object is known -/
theorem pe_tupM {o e : Expr} {to te : TE} {name : Str} {apos cpos : Pos} {id : String} {r : V → List V → Hp → VK → Prop} (pa : PlainAttrs "tuple") (slot : Slot "tuple" name id) (hty : typeOf (.builtin id) = pure (.type "method_descriptor")) (hm : MtR X id r) (ho : PE X o to) (ha : PE X e te)
    (hbase : attributeBase o name X.env (eval o X.env) = eval o X.env) (hst : isStar e = false) (hline : (apos.endLine == cpos.line) = true) :
    PE X (.Call (.Attribute o name apos) [e] [] cpos) (fun σ H Q => to σ H fun x H1 => (∃ a vs, x = .ref a ∧ ∃ ob : Obj, H1 a = some (.frz ob (.tup vs)) ∧ ob.dict = none) ∧ te σ H1 fun y H2 => r x [y] H2 Q) := by
  refine ⟨fun pins s σ H Q I h => ?_⟩
  have hs := starEach_cons (es := []) (env := X.env) hst
  refine wpAny_Call_method_late hbase (few1 hst) hline rfl (thn (ho.run pins s σ H _ I h) fun v s1 ⟨x, H1, I1, r1, ty, q1⟩ => ?_)
  obtain ⟨a, vs, rfl, ob, h1, h2⟩ := ty
  cases r1
  obtain ⟨g1, g2⟩ := (show ObjOk X.prog X.w H1 s1.heap a (.frz ob (.tup vs)) from I1.hok a _ h1)
  obtain ⟨_, _, _, o2, g3, g4, _⟩ := g2
  refine ⟨"tuple", id, pa, slot, hty, ⟨o2, g3, g4⟩, fun b e => (by cases e; exact ⟨ob, g1, h2⟩), ?_⟩
  have hA := (pa_cons ha pa_nil hs).run cpos pins s1 σ H1 (fun ws H2 => r (.ref a) ws H2 Q) I1 q1
  rw [hs] at hA ⊢
  refine Calls.callWith_builtin (any_star (es := []) (env := X.env) (pos := cpos) (by simp)) (Calls.evalArgs_plain ?_)
  exact thn hA fun us s2 ⟨ws, H2, I2, r2, q2⟩ => hm pins s2 σ H2 (.ref a) ws _ us Q I2 rfl r2 q2
theorem s_ixo (g : Gd M X) {ap : Pos} (ha : PE X a (tE M c W a')) (hb : PE X b (tE M c W b')) (hs : isStar b = false) (hn : nullCall a = false) (hl : (ap.endLine == pos.line) = true) : PE X (.Call (.Attribute a "index" ap) [b] [] pos) (tE M c W (.ixo a' b')) :=
  PE.imp (pe_tupM PySem.F.plainAttrs_tuple PySem.F.slot_tuple_index PySem.F.type_tuple_index mt_tup_index ha hb (base_of hn) hs hl) fun σ H Q ⟨ρ, S, m, re, rs, p⟩ => by
    simp only [E.den] at p
    refine ⟨ρ, S, m, re, rs, p.bind fun v S1 m1 H1 u e1 x1 rs1 r1 p1 => ?_⟩
    cases r1 with
    | @tup ad vs xs t l r =>
      obtain ⟨⟨ob, t1, t2⟩, t3⟩ := id t
      refine ⟨⟨ad, vs, rfl, ob, t1, t2⟩, ρ, S1, m1, re.mono x1, rs1, p1.bind fun y S2 m2 H2 w e2 x2 rs2 r2 p2 => ?_⟩
      split at p2
      · rename_i ss z e3
        cases r2
        have e4 := r.strs e3
        subst e4
        split at p2
        · rename_i j e5
          obtain ⟨h1, h2, h3⟩ := List.findIdx?_eq_some_iff_getElem.mp e5
          refine ⟨ad, ss, z, j, rfl, rfl, by rw [g.K]; exact (t.mono x2).sq, ?_, fun k hk e => ?_, p2.ok0 rs2 (.int _)⟩
          · rw [List.getElem?_eq_getElem h1]; exact congrArg some (of_decide_eq_true h2)
          · obtain ⟨hlt, e6⟩ := List.getElem?_eq_some_iff.mp e
            have := h3 k hk
            simp [e6] at this
        · exact p2.elim
      · exact p2.elim
    | _ => exact False.elim p1
end
end Pz
end
section
set_option Elab.async false
set_option linter.all false
set_option maxRecDepth 100000
/-! Pz: what is walked. -/
namespace PySem
open Sem (wp)
set_option maxHeartbeats 1000000 in
theorem pz_meets_enum {v : Value} {o : Obj} {H : Heap → Prop} (B : Begins v o H) :
    Meets (Builtin.«enumerate.__new__» ⟨[.type "enumerate", v], []⟩) (fun _ R s => H s.heap ∧
      R (.ok (.ret (.ref (s.heap.push o).objs.size))) { s with heap := (s.heap.push o).push { cls := .type "enumerate", data := .fields #[.none, .bool false, .ref s.heap.objs.size, rawInt 0, .none, .none] } }) :=
  .of_wp fun prog w A R s h => by
    obtain ⟨hp, g, d, tk, os⟩ := s; obtain ⟨h1, h⟩ := h
    have hsub := sub_enumerate
    have q1 : ∀ {A' : Around} {E : Value → Shared → Prop} {Q : Value → Shared → Prop}, Q (.ref hp.objs.size) ⟨hp.push o, g, d, tk, os⟩ → wpAny (model prog w) A' (pyIter v) Q E ⟨hp, g, d, tk, os⟩ :=
      fun q => B.iter prog w _ _ ⟨hp, g, d, tk, os⟩ _ h1 q
    wp_walk using q1
    refine wpAny_stack_any fun st => wpAny_pure ?_
    split
    · rename_i c _ _ _ _ _
      cases (c == Value.type "enumerate")
      · wp_walk using q1
        exact ⟨_, rfl, h⟩
      · wp_walk using q1
        exact ⟨_, rfl, h⟩
    · wp_walk using q1
      exact ⟨_, rfl, h⟩
theorem pz_enum_begins {prog : Program} {w : World} {A : Around} {E : Value → Shared → Prop} {s : Shared} {v : Value} {o : Obj} {H : Heap → Prop} {Q : Value → Shared → Prop} (B : Begins v o H) (h1 : H s.heap)
    (h : ∀ h', IsEnum h' (s.heap.objs.size + 1) s.heap.objs.size 0 .none → h'.get? s.heap.objs.size = some o → h'.objs.size = s.heap.objs.size + 2 →
      (∀ b o, s.heap.get? b = some o → h'.get? b = some o) → Q (.ref (s.heap.objs.size + 1)) { s with heap := h' }) :
    wpAny (model prog w) A (call (.type "enumerate") [v]) Q E s := by
  refine callType_new F.called_enumerate (by decide) (F.typeCall_enumerate_1 _) (F.newCall_enumerate_1 _) (fun obj => F.args_object_init_2 obj _) F.entry_enumerate_new
    (pz_meets_enum B) ⟨h1, ?_⟩
  have hz : (s.heap.push o).objs.size = s.heap.objs.size + 1 := Heap.size_push ..
  show _ ∧ _
  rw [hz]
  have he : IsEnum ((s.heap.push o).push { cls := .type "enumerate", data := .fields #[.none, .bool false, .ref s.heap.objs.size, rawInt 0, .none, .none] }) (s.heap.objs.size + 1) s.heap.objs.size 0 .none := by
    have := Heap.get?_push_size (s.heap.push o) (o := { cls := .type "enumerate", data := .fields #[.none, .bool false, .ref s.heap.objs.size, rawInt 0, .none, .none] }) rfl
    rw [hz] at this; exact this
  refine ⟨⟨_, he, rfl⟩, h _ he (Heap.get?_push_of_some _ (Heap.get?_push_size _ B.free)) (by rw [Heap.size_push, hz]) fun b o x => Heap.get?_push_of_some _ (Heap.get?_push_of_some _ x)⟩
end PySem
namespace Pz
open PySem PySem.Spec PyProof.Rows L2
/-- the tuple at a, its items with their numbers in new pairs -/
def IteT (a : Addr) : L2.It :=
  ⟨fun i H => ∃ (xs : List V) (x : V), Rd H a (.tup xs) ∧ xs[i]? = some x, fun i H v H' => ∃ T x, v = .ref T ∧ H T = none ∧ H' = upd H T (.tup [.int (i : Nat), x]) ∧ ∀ xs, Rd H a (.tup xs) → xs[i]? = some x, fun i H => ∃ xs : List V, Rd H a (.tup xs) ∧ xs.length = i⟩
theorem turn_enumT {P : Program} {w : World} {K : PySem.W.Frag} {elts : List Expr} {kk : Nat} {tpos : Pos} (a e it : Addr) :
    Turn P w K (.Tuple elts kk tpos) (IteT a) [e, it] e (fun i h => (∃ old, IsEnum h e it ((i : Nat) : Int) old) ∧ h.IsTupleIter it a i ∧ e ≠ it) where
  mem := by simp
  obj := fun i h st b hb => by
    obtain ⟨⟨old, he⟩, ⟨o, ho, hc, hd⟩, _⟩ := st
    have e' : b = e ∨ b = it := by simpa using hb
    rcases e' with z | z
    · rw [z]; exact ⟨_, he, fun v q => nomatch q⟩
    · rw [z]; exact ⟨o, ho, fun v q => by rw [hd] at q; cases q⟩
  keep := fun i h h' st k => let ⟨⟨old, he⟩, hi, hne⟩ := st; ⟨⟨old, k e (by simp) _ he⟩, hi.at fun o q => k it (by simp) o q, hne⟩
  item := by
    intro X hP hw hK hc i pins s σ H E I hf st hg
    subst hP hw hK
    obtain ⟨⟨old, he⟩, hit, hne⟩ := st
    obtain ⟨xs, x, hq, hx⟩ := hg
    obtain ⟨its, rv, p, hz⟩ := I.tuple (.inl hq)
    obtain ⟨u, hu, ru⟩ := rv.get hx
    have hel : e < s.heap.objs.size := Heap.lt_size he
    have hil : it < s.heap.objs.size := by obtain ⟨_, q, _⟩ := hit; exact Heap.lt_size q
    have hat : a ≠ it := by
      have h0 := (hf it (by simp)).1
      rcases hq with hq | ⟨o, hq⟩
      · exact ne_of_none hq h0
      · exact ne_of_none hq h0
    have hlt : i < its.toArray.size := by
      have := (List.getElem?_eq_some_iff.mp hu).1
      simpa using this
    refine wpAny_pyNext_enum_itemD (Draws.tuple (A := X.A.in1) (I.ok.hd hc) it a hat its.toArray) he ⟨hit, p⟩ hlt hne (by
      simp only [List.mem_cons, List.not_mem_nil, or_false, not_or]
      refine ⟨hne, fun z => ?_⟩
      have h0 := (hf e (by simp)).1
      rw [z] at h0
      rcases hq with hq | ⟨o, hq⟩
      · rw [hq] at h0; cases h0
      · rw [hq] at h0; cases h0) fun x' h' tk hpx ho hst' hT hsz hk => ?_
    have ex' : x' = u := by
      have h1 : its.toArray[i]? = some u := by simpa using hu
      rw [h1] at hpx; exact (Option.some.inj hpx).symm
    subst ex'
    refine ⟨_, rfl, wpAny_letOwnedTupleGo_enum (s := { s with heap := h', toks := tk + 1 }) ho fun h'' he' sb => ?_⟩
    have hT2 : h''.get? s.heap.objs.size = some { cls := .type "tuple", data := .seq #[.int i tk, x'] } := (sb.2 _ (Nat.ne_of_gt hel)).trans hT
    have new : ObjOk X.prog X.w (upd H s.heap.objs.size (.tup [.int (i : Nat), x])) h'' s.heap.objs.size (.tup [.int (i : Nat), x]) :=
      ⟨by show 2 ≤ sizeLine; decide, [.int i tk, x'], .cons ⟨_, rfl⟩ (.cons ru .nil), ⟨_, hT2, rfl, _, rfl⟩⟩
    have I1 : Inv X pins σ (upd H s.heap.objs.size (.tup [.int (i : Nat), x])) { s with heap := h'', toks := tk + 1 } :=
      I.turnedNew (ch := [e, it]) (fun b ob hb q => (sb.2 b (fun z => hb (by simp [z]))).trans (hk b ob (fun z => hb (by simp [z])) (fun z => hb (by simp [z])) q)) hf (Nat.le_refl _) new
    refine ⟨.ref s.heap.objs.size, _, I1, rfl, ⟨_, x, rfl, I.hok.fresh (Nat.le_refl _), rfl, fun ys hy => ?_⟩, ⟨⟨x', ?_⟩, hst'.1.at fun o q => (sb.2 it (Ne.symm hne)).trans q, hne⟩, fun b hb => ?_⟩
    · rw [I.tuple_inj (.inl hy) (.inl hq)]; exact hx
    · have e1 : ((i + 1 : Nat) : Int) = (i : Int) + 1 := by omega
      rw [e1]; exact he'
    · have hb' : b < s.heap.objs.size := by
        have e' : b = e ∨ b = it := by simpa using hb
        rcases e' with z | z
        · rw [z]; exact hel
        · rw [z]; exact hil
      rw [upd_ne (Nat.ne_of_lt hb')]
      exact (hf b hb).1
  done := by
    intro X hP hw hK hc i pins s σ H E I hf st hg
    subst hP hw hK
    obtain ⟨⟨old, he⟩, hit, hne⟩ := st
    obtain ⟨xs, hq, hx⟩ := hg
    obtain ⟨its, rv, p, hz⟩ := I.tuple (.inl hq)
    obtain ⟨f0, f1, f2, f3, f4, f5⟩ := hf it (by simp)
    have hl := rv.length
    have hat : a ≠ it := by
      rcases hq with hq | ⟨o, hq⟩
      · exact ne_of_none hq f0
      · exact ne_of_none hq f0
    have hi : i = its.toArray.size := by rw [List.size_toArray]; omega
    refine wpAny_pyNext_enum_endD (Draws.tuple (A := X.A.in1) (I.ok.hd hc) it a hat its.toArray) he ⟨hi ▸ hit, p⟩ fun h' eb => ⟨rfl, I.turned (t' := s.toks) (fun b o hb q => eb b o hb q) f0 f1 f3 f4 f5⟩
  self := fun A i s Q E st h => let ⟨⟨_, he⟩, _⟩ := st; wpAny_pyIter_enum he h
end Pz
end
section
set_option Elab.async false
set_option linter.all false
set_option maxRecDepth 100000
/-! Pz: sources of walks. -/
namespace Pz
open PySem PySem.Spec PyProof.Rows L2
/-- what is known stays known -/
structure Kp (m m' : Mp) (H H' : Hp) : Prop where
  keep : ∀ a o, H a = some o → m.out a → H' a = some o ∧ m'.out a
  at_ : ∀ (n : Nat) (a : Addr), m.c[n]? = some a → m'.c[n]? = some a
section
variable {M : Md} {m m' m1 m2 : Mp} {H H' H1 H2 : Hp} {S : Store}
theorem Kp.refl : Kp m m H H := ⟨fun _ _ h n => ⟨h, n⟩, fun _ _ h => h⟩
theorem Kp.trans (e : Kp m m1 H H1) (f : Kp m1 m2 H1 H2) : Kp m m2 H H2 := ⟨fun a o h n => let ⟨h1, n1⟩ := e.keep a o h n; f.keep a o h1 n1, fun n a h => f.at_ n a (e.at_ n a h)⟩
theorem Ext.kp (e : Ext m m' H H') : Kp m m' H H' := ⟨fun a o h n => ⟨e.keep a o h n.1, e.out h n⟩, fun n a h => e.at h⟩
theorem Kp.hide {p : Addr} {o : HO} (hp : H p = none) : Kp m (m.hide p) H (L2.upd H p o) := ⟨fun a u h n => by
  have ne := ne_of_none h hp
  exact ⟨by rw [upd_ne ne]; exact h, n.1, by simp only [Mp.hide, List.mem_cons, not_or]; exact ⟨ne, n.2⟩⟩, fun _ _ h => h⟩
theorem Kp.grow {p : Addr} {o : HO} (hp : p ∈ m.h) : Kp m m H (L2.upd H p o) := ⟨fun a u h n => ⟨by rw [upd_ne (fun z => n.2 (by rw [z]; exact hp))]; exact h, n⟩, fun _ _ h => h⟩
mutual
theorem Rep.kp {x : PV} {v : V} (h : Rep M m H x v) (e : Kp m m' H H') : Rep M m' H' x v := match h with
  | .non => .non
  | .bl b => .bl b
  | .int i => .int i
  | .str h => .str h
  | .tup t l r => .tup (let ⟨⟨o, h1, h2⟩, h3⟩ := t; ⟨⟨o, (e.keep _ _ h1 h3).1, h2⟩, (e.keep _ _ h1 h3).2⟩) l (RepL.kp r e)
  | .lst h n l r => .lst (e.keep _ _ h n).1 (e.keep _ _ h n).2 l (RepL.kp r e)
  | .dK h n l r => .dK (e.keep _ _ h n).1 (e.keep _ _ h n).2 l (RepL.kp r e)
  | .dT h n l r => .dT (e.keep _ _ h n).1 (e.keep _ _ h n).2 l (RepL.kp r e)
  | .cell h => .cell (e.at_ _ _ h)
  | .fn h h2 => .fn h h2
  | .frz h n l r => .frz (e.keep _ _ h n).1 (e.keep _ _ h n).2 l (RepL.kp r e)
  | .wtup h l r => .wtup h l (RepL.kp r e)
  | .frw h l r => .frw h l (RepL.kp r e)
  | .ktup h l r => .ktup (e.keep _ _ h.1 h.2) l (RepL.kp r e)
  | .exn h0 h1 h n r => .exn h0 h1 (e.keep _ _ h n).1 (e.keep _ _ h n).2 (Rep.kp r e)
theorem RepL.kp {xs : List PV} {vs : List V} (h : RepL M m H xs vs) (e : Kp m m' H H') : RepL M m' H' xs vs := match h with
  | .nil => .nil
  | .cons r t => .cons (Rep.kp r e) (RepL.kp t e)
end
/-- the iterator walks what s stands for -/
def SrcR (M : Md) (m0 : Mp) (H0 : Hp) (s : Src) (J : L2.It) : Prop := ∀ m H S xs, Kp m0 m H0 H → RepS M m H S → srcItems S s = some xs → xs.length ≤ lim ∧
  ∀ i, (∀ x, xs[i]? = some x → J.go i H ∧ ∀ v H', J.yld i H v H' → Ext m m H H' ∧ RepS M m H' S ∧ Rep M m H' x v) ∧ (xs.length = i → J.stop i H)
theorem SrcR.kp {s : Src} {J : L2.It} (h : SrcR M m H s J) (e : Kp m m' H H') : SrcR M m' H' s J := fun m2 H2 S xs k => h m2 H2 S xs (e.trans k)
def tI (M : Md) (c : Cfg) (W : WX) (it : It) : TI := fun σ H R => ∃ ρ S m, RepE M m H ρ σ ∧ RepS M m H S ∧ Post M (SrcR M) (it.den c ρ S) m H σ W R
end
theorem PI.imp {X : Cx} {tg e : Expr} {t t' : TI} (h : PI X tg e t) (i : ∀ σ H R, t' σ H R → t σ H R) : PI X tg e t' := ⟨fun pins s σ H R I q => h.run pins s σ H R I (i _ _ _ q)⟩

section
variable {M : Md} {m m' m1 m2 : Mp} {H H' H1 H2 : Hp} {S : Store} {X : Cx} {c : Cfg} {W : WX} {a b d tg : Expr} {a' b' d' : E} {pos p : Pos} {K : PySem.W.Frag}
/-! ### the kinds of sources -/
theorem src_list {ad : Addr} {vs : List V} {xs : List PV} (hk : ∀ m' H', Kp m m' H H' → SqL K H' ad vs) (l : vs.length ≤ lim) (r : RepL M m H xs vs) : SrcR M m H (.fix xs) (Itl K ad) := by
  intro m1 H1 S ys k rs e
  cases e
  have h1 := hk m1 H1 k
  have r1 := r.kp k
  refine ⟨by rw [r.length]; exact l, fun i => ⟨fun x hx => ?_, fun hi => ⟨vs, h1, by rw [← r.length, hi]; exact Nat.le_refl _⟩⟩⟩
  obtain ⟨v, hv, rv⟩ := r1.get hx
  refine ⟨⟨vs, v, h1, hv⟩, fun u H' y => ?_⟩
  obtain ⟨rfl, y⟩ := y
  have := y vs h1
  rw [hv] at this; cases this
  exact ⟨rs.refl, rs, rv⟩
theorem src_tup {ad : Addr} {vs : List V} {xs : List PV} (hk : ∀ m' H', Kp m m' H H' → SqT K H' ad vs) (l : vs.length ≤ lim) (r : RepL M m H xs vs) : SrcR M m H (.fix xs) (Itt K ad) := by
  intro m1 H1 S ys k rs e
  cases e
  have h1 := hk m1 H1 k
  have r1 := r.kp k
  refine ⟨by rw [r.length]; exact l, fun i => ⟨fun x hx => ?_, fun hi => ⟨vs, h1, by rw [← r.length, hi]; exact Nat.le_refl _⟩⟩⟩
  obtain ⟨v, hv, rv⟩ := r1.get hx
  refine ⟨⟨vs, v, h1, hv⟩, fun u H' y => ?_⟩
  obtain ⟨rfl, y⟩ := y
  have := y vs h1
  rw [hv] at this; cases this
  exact ⟨rs.refl, rs, rv⟩
theorem src_cel {n : Nat} {ad : Addr} (h : m.c[n]? = some ad) : SrcR M m H (.cel n) (Itl K ad) := by
  intro m1 H1 S xs k rs e
  obtain ⟨o, e1, ro⟩ := rs.at (k.at_ _ _ h)
  simp only [srcItems, e1] at e
  cases o with
  | lst ys =>
    cases e
    obtain ⟨vs, h1, l, r⟩ := ro
    have h2 : SqL K H1 ad vs := SqL.of h1
    refine ⟨by rw [r.length]; exact l, fun i => ⟨fun x hx => ?_, fun hi => ⟨vs, h2, by rw [← r.length, hi]; exact Nat.le_refl _⟩⟩⟩
    obtain ⟨v, hv, rv⟩ := r.get hx
    refine ⟨⟨vs, v, h2, hv⟩, fun u H' y => ?_⟩
    obtain ⟨rfl, y⟩ := y
    have := y vs h2
    rw [hv] at this; cases this
    exact ⟨rs.refl, rs, rv⟩
  | _ => cases e
theorem src_str {x : Str} (l : x.length ≤ lim) : SrcR M m H (.fix (x.cps.toList.map fun z => .str ⟨#[z]⟩)) (Its x) := by
  intro m1 H1 S ys k rs e
  cases e
  refine ⟨by rw [List.length_map]; exact l, fun i => ⟨fun y hy => ?_, fun hi => ?_⟩⟩
  · rw [List.getElem?_map] at hy
    obtain ⟨z, hz, rfl⟩ := Option.map_eq_some_iff.mp hy
    have hz' : x.cps[i]? = some z := by simpa using hz
    refine ⟨(Array.getElem?_eq_some_iff.mp hz').1, fun u H' q => ?_⟩
    obtain ⟨rfl, z2, e2, rfl⟩ := q
    rw [hz'] at e2; cases e2
    exact ⟨rs.refl, rs, .str (by show 1 ≤ lim; decide)⟩
  · show x.cps.size ≤ i
    simp at hi
    omega
theorem src_rng {lo : Int} {n : Nat} (l : n ≤ lim) : SrcR M m H (.fix (rangeP lo 1 n)) (Itr lo n) := by
  intro m1 H1 S ys k rs e
  cases e
  refine ⟨by simpa [rangeP] using l, fun i => ⟨fun y hy => ?_, fun hi => ?_⟩⟩
  · unfold rangeP at hy
    rw [List.getElem?_map] at hy
    obtain ⟨z, hz, rfl⟩ := Option.map_eq_some_iff.mp hy
    obtain ⟨hlt, hz⟩ := List.getElem?_eq_some_iff.mp hz
    simp at hz hlt
    subst hz
    refine ⟨hlt, fun u H' q => ?_⟩
    obtain ⟨rfl, rfl⟩ := q
    rw [Int.mul_one]
    exact ⟨rs.refl, rs, .int _⟩
  · show n ≤ i
    simp [rangeP] at hi
    omega
theorem src_rngC {lo k : Int} {n : Nat} (l : n ≤ lim) : SrcR M m H (.fix (rangeP lo k n)) (Itc lo k n) := by
  intro m1 H1 S ys k rs e
  cases e
  refine ⟨by simpa [rangeP] using l, fun i => ⟨fun y hy => ?_, fun hi => ?_⟩⟩
  · unfold rangeP at hy
    rw [List.getElem?_map] at hy
    obtain ⟨z, hz, rfl⟩ := Option.map_eq_some_iff.mp hy
    obtain ⟨hlt, hz⟩ := List.getElem?_eq_some_iff.mp hz
    simp at hz hlt
    subst hz
    refine ⟨hlt, fun u H' q => ?_⟩
    obtain ⟨rfl, rfl⟩ := q
    exact ⟨rs.refl, rs, .int _⟩
  · show n ≤ i
    simp [rangeP] at hi
    omega
theorem enumP_len : ∀ (n : Nat) (xs : List PV), (enumP n xs).length = xs.length
  | _, [] => rfl
  | n, x :: xs => by simp [enumP, enumP_len (n + 1) xs]
theorem enumP_get : ∀ (n : Nat) (xs : List PV) (i : Nat), (enumP n xs)[i]? = (xs[i]?).map fun x => .ktup [.int ((n + i : Nat) : Int), x]
  | _, [], i => by simp [enumP]
  | n, x :: xs, 0 => by simp [enumP]
  | n, x :: xs, i + 1 => by
    have := enumP_get (n + 1) xs i
    simp only [enumP, List.getElem?_cons_succ, this]
    rw [show n + 1 + i = n + (i + 1) by omega]
theorem new_pair {x : PV} {v : V} {T : Addr} (rs : RepS M m H S) (r : Rep M m H x v) (hT : H T = none) {y : PV} {w : V} (r2 : Rep M m H y w) : Ext m m H (upd H T (.tup [v, w])) ∧ RepS M m (upd H T (.tup [v, w])) S ∧ Rep M m (upd H T (.tup [v, w])) (.ktup [x, y]) (.ref T) :=
  ⟨Ext.new rs.there hT, rs.new hT, .ktup ⟨upd_same, rs.notin hT⟩ (by show 2 ≤ lim; decide) (.cons (r.mono (Ext.new rs.there hT)) (.cons (r2.mono (Ext.new rs.there hT)) .nil))⟩
theorem src_enumL {ad : Addr} {vs : List V} {xs : List PV} (hk : ∀ m' H', Kp m m' H H' → SqL K H' ad vs) (l : vs.length ≤ lim) (r : RepL M m H xs vs) : SrcR M m H (.fix (enumP 0 xs)) (Ite K ad) := by
  intro m1 H1 S ys k rs e
  cases e
  have h1 := hk m1 H1 k
  have r1 := r.kp k
  refine ⟨by rw [enumP_len, r.length]; exact l, fun i => ⟨fun x hx => ?_, fun hi => ⟨vs, h1, by rw [← r.length, ← hi, enumP_len]; exact Nat.le_refl _⟩⟩⟩
  rw [enumP_get] at hx
  obtain ⟨z, hz, rfl⟩ := Option.map_eq_some_iff.mp hx
  obtain ⟨v, hv, rv⟩ := r1.get hz
  refine ⟨⟨vs, v, h1, hv⟩, fun u H' y => ?_⟩
  obtain ⟨T, x2, rfl, hT, rfl, y⟩ := y
  have := y vs h1
  rw [hv] at this; cases this
  rw [Nat.zero_add]
  exact new_pair rs (.int _) hT rv
theorem src_enumT {ad : Addr} {vs : List V} {xs : List PV} (hk : ∀ m' H', Kp m m' H H' → Rd H' ad (.tup vs)) (l : vs.length ≤ lim) (r : RepL M m H xs vs) : SrcR M m H (.fix (enumP 0 xs)) (IteT ad) := by
  intro m1 H1 S ys k rs e
  cases e
  have h1 := hk m1 H1 k
  have r1 := r.kp k
  refine ⟨by rw [enumP_len, r.length]; exact l, fun i => ⟨fun x hx => ?_, fun hi => ⟨vs, h1, by rw [← r.length, ← hi, enumP_len]⟩⟩⟩
  rw [enumP_get] at hx
  obtain ⟨z, hz, rfl⟩ := Option.map_eq_some_iff.mp hx
  obtain ⟨v, hv, rv⟩ := r1.get hz
  refine ⟨⟨vs, v, h1, hv⟩, fun u H' y => ?_⟩
  obtain ⟨T, x2, rfl, hT, rfl, y⟩ := y
  have := y vs h1
  rw [hv] at this; cases this
  rw [Nat.zero_add]
  exact new_pair rs (.int _) hT rv
theorem zipP_len : ∀ (xs ys : List PV), (zipP xs ys).length = min xs.length ys.length
  | [], _ => by simp [zipP]
  | _ :: _, [] => by simp [zipP]
  | x :: xs, y :: ys => by simp [zipP, zipP_len xs ys]
theorem zipP_get : ∀ (xs ys : List PV) (i : Nat) (z : PV), (zipP xs ys)[i]? = some z → ∃ x y, xs[i]? = some x ∧ ys[i]? = some y ∧ z = .ktup [x, y]
  | [], _, i, z, h => by simp [zipP] at h
  | _ :: _, [], i, z, h => by simp [zipP] at h
  | x :: xs, y :: ys, 0, z, h => by simp [zipP] at h; exact ⟨x, y, rfl, rfl, h.symm⟩
  | x :: xs, y :: ys, i + 1, z, h => by
    simp only [zipP, List.getElem?_cons_succ] at h ⊢
    exact zipP_get xs ys i z h
theorem src_zipL {ad bd : Addr} {vs ws : List V} {xs ys : List PV} (hk : ∀ m' H', Kp m m' H H' → SqL K H' ad vs) (hk2 : ∀ m' H', Kp m m' H H' → SqL K H' bd ws) (l : vs.length ≤ lim) (r : RepL M m H xs vs) (r2 : RepL M m H ys ws) : SrcR M m H (.fix (zipP xs ys)) (Itz K ad bd) := by
  intro m1 H1 S zs k rs e
  cases e
  have h1 := hk m1 H1 k
  have h2 := hk2 m1 H1 k
  have q1 := r.kp k
  have q2 := r2.kp k
  refine ⟨by rw [zipP_len, r.length]; exact Nat.le_trans (Nat.min_le_left _ _) l, fun i => ⟨fun x hx => ?_, fun hi => ⟨vs, ws, h1, h2, by rw [← r.length, ← r2.length, ← hi, zipP_len]; omega⟩⟩⟩
  obtain ⟨x1, y1, g1, g2, rfl⟩ := zipP_get _ _ _ _ hx
  obtain ⟨v, hv, rv⟩ := q1.get g1
  obtain ⟨w, hw, rw'⟩ := q2.get g2
  refine ⟨⟨vs, ws, v, w, h1, h2, hv, hw⟩, fun u H' y => ?_⟩
  obtain ⟨T, x2, y2, rfl, hT, rfl, f1, f2⟩ := y
  have e1 := f1 vs h1
  have e2 := f2 ws h2
  rw [hv] at e1; cases e1
  rw [hw] at e2; cases e2
  exact new_pair rs rv hT rw'
theorem src_zipT {ad bd : Addr} {vs ws : List V} {xs ys : List PV} (hk : ∀ m' H', Kp m m' H H' → SqT K H' ad vs) (hk2 : ∀ m' H', Kp m m' H H' → SqT K H' bd ws) (l : vs.length ≤ lim) (r : RepL M m H xs vs) (r2 : RepL M m H ys ws) : SrcR M m H (.fix (zipP xs ys)) (RZ.ItzT K ad bd) := by
  intro m1 H1 S zs k rs e
  cases e
  have h1 := hk m1 H1 k
  have h2 := hk2 m1 H1 k
  have q1 := r.kp k
  have q2 := r2.kp k
  refine ⟨by rw [zipP_len, r.length]; exact Nat.le_trans (Nat.min_le_left _ _) l, fun i => ⟨fun x hx => ?_, fun hi => ⟨vs, ws, h1, h2, by rw [← r.length, ← r2.length, ← hi, zipP_len]; omega⟩⟩⟩
  obtain ⟨x1, y1, g1, g2, rfl⟩ := zipP_get _ _ _ _ hx
  obtain ⟨v, hv, rv⟩ := q1.get g1
  obtain ⟨w, hw, rw'⟩ := q2.get g2
  refine ⟨⟨vs, ws, v, w, h1, h2, hv, hw⟩, fun u H' y => ?_⟩
  obtain ⟨T, x2, y2, rfl, hT, rfl, f1, f2⟩ := y
  have e1 := f1 vs h1
  have e2 := f2 ws h2
  rw [hv] at e1; cases e1
  rw [hw] at e2; cases e2
  exact new_pair rs rv hT rw'
/-! ### the rules -/
def iSeqA (K : PySem.W.Frag) (te : TE) : TI := fun σ H R => te σ H fun v H1 => (∃ a, v = .ref a ∧ (∃ xs, SqL K H1 a xs) ∧ R (Itl K a) H1) ∨ (∃ a, v = .ref a ∧ (∃ xs, SqT K H1 a xs) ∧ R (Itt K a) H1) ∨ (∃ x, v = .str x ∧ R (Its x) H1)
theorem pi_seqA {l : Expr} {tl : TE} (hl : PE X l tl) : PI X tg l (iSeqA X.K tl) := by
  refine ⟨fun pins s σ H R I h => ?_⟩
  refine thn (hl.run pins s σ H _ I h) fun v s1 ⟨x, H1, I1, r1, q1⟩ => ?_
  rcases q1 with ⟨a, e, ⟨xs, hq⟩, q⟩ | ⟨a, e, ⟨xs, hq⟩, q⟩ | ⟨x, e, q⟩
  · subst e
    cases r1
    obtain ⟨its, rv, p, hz⟩ := I1.list hq
    refine wpAny_pyIter_list p.isList ?_
    exact pi_one (tk := s1.toks) I1 _ (turn_list a _) ⟨_, Heap.get?_push_size _ rfl, rfl, rfl⟩ q
  · subst e
    cases r1
    obtain ⟨its, rv, p, hz⟩ := I1.tuple hq
    refine wpAny_pyIter_tuple (show s1.heap.IsTuple a its.toArray from p) ?_
    exact pi_one (tk := s1.toks) I1 _ (turn_tuple a _) ⟨_, Heap.get?_push_size _ rfl, rfl, rfl⟩ q
  · subst e
    obtain ⟨t, rfl⟩ := r1
    cases ha : x.cps.all (· < 128)
    · exact wpAny_pyIter_wide ha (pi_one (tk := s1.toks) I1 _ (turn_str _ x t "str_iterator" (.inr rfl)) ⟨_, Heap.get?_push_size _ rfl, rfl, rfl⟩ q)
    · exact wpAny_pyIter_ascii ha (pi_one (tk := s1.toks) I1 _ (turn_str _ x t "str_ascii_iterator" (.inl rfl)) ⟨_, Heap.get?_push_size _ rfl, rfl, rfl⟩ q)
theorem s_iSeq (g : Gd M X) (ha : PE X a (tE M c W a')) : PI X tg a (tI M c W (.seq a')) :=
  PI.imp (pi_seqA ha) fun σ H R ⟨ρ, S, m, re, rs, p⟩ => by
    simp only [It.den] at p
    refine ⟨ρ, S, m, re, rs, p.bind fun x S1 m1 H1 u e1 x1 rs1 r1 p1 => ?_⟩
    rw [g.K]
    cases r1 with
    | tup t l r => exact .inr (.inl ⟨_, rfl, ⟨_, t.sq⟩, p1.ok0 rs1 (src_tup (fun m' H' k => let ⟨⟨o, h1, _⟩, h3⟩ := t; .inl (.inr ⟨o, (k.keep _ _ h1 h3).1⟩)) l r)⟩)
    | lst h n l r => exact .inl ⟨_, rfl, ⟨_, SqL.of h⟩, p1.ok0 rs1 (src_list (fun m' H' k => SqL.of (k.keep _ _ h n).1) l r)⟩
    | frz h n l r => exact .inl ⟨_, rfl, ⟨_, .inl (.inr ⟨_, h⟩)⟩, p1.ok0 rs1 (src_list (fun m' H' k => .inl (.inr ⟨_, (k.keep _ _ h n).1⟩)) l r)⟩
    | wtup h l r => exact .inr (.inl ⟨_, rfl, ⟨_, h.sq⟩, p1.ok0 rs1 (src_tup (fun m' H' k => h.sq) l r)⟩)
    | frw h l r => exact .inl ⟨_, rfl, ⟨_, h.sq⟩, p1.ok0 rs1 (src_list (fun m' H' k => h.sq) l r)⟩
    | ktup h l r => exact .inr (.inl ⟨_, rfl, ⟨_, h.sq⟩, p1.ok0 rs1 (src_tup (fun m' H' k => .inl (.inl (k.keep _ _ h.1 h.2).1)) l r)⟩)
    | @cell n ad hc =>
      dsimp only at p1
      split at p1
      · rename_i hl
        obtain ⟨xs, hl⟩ := Option.isSome_iff_exists.mp hl
        obtain ⟨a2, vs, e2, e3, e4, e5⟩ := Rep.listOf (.cell hc) rs1 hl
        cases e2
        exact .inl ⟨_, rfl, ⟨_, SqL.of e3⟩, p1.ok0 rs1 (src_cel hc)⟩
      · exact False.elim p1
    | str l => exact .inr (.inr ⟨_, rfl, p1.ok0 rs1 (src_str l)⟩)
    | _ => exact False.elim p1
theorem small62 {i : Int} (h : small i) : -(2 ^ 62) ≤ i ∧ i < 2 ^ 62 := by unfold small at h; omega
theorem s_iRng1 (g : Gd M X) (hg : Gl X "range") (ha : PA X [a] (tEs M c W (.cons a' .nil))) (hs : isStar a = false) : PI X tg (.Call (.Name "range" p) [a] [] pos) (tI M c W (.rng1 a')) :=
  PI.imp (pi_range1 hg (mem_blt g (by decide +kernel)) ha (starEach_cons hs)) fun σ H R ⟨ρ, S, m, re, rs, p⟩ => by
    have hp : (It.rng1 a').den c ρ S = ((Es.cons a' .nil).den c ρ S).bind fun ys S2 => match ys with | [.int j] => if small j ∧ j.toNat ≤ lim then .ok (.fix (rangeP 0 1 j.toNat)) S2 else .out | _ => .out := by
      simp only [It.den, Es.den]
      cases a'.den c ρ S <;> simp
      rename_i v S1
      cases v <;> rfl
    rw [hp] at p
    refine ⟨ρ, S, m, re, rs, p.bind fun vs S1 m1 H1 us e1 x1 rs1 r1 p1 => ?_⟩
    split at p1
    · rename_i j
      split at p1
      · rename_i hj
        obtain ⟨v, rfl, r⟩ := r1.one
        cases r
        exact ⟨j, rfl, (small62 hj.1).1, (small62 hj.1).2, p1.ok0 rs1 (src_rng hj.2)⟩
      · exact False.elim p1
    · exact False.elim p1
theorem s_iRng2 (g : Gd M X) (hg : Gl X "range") (ha : PA X [a, b] (tEs M c W (.cons a' (.cons b' .nil)))) (hs : isStar a = false) (hs2 : isStar b = false) : PI X tg (.Call (.Name "range" p) [a, b] [] pos) (tI M c W (.rng2 a' b')) :=
  PI.imp (pi_range2 hg (mem_blt g (by decide +kernel)) ha (by rw [starEach_cons hs, starEach_cons hs2]; rfl) (by rw [starEach_cons hs2]; rfl)) fun σ H R ⟨ρ, S, m, re, rs, p⟩ => by
    have hp : (It.rng2 a' b').den c ρ S = ((Es.cons a' (.cons b' .nil)).den c ρ S).bind fun ys S2 => match ys with | [.int i, .int j] => if small i ∧ small j ∧ (j - i).toNat ≤ lim then .ok (.fix (rangeP i 1 (j - i).toNat)) S2 else .out | _ => .out := by
      simp only [It.den, Es.den]
      cases a'.den c ρ S <;> simp
      rename_i v S1
      cases b'.den c ρ S1 <;> simp
      rename_i w S2
      cases v <;> cases w <;> rfl
    rw [hp] at p
    refine ⟨ρ, S, m, re, rs, p.bind fun vs S1 m1 H1 us e1 x1 rs1 r1 p1 => ?_⟩
    split at p1
    · rename_i i j
      split at p1
      · rename_i hj
        obtain ⟨v, w, rfl, r, r'⟩ := r1.two
        cases r
        cases r'
        exact ⟨i, j, rfl, ⟨(small62 hj.1).1, (small62 hj.1).2, (small62 hj.2.1).1, (small62 hj.2.1).2⟩, p1.ok0 rs1 (src_rng hj.2.2)⟩
      · exact False.elim p1
    · exact False.elim p1
theorem RepL.three {x y z : PV} {vs : List V} (h : RepL M m H [x, y, z] vs) : ∃ u v w, vs = [u, v, w] ∧ Rep M m H x u ∧ Rep M m H y v ∧ Rep M m H z w := by
  cases h with
  | cons r t => obtain ⟨v, w, rfl, r2, r3⟩ := t.two; exact ⟨_, _, _, rfl, r, r2, r3⟩
theorem s_iRngD (g : Gd M X) (hg : Gl X "range") (ha : PA X [a, b, d] (tEs M c W (.cons a' (.cons b' (.cons (.neg (.con (.int 1))) .nil))))) (hs : isStar a = false) (hs2 : isStar b = false) (hs3 : isStar d = false) : PI X tg (.Call (.Name "range" p) [a, b, d] [] pos) (tI M c W (.rngD a' b')) :=
  PI.imp (pi_range3 hg (mem_blt g (by decide +kernel)) ha (starEach_cons hs) (any_star (by simp [hs2, hs3]))) fun σ H R ⟨ρ, S, m, re, rs, p⟩ => by
    have hp : (It.rngD a' b').den c ρ S = ((Es.cons a' (.cons b' (.cons (.neg (.con (.int 1))) .nil))).den c ρ S).bind fun ys S2 => match ys with | [.int i, .int j, .int k] => if k = -1 then if small i ∧ small j ∧ (i - j).toNat ≤ lim then .ok (.fix (rangeP i (-1) (i - j).toNat)) S2 else .out else .out | _ => .out := by
      simp only [It.den, Es.den, E.den]
      cases a'.den c ρ S <;> simp
      rename_i v S1
      cases b'.den c ρ S1 <;> simp
      rename_i w S2
      cases v <;> cases w <;> simp
    rw [hp] at p
    refine ⟨ρ, S, m, re, rs, p.bind fun vs S1 m1 H1 us e1 x1 rs1 r1 p1 => ?_⟩
    split at p1
    · rename_i i j k
      split at p1
      · rename_i hk
        subst hk
        split at p1
        · rename_i hj
          obtain ⟨u, v, w, rfl, r, r', r''⟩ := r1.three
          cases r
          cases r'
          cases r''
          exact ⟨i, j, -1, (i - j).toNat, rfl, RgC.neg (small62 hj.1).1 (small62 hj.1).2 (small62 hj.2.1).1 (small62 hj.2.1).2, p1.ok0 rs1 (src_rngC hj.2.2)⟩
        · exact False.elim p1
      · exact False.elim p1
    · exact False.elim p1
end
end Pz
end
section
set_option Elab.async false
set_option linter.all false
set_option maxRecDepth 100000
/-! Pz: comprehensions. -/
namespace Pz
open PySem PySem.Spec PyProof.Rows L2
/-! ### lists of values the same -/
mutual
theorem same_eq : ∀ {a b : PV}, PV.same a b = true → a = b := fun {a b} h => by
  cases a <;> cases b <;> simp [PV.same] at h <;> first
    | rfl
    | (subst h; rfl)
    | (rw [sameL_eq h])
    | (obtain ⟨h1, h2, h3⟩ := h; rw [h1, sameL_eq h2, sameL_eq h3])
    | (obtain ⟨h1, h2⟩ := h; rw [h1, same_eq h2])
theorem sameL_eq : ∀ {a b : List PV}, PV.same.sameL a b = true → a = b := fun {a b} h => by
  cases a <;> cases b <;> simp [PV.same.sameL] at h <;> first
    | rfl
    | (obtain ⟨h1, h2⟩ := h; rw [same_eq h1, sameL_eq h2])
end
theorem sameF_eq : ∀ {a b : List (Str × PV)}, sameF a b = true → a = b
  | [], [], _ => rfl
  | [], _ :: _, h => by cases h
  | _ :: _, [], h => by cases h
  | (f, x) :: a, (g, y) :: b, h => by
    simp only [sameF, Bool.and_eq_true, decide_eq_true_eq] at h
    obtain ⟨⟨h1, h2⟩, h3⟩ := h
    rw [h1, same_eq h2, sameF_eq h3]
theorem sameO_eq {a b : PO} (h : PO.same a b = true) : a = b := by
  cases a <;> cases b <;> simp [PO.same] at h
  · rw [sameL_eq h]
  · obtain ⟨h1, h2, h3⟩ := h; rw [h1, sameL_eq h2, sameL_eq h3]
  · obtain ⟨h1, h2⟩ := h; rw [h1, sameF_eq h2]
theorem sameS_eq : ∀ {a b : Store}, sameS a b = true → a = b
  | [], [], _ => rfl
  | [], _ :: _, h => by cases h
  | _ :: _, [], h => by cases h
  | x :: a, y :: b, h => by
    simp only [sameS, Bool.and_eq_true] at h
    rw [sameO_eq h.1, sameS_eq h.2]
theorem chk_items {s : Src} {xs : List PV} {S1 S : Store} (h : srcItems S1 s = some xs) (k : srcChk s xs S = true) : srcItems S s = some xs := by
  cases s with
  | fix ys => exact h
  | cel n =>
    simp only [srcChk] at k
    simp only [srcItems]
    split at k
    · rename_i ys e
      rw [sameL_eq k]
    · cases k
theorem compLoop_chk {k : Store → Bool} {f : PV → Store → R (Option PV)} {xs : List PV} {S : Store} {r : List PV} {S2 : Store} (h : compLoop k f xs S = .ok r S2) : k S = true := by
  cases xs with
  | nil => unfold compLoop at h; split at h <;> first | assumption | cases h
  | cons x xs => unfold compLoop at h; split at h <;> first | assumption | cases h
theorem compLoop_cons {k : Store → Bool} {f : PV → Store → R (Option PV)} {x : PV} {xs : List PV} {S : Store} {r : List PV} {S2 : Store} (h : compLoop k f (x :: xs) S = .ok r S2) : ∃ o S1 ys, f x S = .ok o S1 ∧ compLoop k f xs S1 = .ok ys S2 ∧ r = o.toList ++ ys := by
  unfold compLoop at h
  split at h
  · split at h
    · rename_i o S1 e1
      split at h
      · rename_i ys S3 e2
        cases h
        exact ⟨o, S1, ys, e1, e2, rfl⟩
      · cases h
    · cases h
  · cases h
theorem compLoop_nil {k : Store → Bool} {f : PV → Store → R (Option PV)} {S : Store} {r : List PV} {S2 : Store} (h : compLoop k f [] S = .ok r S2) : r = [] ∧ S2 = S := by
  unfold compLoop at h
  split at h <;> cases h
  exact ⟨rfl, rfl⟩
theorem compLoop_exc {k : Store → Bool} {f : PV → Store → R (Option PV)} {xs : List PV} {S : Store} {c v S2} : compLoop k f xs S ≠ .exc c v S2 := by
  intro h
  cases xs with
  | nil => unfold compLoop at h; split at h <;> cases h
  | cons x xs =>
    unfold compLoop at h
    split at h
    · split at h
      · split at h <;> cases h
      · cases h
    · cases h

/-! ### a heap without one address -/
def del (H : Hp) (D : Addr) : Hp := fun a => if a = D then none else H a
theorem del_same {H : Hp} {D : Addr} : del H D D = none := if_pos rfl
theorem del_ne {H : Hp} {D a : Addr} (h : a ≠ D) : del H D a = H a := if_neg h
theorem del_upd {H : Hp} {D : Addr} {o : HO} : del (L2.upd H D o) D = del H D := by
  funext a
  by_cases h : a = D
  · subst h; rw [del_same, del_same]
  · rw [del_ne h, del_ne h, upd_ne h]
theorem upd_del {H : Hp} {D : Addr} {o : HO} (h : H D = some o) : L2.upd (del H D) D o = H := by
  funext a
  by_cases e : a = D
  · subst e; rw [upd_same, h]
  · rw [upd_ne e, del_ne e]
theorem del_none {H : Hp} {D : Addr} (h : H D = none) : del H D = H := by
  funext a
  by_cases e : a = D
  · subst e; rw [del_same, h]
  · rw [del_ne e]
section
variable {M : Md} {m m' m1 m2 : Mp} {H H' H1 H2 : Hp} {S : Store} {D : Addr}
theorem Kp.del : Kp (m.hide D) m H (Pz.del H D) := ⟨fun a o h n => by
  have ne : a ≠ D := fun z => n.2 (by rw [z]; exact List.mem_cons_self)
  exact ⟨by rw [del_ne ne]; exact h, n.1, fun z => n.2 (List.mem_cons_of_mem _ z)⟩, fun _ _ h => h⟩
theorem Kp.undel (e : Kp m m' H (Pz.del H' D)) (h : H D = none) : Kp m (m'.hide D) H H' := ⟨fun a o q n => by
  have ne : a ≠ D := ne_of_none q h
  obtain ⟨h1, h2⟩ := e.keep a o q n
  rw [del_ne ne] at h1
  exact ⟨h1, h2.1, by simp only [Mp.hide, List.mem_cons, not_or]; exact ⟨ne, h2.2⟩⟩, e.at_⟩
theorem RepS.del (r : RepS M (m.hide D) H S) (n : D ∉ m.h) : RepS M m (Pz.del H D) S := by
  have hc : D ∉ m.c := (r.hid D List.mem_cons_self).1
  refine ⟨r.nd, r.len, fun a ha => ?_, fun n a o h1 h2 => ?_⟩
  · obtain ⟨h1, o, h2⟩ := r.hid a (List.mem_cons_of_mem _ ha)
    exact ⟨h1, o, by rw [del_ne (fun z => n (by rw [← z]; exact ha))]; exact h2⟩
  · have ro := r.ob n a o h1 h2
    have ne : a ≠ D := fun z => hc (z ▸ List.mem_of_getElem? h1)
    have k : Pz.del H D a = H a := del_ne ne
    cases o with
    | lst xs => obtain ⟨vs, g, l, q⟩ := ro; exact ⟨vs, by rw [k]; exact g, l, q.kp Kp.del⟩
    | dct t ks vs => cases t with
      | false => obtain ⟨kvs, g, l, e, q⟩ := ro; exact ⟨kvs, by rw [k]; exact g, l, e, q.kp Kp.del⟩
      | true => obtain ⟨kvs, g, l, e, q⟩ := ro; exact ⟨kvs, by rw [k]; exact g, l, e, q.kp Kp.del⟩
    | ins c fs => obtain ⟨C, dx, fvs, g0, g, z, e, q⟩ := ro; exact ⟨C, dx, fvs, g0, by rw [k]; exact g, z, e, q.kp Kp.del⟩
theorem Ext.delE (e : Ext (m.hide D) (m'.hide D) H H') (n : D ∉ m'.c) : Ext m m' (Pz.del H D) (Pz.del H' D) := by
  refine ⟨?_, (List.cons.inj e.hid).2, fun a o h k => ?_, fun a ha => ?_⟩
  · obtain ⟨ms, e1, hm⟩ := e.pre
    refine ⟨ms, e1, fun a ha => ?_⟩
    by_cases z : a = D
    · rw [z, del_same]
    · rw [del_ne z]; exact hm a ha
  · have ne : a ≠ D := fun z => by rw [z, del_same] at h; cases h
    rw [del_ne ne] at h ⊢
    exact e.keep a o h k
  · obtain ⟨o, h⟩ := e.there a ha
    exact ⟨o, by rw [del_ne (fun z => n (by rw [← z]; exact ha))]; exact h⟩
theorem Mp.hide_eq {m : Mp} {h : List Addr} (e : m.h = D :: h) : m = ({ c := m.c, h := h } : Mp).hide D := by
  cases m; cases e; rfl
end

/-! ### wipes -/
theorem wipe_get {σ : St'} {i : Nat} : ∀ {vs : List Nat}, (L2.wipe σ vs)[i]? = if i ∈ vs then (if i < σ.length then some none else none) else σ[i]?
  | [] => by simp [L2.wipe]
  | v :: vs => by
    unfold L2.wipe
    by_cases h : i = v
    · subst h
      simp only [List.mem_cons, true_or, if_true]
      by_cases l : i < σ.length
      · rw [List.getElem?_set_self (by rw [wipe_length]; exact l), if_pos l]
      · rw [List.getElem?_eq_none (by rw [List.length_set, wipe_length]; omega), if_neg l]
    · rw [List.getElem?_set_ne (Ne.symm h), wipe_get]
      simp [h]
theorem wipe_congr {σ σ2 : St'} {vs ns : List Nat} (hl : σ2.length = σ.length) (hn : ∀ i ∈ ns, i ∈ vs) (h : ∀ i, i ∉ ns → σ2[i]? = (L2.wipe σ vs)[i]?) : L2.wipe σ2 vs = L2.wipe σ vs := by
  refine List.ext_getElem? fun i => ?_
  rw [wipe_get]
  by_cases hi : i ∈ vs
  · rw [if_pos hi, wipe_get, if_pos hi, hl]
  · rw [if_neg hi, h i fun z => hi (hn i z)]

/-! ### [e for t in it if cond] -/
abbrev WF : WX := fun _ _ _ _ => False
def tTo (M : Md) (c : Cfg) (W : WX) (e : Eo) : TT := fun σ H Q => ∃ ρ S m, RepE M m H ρ σ ∧ RepS M m H S ∧ Post M RepB (e.denB c ρ S) m H σ W Q
section
variable {M : Md} {m m' m1 m2 : Mp} {H H' H1 H2 : Hp} {S : Store} {X : Cx} {c : Cfg} {W : WX} {elt tg iter : Expr} {ifs : List Expr} {e' : E} {t' : Tg} {i' : It} {o' : Eo} {pos : Pos} {scope : Scope} {own : List (Str × Nat)}
theorem Gd.blk (g : Gd M X) {s : Shared} {scope : Scope} {cenv : PySem.Env} {fp : List Addr} : Gd M (X.blk s H scope cenv fp) := ⟨g.blt, g.K, g.mg, g.nd, g.un⟩
theorem Gc.blk (g : Gc M X) {s : Shared} {scope : Scope} {cenv : PySem.Env} {fp : List Addr} : Gc M (X.blk s H scope cenv fp) := ⟨g.toGd.blk, g.calm⟩
theorem pts_no : PTs X [] (tTo M c W .none) := ⟨fun pins s σ H Q I h => (pts_nil (X := X)).run pins s σ H Q I (by
  obtain ⟨ρ, S, m, re, rs, p⟩ := h
  simp only [Eo.denB] at p
  exact p.ok0 rs rfl)⟩
theorem pts_yes {a : Expr} {a' : E} (h : PT X a (tT M c W a')) : PTs X [a] (tTo M c W (.some a')) := ⟨fun pins s σ H Q I q => (pts_one h).run pins s σ H Q I (by
  obtain ⟨ρ, S, m, re, rs, p⟩ := q
  simp only [Eo.denB] at p
  exact ⟨ρ, S, m, re, rs, p⟩)⟩
theorem comp_lc {σ : St'} {Q : VK} (hown : ∀ i ∈ t'.names, i ∈ own.map (·.2)) : tF M c W (.comp e' t' i' o' (own.map (·.2))) σ H Q → tLc (tI M c W i') (tG M c WF t') (tTo M c WF o') (tE M c WF e') (own.map (·.2)) σ H Q := fun ⟨ρ, S, m, re, rs, p⟩ => by
    simp only [F.den] at p
    refine ⟨ρ, S, m, re, rs, p.bind fun s S1 m1 H1 J e1 x1 rs1 src p1 => ?_⟩
    intro D hD
    split at p1
    · rename_i xs ex
      have re1 := re.mono x1
      have hlim := (src m1 H1 S1 xs Kp.refl rs1 ex).1
      have hDh : D ∉ m1.h := fun z => by
        obtain ⟨_, o, e⟩ := rs1.hid D z
        rw [hD] at e; cases e
      generalize hbody : (fun (x : PV) (S' : Store) => (t'.den c x (wipe ρ (own.map (·.2))) S').bind fun ρ' S2 => (o'.denB c ρ' S2).bind fun t S3 => if t = true then (e'.den c ρ' S3).bind fun y S4 => R.ok (some y) S4 else .ok none S3) = body at p1
      cases er : compLoop (srcChk s xs) body xs S1 with
      | exc c v S2 => exact absurd er compLoop_exc
      | out => rw [er] at p1; exact False.elim p1
      | ok ys S2 =>
        rw [er] at p1
        let Inv : Nat → Hp → Prop := fun i Hc => ∃ (mm : Mp) (Sc : Store) (acc : List V) (pre suf : List PV), Ext m1 mm H1 (del Hc D) ∧ RepS M (mm.hide D) Hc Sc ∧ Hc D = some (.lst acc) ∧ RepL M (mm.hide D) Hc pre acc ∧ acc.length ≤ i ∧
          compLoop (srcChk s xs) body (xs.drop i) Sc = .ok suf S2 ∧ pre ++ suf = ys
        refine ⟨fun i k Hc => k = xs.length - i ∧ i ≤ xs.length ∧ Inv i Hc, ⟨xs.length, rfl, Nat.zero_le _, m1, S1, [], [], ys, ?_, rs1.hide hD, upd_same, .nil, Nat.le_refl _, by rw [List.drop_zero]; exact er, rfl⟩, ?_⟩
        · rw [del_upd, del_none hD]; exact rs1.refl
        rintro i k Hc ⟨rfl, hi, mm, Sc, acc, pre, suf, ext, rsc, hDc, rl, hlen, ec, ep⟩
        have hmh : mm.h = m1.h := ext.hid
        have items := chk_items ex (compLoop_chk ec)
        have kp : Kp m1 (mm.hide D) H1 Hc := ext.kp.undel hD
        obtain ⟨_, hsrc⟩ := src (mm.hide D) Hc Sc xs kp rsc items
        by_cases hlt : i < xs.length
        · right
          have hx : xs[i]? = some xs[i] := List.getElem?_eq_getElem hlt
          obtain ⟨go, yld⟩ := (hsrc i).1 _ hx
          rw [List.drop_eq_getElem_cons hlt] at ec
          obtain ⟨o, S3, ys', ef, ec', es⟩ := compLoop_cons ec
          refine ⟨go, fun H' => Inv (i + 1) H', fun H' h => ⟨xs.length - (i + 1), by omega, rfl, hlt, h⟩, fun v H' hy => ?_⟩
          obtain ⟨extY, rsY, rv⟩ := yld v H' hy
          rw [← hbody] at ef
          obtain ⟨ρ', Sa, eg, ef⟩ := R.bind_ok_iff ef
          obtain ⟨t, Sb, et, ef⟩ := R.bind_ok_iff ef
          have reW : RepE M (mm.hide D) H' (wipe ρ (own.map (·.2))) (L2.wipe σ (own.map (·.2))) := by
            refine RepE.mono (RepE.wipe ?_ _) extY
            exact ⟨re1.len, fun j x q => let ⟨v, a, b⟩ := re1.at_ j x q; ⟨v, a, b.kp kp⟩⟩
          refine ⟨xs[i], wipe ρ (own.map (·.2)), Sc, mm.hide D, rv, reW, rsY, ?_⟩
          rw [eg]
          intro m2 H2 σ2 ext2 rs2 ⟨re2, hl2, fr2⟩
          refine ⟨wipe_congr (by rw [hl2, wipe_length]) hown fr2, ρ', Sa, m2, re2, rs2, ?_⟩
          rw [et]
          intro m3 H3 b ext3 rs3 hb
          have hb' : t = b := hb
          subst hb'
          have extA : Ext (mm.hide D) m3 Hc H3 := extY.trans (ext2.trans ext3)
          -- the turn's end
          have fin : ∀ (m4 : Mp) (H4 : Hp) (S4 : Store), Ext (mm.hide D) m4 Hc H4 → RepS M m4 H4 S4 → H4 D = some (.lst acc) ∧ ∃ mm' : Mp, m4 = mm'.hide D ∧ Ext m1 mm' H1 (del H4 D) := fun m4 H4 S4 ext4 rs4 => by
            have e4 : m4 = ({ c := m4.c, h := mm.h } : Mp).hide D := Mp.hide_eq ext4.hid
            have hc : D ∉ m4.c := (rs4.hid D (by rw [ext4.hid]; exact List.mem_cons_self)).1
            refine ⟨ext4.keep D _ hDc (rsc.hid D List.mem_cons_self).1, _, e4, ext.trans (Ext.delE (by rw [← e4]; exact ext4) hc)⟩
          cases t with
          | false =>
            simp only [Bool.false_eq_true, if_false] at ef ⊢
            cases ef
            obtain ⟨h4, mm', e4, ext4⟩ := fin m3 H3 _ extA rs3
            subst e4
            exact ⟨mm', _, acc, pre, ys', ext4, rs3, h4, rl.mono extA, Nat.le_succ_of_le hlen, ec', by rw [← ep, es]; rfl⟩
          | true =>
            simp only [if_true] at ef ⊢
            obtain ⟨y, Sd, ey, ef⟩ := R.bind_ok_iff ef
            cases ef
            refine ⟨ρ', Sb, m3, re2.mono ext3, rs3, ?_⟩
            rw [ey]
            intro m4 H4 w ext4 rs4 rw4
            have extB := extA.trans ext4
            obtain ⟨h4, mm', e4, ext5⟩ := fin m4 H4 _ extB rs4
            subst e4
            have hDm : D ∈ (mm'.hide D).h := List.mem_cons_self
            refine ⟨acc, h4, by rw [sizeLine_eq]; exact Nat.lt_of_le_of_lt hlen (Nat.lt_of_lt_of_le hlt hlim), mm', _, acc ++ [w], pre ++ [y], ys', ?_, rs4.grow hDm, upd_same, ((rl.mono extB).append (.cons rw4 .nil)).grow hDm, by rw [List.length_append]; exact Nat.succ_le_succ hlen, ec', by rw [← ep, es]; simp⟩
            rw [del_upd]; exact ext5
        · left
          have hi2 : i = xs.length := by omega
          subst hi2
          refine ⟨(hsrc _).2 rfl, ?_⟩
          rw [List.drop_length] at ec
          obtain ⟨rfl, rfl⟩ := compLoop_nil ec
          rw [List.append_nil] at ep
          subst ep
          have := p1 mm (del Hc D) acc ext (rsc.del (by rw [hmh]; exact hDh)) (rl.kp Kp.del) (Nat.le_trans hlen hlim) D del_same
          rw [upd_del hDc] at this
          exact this
    · exact False.elim p1
theorem s_comp (g : Gc M X) (hi : PI X tg iter (tI M c W i')) (ok : BlkOk X.N X.env.scope scope own) (hown : ∀ i ∈ t'.names, i ∈ own.map (·.2))
    (hg : ∀ (s : Shared) (H : Hp) (C : Addr) (cl : List (Str × Addr)) (fp : List Addr), PG (X.blk s H scope (compEnvC scope cl C X.env) fp) tg (tG M c WF t'))
    (ht : ∀ (s : Shared) (H : Hp) (C : Addr) (cl : List (Str × Addr)) (fp : List Addr), PTs (X.blk s H scope (compEnvC scope cl C X.env) fp) ifs (tTo M c WF o'))
    (he : ∀ (s : Shared) (H : Hp) (C : Addr) (cl : List (Str × Addr)) (fp : List Addr), PE (X.blk s H scope (compEnvC scope cl C X.env) fp) elt (tE M c WF e'))
    (hs : ∀ x, foldedSetIterable iter X.env x = pure x) :
    PE X (.ListComp elt [⟨tg, iter, ifs, 0⟩] scope pos) (tF M c W (.comp e' t' i' o' (own.map (·.2)))) := PE.imp (pe_lc g.calm g.nd hi ok hg ht he hs) fun σ H Q => comp_lc hown
end
end Pz
end
section
set_option Elab.async false
set_option linter.all false
set_option maxRecDepth 100000
/-! Pz: dicts are written; dict comprehensions, displays; lists of what is walked. -/
namespace Pz
open PySem PySem.Spec PyProof.Rows L2
section
variable {M : Md} {m m' m1 m2 : Mp} {H H' H1 H2 : Hp} {S : Store}
theorem any_dec {α : Type} {p q : α → Prop} [DecidablePred p] [DecidablePred q] {l : List α} (h : ∀ x, p x ↔ q x) : (l.any fun x => decide (p x)) = l.any fun x => decide (q x) := by
  congr 1
  funext x
  exact decide_eq_decide.mpr (h x)
theorem RepL.putMap {κ : Type} [DecidableEq κ] {k : κ} {f : κ → PV} {g : PV → Option DKey} {d : DKey} (hg : ∀ q, g (f q) = some d ↔ q = k) {y : PV} {v : V} (ry : Rep M m H y v) : ∀ {kvs : List (κ × V)} {vs : List PV}, RepL M m H vs (kvs.map (·.2)) →
    RepL M m H ((kvs.map fun p => f p.1).zipWith (fun x w => if g x = some d then y else w) vs) ((kvs.map fun kv => if kv.1 = k then (kv.1, v) else kv).map (·.2))
  | [], _, r => by cases r; exact .nil
  | p :: kvs, _, r => by
    cases r with
    | cons r t =>
      simp only [List.map_cons, List.zipWith_cons_cons]
      refine .cons ?_ (RepL.putMap hg ry t)
      by_cases e : p.1 = k
      · rw [if_pos ((hg p.1).mpr e), if_pos e]; exact ry
      · rw [if_neg fun z => e ((hg p.1).mp z), if_neg e]; exact r
theorem map_if_fst {κ : Type} [DecidableEq κ] {k : κ} {v : V} {f : κ → PV} (kvs : List (κ × V)) : ((kvs.map fun kv => if kv.1 = k then (kv.1, v) else kv).map fun p => f p.1) = kvs.map fun p => f p.1 := by
  rw [List.map_map]
  apply List.map_congr_left
  intro p _
  simp only [Function.comp]
  split <;> rfl
/-- an entry put on both sides -/
theorem put_rel {κ : Type} [DecidableEq κ] {k : κ} {f : κ → PV} {t : Bool} {d : DKey} (hg : ∀ q, keyOf t (f q) = some d ↔ q = k) {x y : PV} {v : V} (hx : x = f k) (ry : Rep M m H y v) {kvs : List (κ × V)} {vs : List PV} (r : RepL M m H vs (kvs.map (·.2))) :
    (Pz.putK t x d y (kvs.map fun p => f p.1) vs).1 = (L2.putK kvs k v).map (fun p => f p.1) ∧ RepL M m H (Pz.putK t x d y (kvs.map fun p => f p.1) vs).2 ((L2.putK kvs k v).map (·.2)) := by
  have e : ((kvs.map fun p => f p.1).any fun z => decide (keyOf t z = some d)) = kvs.any fun kv => decide (kv.1 = k) := by
    rw [List.any_map]
    exact any_dec fun p => hg p.1
  unfold Pz.putK L2.putK
  rw [e]
  split
  · exact ⟨(map_if_fst kvs).symm, RepL.putMap hg ry r⟩
  · simp only [List.map_append, List.map_cons, List.map_nil, hx]
    exact ⟨trivial, r.append (.cons ry .nil)⟩
theorem keyF {d : DKey} {x : PV} (h : keyOf false x = some d) : ∃ k, d = .inl k ∧ x = keyPV k ∧ ∀ q, keyOf false (keyPV q) = some d ↔ q = k := by
  simp only [keyOf, Option.map_eq_some_iff] at h
  obtain ⟨k, h1, rfl⟩ := h
  refine ⟨k, rfl, keyPV_of h1, fun q => ?_⟩
  simp only [keyOf, keyK_keyPV, Option.map_some, Option.some.injEq, Sum.inl.injEq]
theorem keyT {d : DKey} {x : PV} (h : keyOf true x = some d) : ∃ k, d = .inr k ∧ x = .ktup (k.map keyPV) ∧ ∀ q : List Key, keyOf true (.ktup (q.map keyPV)) = some d ↔ q = k := by
  unfold keyOf at h
  cases x with
  | ktup xs =>
    simp only [Option.map_eq_some_iff] at h
    obtain ⟨k, h1, rfl⟩ := h
    refine ⟨k, rfl, by rw [keysK_of h1], fun q => ?_⟩
    simp only [keyOf, keysK_map, Option.map_some, Option.some.injEq, Sum.inr.injEq]
  | _ => simp at h
theorem rep_key {k : Key} {u : V} (r : Rep M m H (keyPV k) u) : u = kV k := by
  cases k with
  | inl i => cases r; rfl
  | inr x => cases r; rfl
theorem repL_keys : ∀ {ks : List Key} {us : List V}, RepL M m H (ks.map keyPV) us → us = ks.map kV
  | [], _, r => by cases r; rfl
  | k :: ks, _, r => by
    cases r with
    | cons r t => rw [rep_key r, repL_keys t]; rfl
/-- what a dict holds -/
def DctAt (M : Md) (m : Mp) (H : Hp) (t : Bool) (ks vs : List PV) : HO → Prop := fun o => match t with
  | false => ∃ kvs : List (Key × V), o = .dK kvs ∧ ks = kvs.map (fun p => keyPV p.1) ∧ RepL M m H vs (kvs.map (·.2))
  | true => ∃ kvs : List (List Key × V), o = .dT kvs ∧ ks = kvs.map (fun p => .ktup (p.1.map keyPV)) ∧ RepL M m H vs (kvs.map (·.2))
theorem DctAt.kp {t : Bool} {ks vs : List PV} {o : HO} (h : DctAt M m H t ks vs o) (e : Kp m m' H H') : DctAt M m' H' t ks vs o := by
  cases t with
  | false => obtain ⟨kvs, h1, h2, h3⟩ := h; exact ⟨kvs, h1, h2, h3.kp e⟩
  | true => obtain ⟨kvs, h1, h2, h3⟩ := h; exact ⟨kvs, h1, h2, h3.kp e⟩
theorem DctAt.repO {t : Bool} {ks vs : List PV} {o : HO} (h : DctAt M m H t ks vs o) {a : Addr} (ha : H a = some o) (hl : ks.length ≤ lim) : RepO M m H a (.dct t ks vs) := by
  cases t with
  | false => obtain ⟨kvs, rfl, rfl, h3⟩ := h; exact ⟨kvs, ha, by simpa using hl, rfl, h3⟩
  | true => obtain ⟨kvs, rfl, rfl, h3⟩ := h; exact ⟨kvs, ha, by simpa using hl, rfl, h3⟩
theorem RepO.dctAt {t : Bool} {ks vs : List PV} {a : Addr} (h : RepO M m H a (.dct t ks vs)) : ∃ o, H a = some o ∧ ks.length ≤ lim ∧ DctAt M m H t ks vs o := by
  cases t with
  | false => obtain ⟨kvs, h1, h2, h3, h4⟩ := h; exact ⟨_, h1, by rw [h3]; simpa using h2, kvs, rfl, h3, h4⟩
  | true => obtain ⟨kvs, h1, h2, h3, h4⟩ := h; exact ⟨_, h1, by rw [h3]; simpa using h2, kvs, rfl, h3, h4⟩
theorem DctAt.rep {t : Bool} {ks vs : List PV} {o : HO} (h : DctAt M m H t ks vs o) {a : Addr} (ha : H a = some o) (hn : m.out a) (hl : ks.length ≤ lim) : Rep M m H (.dct t ks vs) (.ref a) := by
  cases t with
  | false => obtain ⟨kvs, rfl, rfl, h3⟩ := h; exact .dK ha hn (by simpa using hl) h3
  | true => obtain ⟨kvs, rfl, rfl, h3⟩ := h; exact .dT ha hn (by simpa using hl) h3
/-- the heap behind D[x] = y -/
theorem DctAt.put {t : Bool} {ks vs : List PV} {o : HO} (h : DctAt M m H t ks vs o) {D : Addr} (hD : H D = some o) (hl : ks.length < lim) {x y : PV} {u v : V} {d : DKey} (hx : keyOf t x = some d) (rx : Rep M m H x u) (ry : Rep M m H y v) :
    ∃ o', DPut H D u v (L2.upd H D o') ∧ DctAt M m H t (Pz.putK t x d y ks vs).1 (Pz.putK t x d y ks vs).2 o' := by
  cases t with
  | false =>
    obtain ⟨kvs, rfl, rfl, h3⟩ := h
    obtain ⟨k, rfl, rfl, hg⟩ := keyF hx
    obtain rfl := rep_key rx
    obtain ⟨e1, e2⟩ := put_rel (f := keyPV) hg rfl ry h3
    exact ⟨_, .inl ⟨kvs, k, hD, rfl, by rw [sizeLine_eq]; simpa using hl, rfl⟩, _, rfl, e1, e2⟩
  | true =>
    obtain ⟨kvs, rfl, rfl, h3⟩ := h
    obtain ⟨k, rfl, rfl, hg⟩ := keyT hx
    obtain ⟨e1, e2⟩ := put_rel (f := fun q : List Key => .ktup (q.map keyPV)) hg rfl ry h3
    cases rx with
    | ktup t l r =>
      have := repL_keys r
      subst this
      exact ⟨_, .inr ⟨kvs, k, _, hD, rfl, t.1, by rw [sizeLine_eq]; simpa using hl, rfl⟩, _, rfl, e1, e2⟩
theorem putK_len {t : Bool} {x y : PV} {d : DKey} {ks vs : List PV} : (Pz.putK t x d y ks vs).1.length ≤ ks.length + 1 := by
  unfold Pz.putK
  split <;> simp
end

/-! ### the rule of dict comprehensions, keys of any kind (worked after HandS.DictComp) -/
theorem d_dictSetA {X : Cx} {pins : List (Addr × Obj)} {σ : St'} {H H' : Hp} {s : Shared} {E : Value → Shared → Prop} {D : Addr} {y v : V} {u r : Value} {Q : Unit → Shared → Prop} (hu : X.A.units < cLine) (I : Inv X pins σ H s) (g : DPut H D y v H') (ry : RelV y u) (rv : RelV v r)
    (h : ∀ s', Inv X pins σ H' s' → Q () s') : wpAny (model X.prog X.w) X.A (dictSet D u r) Q E s := by
  rcases g with ⟨kvs, k, e, ey, l, eH⟩ | ⟨kvs, k, b, e, ey, eb, l, eH⟩
  · subst ey eH
    exact d_dictSet I e l ry rv h
  · subst ey eH
    cases (show u = Value.ref b from ry)
    obtain ⟨z, hd, xs, rel, dd⟩ := dt_of I.hok e
    have hz : xs.length ≤ sizeLine := by rw [← Paired.length rel]; exact z
    have hl : (L2.putK kvs k v).length ≤ sizeLine := by have := length_putK kvs k v; omega
    refine wpAny_dictSet_heap (knd := tupleKind (mixKind X.prog X.w)) (hsz := hz) (show X.A.units < cLine from hu) (key_of I.hok eb) dd (fun h' dd' hs => h _ ?_)
    obtain ⟨q, es, ep, hq, h2, h3, h4, _, h5⟩ := dd'
    refine d_write I (by rw [e]; exact True.intro) hs ⟨q, hq⟩ ⟨hl, hd, _, (rel.put k eb rv).keeps fun c ys ec => ?_, q, es, ep, hq, h2, h3, h4, h5⟩
    rw [upd_ne (ne_of ec e (fun z => nomatch z))]
    exact ec
/-- {k: v for target in iter}: D the new dict, o0 what it starts with -/
def tDcA (o0 : HO) (wi : TI) (g : TG) (tk tv : TE) (vs : List Nat) : TE := fun σ H Q => wi σ H fun J H1 => ∀ D, H1 D = none → ∃ W : Nat → Nat → Hp → Prop, (∃ m, W 0 m (upd H1 D o0)) ∧ ∀ i m H, W i m H →
  (J.stop i H ∧ Q (.ref D) H) ∨ (J.go i H ∧ ∃ Nx : Hp → Prop, (∀ H', Nx H' → ∃ m', m' < m ∧ W (i + 1) m' H') ∧ ∀ x H', J.yld i H x H' → g x (L2.wipe σ vs) H' fun σ2 H2 => L2.wipe σ2 vs = L2.wipe σ vs ∧
    tk σ2 H2 fun y H4 => tv σ2 H4 fun z H5 => ∃ H6, DPut H5 D y z H6 ∧ Nx H6)
section
variable {X : Cx}
theorem pe_dcA {o0 : HO} (new : ∀ {P : Program} {w : World} {H : Hp} (h : Heap), sysModules < h.objs.size → ObjOk P w H (h.push { cls := .type "dict", data := .dict #[] }) h.objs.size o0)
    {kx vx tg iter : Expr} {scope : Scope} {own : List (Str × Nat)} {pos : Pos} {wi : TI} {g : TG} {tk tv : TE} (hc : X.calm = true) (hu : X.A.units < cLine) (hN : X.N.Nodup) (hi : PI X tg iter wi) (ok : BlkOk X.N X.env.scope scope own)
    (hg : ∀ (s : Shared) (H : Hp) (C : Addr) (cl : List (Str × Addr)) (fp : List Addr), PG (X.blk s H scope (compEnvC scope cl C X.env) fp) tg g)
    (hk : ∀ (s : Shared) (H : Hp) (C : Addr) (cl : List (Str × Addr)) (fp : List Addr), PE (X.blk s H scope (compEnvC scope cl C X.env) fp) kx tk)
    (he : ∀ (s : Shared) (H : Hp) (C : Addr) (cl : List (Str × Addr)) (fp : List Addr), PE (X.blk s H scope (compEnvC scope cl C X.env) fp) vx tv) (hs : ∀ x, foldedSetIterable iter X.env x = pure x) :
    PE X (.DictComp kx vx [⟨tg, iter, [], 0⟩] scope pos) (tDcA o0 wi g tk tv (own.map (·.2))) := by
  refine ⟨fun pins s σ H Q I h => ?_⟩
  rw [arm_eval_DictComp]
  have hfree : ∀ y ∈ scope.names, y.2 = .free → ∃ c, X.env.cells.lookup y.1 = some c := fun y hy e => by
    rcases ok.free y hy e with k | k
    · exact I.ok.has _ (.inl k)
    · exact I.ok.has _ (.inr k)
  refine wpAny_comprehension_free (use := none) rfl hs (closure_ok hfree) ok.kind (fun y hy e => by rw [ok.uniq y hy, e])
    (thn (hi.run pins s σ H _ I h) fun xv s1 hx => thn hx fun itv s2 h2 => ?_)
  obtain ⟨it, fp, tn, J, H2, e, I2, T, st2, f2, q⟩ := h2
  subst e
  refine wpAny_newObj_type (newEnv_comp ?_)
  generalize hD : s2.heap.objs.size = D
  have hDn : H2 D = none := I2.hok.fresh (Nat.le_of_eq hD)
  obtain ⟨W, ⟨m0, w0⟩, turn⟩ := q D hDn
  generalize hs3 : ({ s2 with heap := s2.heap.push { cls := .type "dict", data := .dict #[] } } : Shared) = s3
  have I3 : Inv X pins σ (upd H2 D o0) s3 := by
    rw [← hs3]
    refine I2.laid (t' := s2.toks) (fun b o e => Heap.get?_push_of_some _ e) (Nat.le_of_eq hD) ?_
    rw [← hD]
    exact new s2.heap I2.big
  have h3 : s3.heap = s2.heap.push { cls := .type "dict", data := .dict #[] } := by rw [← hs3]
  have f3 : ∀ b ∈ fp, FpOk X pins (upd H2 D o0) b ∧ b < s3.heap.objs.size := fun b hb => by
    have hlt : b < s2.heap.objs.size := by obtain ⟨o, e, _⟩ := T.obj _ _ st2 b hb; exact Heap.lt_size e
    refine ⟨⟨?_, (f2 b hb).2⟩, by rw [h3, Heap.size_push]; exact Nat.lt_succ_of_lt hlt⟩
    rw [upd_ne (by rw [← hD]; exact Nat.ne_of_lt hlt)]
    exact (f2 b hb).1
  have st3 : tn 0 s3.heap := T.keep _ _ _ st2 fun b _ o e => by rw [h3]; exact Heap.get?_push_of_some _ e
  have I4 := block_start I3 ok hN f3
  have pg := hg s3 (upd H2 D o0) s3.heap.objs.size (cellsFrom (s3.heap.objs.size + 1) scope.names (cloFrom X.env.cells scope.names [])) fp
  have pk := hk s3 (upd H2 D o0) s3.heap.objs.size (cellsFrom (s3.heap.objs.size + 1) scope.names (cloFrom X.env.cells scope.names [])) fp
  have pe := he s3 (upd H2 D o0) s3.heap.objs.size (cellsFrom (s3.heap.objs.size + 1) scope.names (cloFrom X.env.cells scope.names [])) fp
  show codeAny _ _ (.compStart (.DictComp kx vx [⟨tg, iter, [], 0⟩] scope pos) 0 (.ref it) (.ref D) (compEnvC scope (cellsFrom (s3.heap.objs.size + 1) scope.names (cloFrom X.env.cells scope.names [])) s3.heap.objs.size X.env)) (compPost (model X.prog X.w) X.A X.xe none _ (.ref D) s3.heap.objs.size) { s3 with heap := pushCells (s3.heap.push { cls := .type "dict", data := .dict #[] }) scope.names }
  have nfp : ∀ b ∈ fp, (upd H2 D o0) b = none := fun b hb => (f3 b hb).1.1
  generalize hce : compEnvC scope (cellsFrom (s3.heap.objs.size + 1) scope.names (cloFrom X.env.cells scope.names [])) s3.heap.objs.size X.env = ce at I4 pg pk pe ⊢
  have cL : ce.locals = s3.heap.objs.size := by subst hce; rfl
  generalize hH3 : upd H2 D o0 = H3 at I3 I4 pg pk pe w0 nfp f3
  generalize hs4 : ({ s3 with heap := pushCells (s3.heap.push { cls := .type "dict", data := .dict #[] }) scope.names } : Shared) = s4 at I4 ⊢
  have st4 : tn 0 s4.heap := T.keep _ _ _ st3 fun b _ o e => by rw [← hs4]; exact pushCells_keeps _ _ _ _ (Heap.get?_push_of_some _ e)
  have stat : ∀ {σ' : St'} {H' : Hp} {s' : Shared}, Inv (X.blk s3 H3 scope ce fp) [] σ' H' s' → (∀ b ∈ fp, H' b = none) → ∀ b ∈ fp, FpOk (X.blk s3 H3 scope ce fp) [] H' b := fun {σ' H' s'} I' hn b hb =>
    ⟨hn b hb, (I'.ok.exf b hb).1, I'.ok.exfs b hb, .inl hb, fun x c e => (I'.ok.exf b hb).2 x c e, fun p hp => absurd (show p ∈ ([] : List (Addr × Obj)) ++ [] from hp) (by simp)⟩
  have loop : codeAny (model X.prog X.w) X.A (.compLoop (.DictComp kx vx [⟨tg, iter, [], 0⟩] scope pos) 0 (.ref it) (.ref D) ce) (compPost (model X.prog X.w) X.A X.xe none (EP X pins σ Q) (.ref D) s3.heap.objs.size) s4 := by
    refine compLoop_anyD (fun n s' => ∃ i H', Inv (X.blk s3 H3 scope ce fp) [] (L2.wipe σ (own.map (·.2))) H' s' ∧ tn i s'.heap ∧ (∀ b ∈ fp, H' b = none) ∧ W i n H') ?_ m0 ⟨0, H3, I4, st4, nfp, w0⟩
    rintro n s5 ⟨i, H5, I5, st5, n5, w5⟩
    rcases turn i n H5 w5 with ⟨stop, qq⟩ | ⟨go, Nx, hNx, step⟩
    · have td := T.done (X.blk s3 H3 scope ce fp) rfl rfl rfl hc i [] s5 _ H5 (fun _ _ => False) I5 (stat I5 n5) st5 stop
      refine thnF td fun r s6 ⟨hr, I6⟩ => ?_
      subst hr
      have I7 : Inv X pins σ H5 s6 := I3.call' (ch := fp) I6.os I6.base I6.hok I6.bare fun b hb => ⟨(f3 b hb).1.2.2.2.1, (f3 b hb).1.2.1, (f3 b hb).1.2.2.2.2.1, (f3 b hb).1.2.2.2.2.2⟩
      have nC : H5 s3.heap.objs.size = none := by
        have z : H5 ce.locals = none := I6.free
        rw [cL] at z
        exact z
      obtain ⟨m, hn, _⟩ := I6.loc
      have hn : s6.heap.Ns ce.locals m := hn
      rw [cL] at hn
      obtain ⟨f0, f1, f2, f3, f4, f5⟩ := I3.fpOk (Nat.le_refl _) nC
      exact ⟨m, hn, fun h'' sb => ⟨.ref D, H5, I7.turned (t' := s6.toks) (fun b o hb e => (sb.2 b hb).trans e) f0 f1 f3 f4 f5, rfl, qq⟩⟩
    · have ti := T.item (X.blk s3 H3 scope ce fp) rfl rfl rfl hc i [] s5 _ H5 (fun _ _ => False) I5 (stat I5 n5) st5 go
      refine thnF ti fun r s6 ⟨u, hr, h6⟩ => ?_
      subst hr
      refine thnF h6 fun _ s7 ⟨x, H7, I7, r7, y7, st7, n7⟩ => ?_
      have I7' := I7.pinned (stat I7 n7) (T.obj _ _ st7)
      refine thnF (pg.run _ s7 _ H7 x u _ I7' r7 (step x H7 y7)) fun _ s8 ⟨σ8, H8, I8, hw8, q8⟩ => ?_
      refine wpAny_tests_nil ?_
      have fin : ∀ {s' : Shared} {H' : Hp}, Inv (X.blk s3 H3 scope ce fp) ([] ++ pinsAt fp s7.heap) σ8 H' s' → Nx H' → ∃ m, m < n ∧ ∃ i H', Inv (X.blk s3 H3 scope ce fp) [] (L2.wipe σ (own.map (·.2))) H' s' ∧ tn i s'.heap ∧ (∀ b ∈ fp, H' b = none) ∧ W i m H' := fun {s' H'} I' nx => by
        obtain ⟨m', hm, w'⟩ := hNx H' nx
        have pin' : ∀ b ∈ fp, ∀ o, s7.heap.get? b = some o → s'.heap.get? b = some o ∧ H' b = none := fun b hb o e =>
          let z := I'.pin (b, o) (List.mem_append_right _ (List.mem_append_right _ (mem_pinsAt hb e)))
          ⟨z.1, z.2.1⟩
        have hl : (L2.wipe σ (own.map (·.2))).length = σ8.length := by rw [← hw8, wipe_length]
        refine ⟨m', hm, i + 1, H', (I'.unpinned (pins := [])).weak hl (fun j v e => ?_), T.keep _ _ _ st7 fun b hb o e => (pin' b hb o e).1, fun b hb => ?_, w'⟩
        · rw [← hw8] at e
          exact (wipe_some e).1
        · obtain ⟨o, e, _⟩ := T.obj _ _ st7 b hb
          exact (pin' b hb o e).2
      simp only [if_true]
      refine thnF (pk.run _ s8 σ8 H8 _ I8 q8) fun z s10 ⟨yk, H10, I10, r10, q10⟩ => ?_
      refine thnF (pe.run _ s10 σ8 H10 _ I10 q10) fun z2 s11 ⟨yv, H11, I11, r11, H12, g12, nx⟩ => ?_
      exact d_dictSetA (X := X.blk s3 H3 scope ce fp) hu I11 g12 r10 r11 fun s12 I12 => fin I12 nx
  exact codeAny_compStart_dict loop (T.self X.A 0 _ _ _ st4 loop)
end
end Pz
end
section
set_option Elab.async false
set_option linter.all false
set_option maxRecDepth 100000
/-! Pz: dict comprehensions, displays of dicts, list(..), enumerate, zip. -/
namespace Pz
open PySem PySem.Spec PyProof.Rows L2
section
variable {M : Md} {m m' m1 m2 : Mp} {H H' H1 H2 : Hp} {S : Store} {X : Cx} {c : Cfg} {W : WX} {kx vx tg iter a b : Expr} {k' v' a' b' : E} {t' : Tg} {i' : It} {pos p tpos : Pos} {scope : Scope} {own : List (Str × Nat)} {elts : List Expr} {kk : Nat}
theorem putAll_app {t : Bool} {q : List PV} : ∀ {ps : List PV} {o o1 : List PV × List PV}, putAll t (ps ++ q) o = some o1 → ∃ o2, putAll t ps o = some o2 ∧ putAll t q o2 = some o1
  | [], o, o1, h => ⟨o, rfl, h⟩
  | x :: ps, o, o1, h => by
    obtain ⟨ks, vs⟩ := o
    rw [List.cons_append] at h
    unfold putAll at h
    split at h
    · rename_i e; cases e
    · rename_i k v r ks' vs' e1 e2
      cases e1
      cases e2
      split at h
      · rename_i d ed
        obtain ⟨o2, h1, h2⟩ := putAll_app h
        exact ⟨o2, by simp only [putAll, ed]; exact h1, h2⟩
      · cases h
    · cases h
theorem putAll_len {t : Bool} : ∀ {ps : List PV} {o o1 : List PV × List PV}, putAll t ps o = some o1 → o1.1.length ≤ o.1.length + ps.length
  | [], o, o1, h => by cases h; exact Nat.le_refl _
  | x :: ps, o, o1, h => by
    obtain ⟨ks, vs⟩ := o
    unfold putAll at h
    split at h
    · rename_i e; cases e
    · rename_i k v r ks' vs' e1 e2
      cases e1
      cases e2
      split at h
      · rename_i d ed
        have := putAll_len h
        have h2 := putK_len (t := t) (x := k) (y := v) (d := d) (ks := ks) (vs := vs)
        simp only [List.length_cons] at this ⊢
        omega
      · cases h
    · cases h
def empt : Bool → HO
  | false => .dK []
  | true => .dT []
theorem empt_new {t : Bool} {P : Program} {w : World} {H : Hp} (h : Heap) (hb : sysModules < h.objs.size) : ObjOk P w H (h.push { cls := .type "dict", data := .dict #[] }) h.objs.size (empt t) := by
  cases t with
  | false => exact dk_empty h hb
  | true => exact dt_empty h hb
theorem empt_at {t : Bool} : DctAt M m H t [] [] (empt t) := by
  cases t with
  | false => exact ⟨[], rfl, rfl, .nil⟩
  | true => exact ⟨[], rfl, rfl, .nil⟩
theorem s_dcomp (g : Gc M X) {t : Bool} (hi : PI X tg iter (tI M c W i')) (ok : BlkOk X.N X.env.scope scope own) (hown : ∀ i ∈ t'.names, i ∈ own.map (·.2))
    (hg : ∀ (s : Shared) (H : Hp) (C : Addr) (cl : List (Str × Addr)) (fp : List Addr), PG (X.blk s H scope (compEnvC scope cl C X.env) fp) tg (tG M c WF t'))
    (hk : ∀ (s : Shared) (H : Hp) (C : Addr) (cl : List (Str × Addr)) (fp : List Addr), PE (X.blk s H scope (compEnvC scope cl C X.env) fp) kx (tE M c WF k'))
    (he : ∀ (s : Shared) (H : Hp) (C : Addr) (cl : List (Str × Addr)) (fp : List Addr), PE (X.blk s H scope (compEnvC scope cl C X.env) fp) vx (tE M c WF v'))
    (hs : ∀ x, foldedSetIterable iter X.env x = pure x) :
    PE X (.DictComp kx vx [⟨tg, iter, [], 0⟩] scope pos) (tE M c W (.dcomp t k' v' t' i' (own.map (·.2)))) :=
  PE.imp (pe_dcA (o0 := empt t) empt_new g.calm (Nat.lt_of_le_of_lt (Nat.le_add_right _ 70) g.un) g.nd hi ok hg hk he hs) fun σ H Q ⟨ρ, S, m, re, rs, p⟩ => by
    simp only [E.den] at p
    refine ⟨ρ, S, m, re, rs, p.bind fun s S1 m1 H1 J e1 x1 rs1 src p1 => ?_⟩
    intro D hD
    split at p1
    · rename_i xs ex
      have re1 := re.mono x1
      have hlim := (src m1 H1 S1 xs Kp.refl rs1 ex).1
      have hDh : D ∉ m1.h := fun z => by
        obtain ⟨_, o, e⟩ := rs1.hid D z
        rw [hD] at e; cases e
      generalize hbody : (fun (x : PV) (S' : Store) => (t'.den c x (wipe ρ (own.map (·.2))) S').bind fun ρ' S2 => (k'.den c ρ' S2).bind fun y S3 => (v'.den c ρ' S3).bind fun z S4 => R.ok (some (PV.tup [y, z])) S4) = body at p1
      cases er : compLoop (srcChk s xs) body xs S1 with
      | exc c v S2 => exact absurd er compLoop_exc
      | out => rw [er] at p1; exact False.elim p1
      | ok ys S2 =>
        rw [er] at p1
        simp only [R.bind_ok] at p1
        split at p1
        · rename_i ks0 vs0 eput
          let Inv : Nat → Hp → Prop := fun i Hc => ∃ (mm : Mp) (Sc : Store) (o : HO) (ks vs pre suf : List PV), Ext m1 mm H1 (del Hc D) ∧ RepS M (mm.hide D) Hc Sc ∧ Hc D = some o ∧ DctAt M (mm.hide D) Hc t ks vs o ∧ pre.length ≤ i ∧
            compLoop (srcChk s xs) body (xs.drop i) Sc = .ok suf S2 ∧ pre ++ suf = ys ∧ putAll t pre ([], []) = some (ks, vs)
          refine ⟨fun i k Hc => k = xs.length - i ∧ i ≤ xs.length ∧ Inv i Hc, ⟨xs.length, rfl, Nat.zero_le _, m1, S1, empt t, [], [], [], ys, ?_, rs1.hide hD, upd_same, empt_at, Nat.le_refl _, by rw [List.drop_zero]; exact er, rfl, rfl⟩, ?_⟩
          · rw [del_upd, del_none hD]; exact rs1.refl
          rintro i k Hc ⟨rfl, hi, mm, Sc, o, ks, vs, pre, suf, ext, rsc, hDc, dat, hlen, ec, ep, ek⟩
          have hmh : mm.h = m1.h := ext.hid
          have items := chk_items ex (compLoop_chk ec)
          have kp : Kp m1 (mm.hide D) H1 Hc := ext.kp.undel hD
          obtain ⟨_, hsrc⟩ := src (mm.hide D) Hc Sc xs kp rsc items
          by_cases hlt : i < xs.length
          · right
            have hx : xs[i]? = some xs[i] := List.getElem?_eq_getElem hlt
            obtain ⟨go, yld⟩ := (hsrc i).1 _ hx
            rw [List.drop_eq_getElem_cons hlt] at ec
            obtain ⟨o1, S3, ys', ef, ec', es⟩ := compLoop_cons ec
            refine ⟨go, fun H' => Inv (i + 1) H', fun H' h => ⟨xs.length - (i + 1), by omega, rfl, hlt, h⟩, fun v H' hy => ?_⟩
            obtain ⟨extY, rsY, rv⟩ := yld v H' hy
            rw [← hbody] at ef
            obtain ⟨ρ', Sa, eg, ef⟩ := R.bind_ok_iff ef
            obtain ⟨y, Sb, ey, ef⟩ := R.bind_ok_iff ef
            obtain ⟨z, Sd, ez, ef⟩ := R.bind_ok_iff ef
            cases ef
            have reW : RepE M (mm.hide D) H' (wipe ρ (own.map (·.2))) (L2.wipe σ (own.map (·.2))) := by
              refine RepE.mono (RepE.wipe ?_ _) extY
              exact ⟨re1.len, fun j x q => let ⟨v, a, b⟩ := re1.at_ j x q; ⟨v, a, b.kp kp⟩⟩
            refine ⟨xs[i], wipe ρ (own.map (·.2)), Sc, mm.hide D, rv, reW, rsY, ?_⟩
            rw [eg]
            intro m2 H2 σ2 ext2 rs2 ⟨re2, hl2, fr2⟩
            refine ⟨wipe_congr (by rw [hl2, wipe_length]) hown fr2, ρ', Sa, m2, re2, rs2, ?_⟩
            rw [ey]
            intro m3 H3 u ext3 rs3 ru
            refine ⟨ρ', Sb, m3, re2.mono ext3, rs3, ?_⟩
            rw [ez]
            intro m4 H4 w ext4 rs4 rw4
            have extB := extY.trans (ext2.trans (ext3.trans ext4))
            have e4 : m4 = ({ c := m4.c, h := mm.h } : Mp).hide D := Mp.hide_eq extB.hid
            have hc : D ∉ m4.c := (rs4.hid D (by rw [extB.hid]; exact List.mem_cons_self)).1
            have hD4 := extB.keep D _ hDc (rsc.hid D List.mem_cons_self).1
            have ext5 : Ext m1 { c := m4.c, h := mm.h } H1 (del H4 D) := ext.trans (Ext.delE (by rw [← e4]; exact extB) hc)
            generalize ({ c := m4.c, h := mm.h } : Mp) = mm' at e4 ext5
            subst e4
            -- the entry
            have hput : ∃ o2, putAll t (pre ++ [.tup [y, z]]) ([], []) = some o2 := by
              rw [← ep, es] at eput
              have e2 : pre ++ (Option.toList (some (PV.tup [y, z])) ++ ys') = (pre ++ [.tup [y, z]]) ++ ys' := by simp
              rw [e2] at eput
              obtain ⟨o2, h1, _⟩ := putAll_app eput
              exact ⟨o2, h1⟩
            obtain ⟨o2, hput⟩ := hput
            obtain ⟨o3, h3, h4⟩ := putAll_app hput
            rw [ek] at h3
            cases h3
            have hkey : ∃ d, keyOf t y = some d ∧ o2 = Pz.putK t y d z ks vs := by
              unfold putAll at h4
              split at h4
              · rename_i d ed
                exact ⟨d, ed, by cases h4; rfl⟩
              · cases h4
            obtain ⟨d, ed, rfl⟩ := hkey
            have hks : ks.length < lim := by
              have := putAll_len ek
              simp at this
              exact Nat.lt_of_le_of_lt this (Nat.lt_of_le_of_lt hlen (Nat.lt_of_lt_of_le hlt hlim))
            obtain ⟨o', g1, g2⟩ := (dat.kp extB.kp).put hD4 hks ed (ru.mono ext4) rw4
            have hDm : D ∈ (mm'.hide D).h := List.mem_cons_self
            refine ⟨_, g1, mm', _, o', _, _, pre ++ [.tup [y, z]], ys', ?_, rs4.grow hDm, upd_same, g2.kp (Kp.grow hDm), by rw [List.length_append]; exact Nat.succ_le_succ hlen, ec', by rw [← ep, es]; simp, hput⟩
            rw [del_upd]; exact ext5
          · left
            have hi2 : i = xs.length := by omega
            subst hi2
            refine ⟨(hsrc _).2 rfl, ?_⟩
            rw [List.drop_length] at ec
            obtain ⟨rfl, rfl⟩ := compLoop_nil ec
            rw [List.append_nil] at ep
            subst ep
            rw [eput] at ek
            cases ek
            have rsd := rsc.del (D := D) (by rw [hmh]; exact hDh)
            have hks : ks0.length ≤ lim := by
              have := putAll_len eput
              simp at this
              omega
            have hup : L2.upd (del Hc D) D o = Hc := upd_del hDc
            have dn : (del Hc D) D = none := del_same
            have ext6 : Ext mm mm (del Hc D) (L2.upd (del Hc D) D o) := Ext.new rsd.there dn
            refine p1 mm Hc (.ref D) (by rw [← hup]; exact ext.trans ext6) (by rw [← hup]; exact rsd.new dn) ?_
            have dat2 := (dat.kp Kp.del).kp ext6.kp
            rw [hup] at dat2
            exact dat2.rep hDc (rsd.notin dn) hks
        · exact False.elim p1
    · exact False.elim p1

/-! ### {k: v, ..}, keys texts -/
inductive PEs (M : Md) (X : Cx) (c : Cfg) (W : WX) : List Expr → Es → Prop
  | nil : PEs M X c W [] .nil
  | cons {a : Expr} {a' : E} {es : List Expr} {es' : Es} : PE X a (tE M c W a') → PEs M X c W es es' → PEs M X c W (a :: es) (.cons a' es')
def trsOf (M : Md) (c : Cfg) (W : WX) : List Str → Es → List (TE × TE)
  | k :: ks, .cons e es => (tE M c W (.con (.str k)), tE M c W e) :: trsOf M c W ks es
  | _, _ => []
theorem pps_of : ∀ {ks : List Str} {keys : List (Option Expr)} {es : List Expr} {es' : Es}, PEs M X c W es es' → keys.length = es.length → ks.length = es.length → (∀ (i : Nat) (k : Str), ks[i]? = some k → ∃ j q, keys[i]? = some (some (.Constant (.str k) j q)) ∧ k.length ≤ lim) →
    PPs X pos keys es (trsOf M c W ks es')
  | [], [], _, _, .nil, _, _, _ => pps_nil
  | k :: ks, ky :: keys, _, _, .cons h t, h1, h2, hk => by
    obtain ⟨j, q, e, l⟩ := hk 0 k rfl
    simp at e
    subst e
    exact pps_cons (s_str l) h (pps_of t (by simpa using h1) (by simpa using h2) fun i k' e => hk (i + 1) k' (by simpa using e))
  | [], _ :: _, _, _, .nil, h1, _, _ => by simp at h1
  | _ :: _, _, _, _, .nil, _, h2, _ => by simp at h2
  | [], _, _, _, .cons _ _, _, h2, _ => by simp at h2
  | _, [], _, _, .cons _ _, h1, _, _ => by simp at h1
theorem pairs_of : ∀ {ks : List Str} {es' : Es} {ρ : Env} {σ : St'} {S : Store} {m : Mp} {H : Hp} {Q : List (V × V) → Hp → Prop}, RepE M m H ρ σ → RepS M m H S → (∀ k ∈ ks, k.length ≤ lim) → ks.length = es'.len →
    Post M (RepL M) (es'.den c ρ S) m H σ W (fun vs H1 => Q (ks.map V.str |>.zip vs) H1) → tPairs (trsOf M c W ks es') σ H Q
  | [], .nil, ρ, σ, S, m, H, Q, re, rs, _, _, p => by
    simp only [Es.den] at p
    exact p.ok0 rs RepL.nil
  | k :: ks, .cons e es, ρ, σ, S, m, H, Q, re, rs, hl, hn, p => by
    simp only [Es.den] at p
    refine ⟨ρ, S, m, re, rs, ?_⟩
    simp only [E.den]
    intro m0 H0 u x0 rs0 ru
    cases ru
    refine ⟨ρ, S, m0, re.mono x0, rs0, (p.shift x0).bind fun v S1 m1 H1 w e1 x1 rs1 r1 p1 => ?_⟩
    refine pairs_of ((re.mono x0).mono x1) rs1 (fun k hk => hl k (List.mem_cons_of_mem _ hk)) (by simpa [Es.len] using hn) ?_
    cases ed : es.den c ρ S1 with
    | ok vs S2 =>
      rw [ed] at p1
      intro m2 H2 ws x2 rs2 r2
      exact p1 m2 H2 (w :: ws) x2 rs2 (.cons (r1.mono x2) r2)
    | exc x v S2 => rw [ed] at p1; exact p1
    | out => rw [ed] at p1; exact p1
  | [], .cons _ _, _, _, _, _, _, _, _, _, _, h, _ => by simp [Es.len] at h
  | _ :: _, .nil, _, _, _, _, _, _, _, _, _, h, _ => by simp [Es.len] at h
theorem putK_new {k : Key} {v : V} : ∀ {kvs : List (Key × V)}, k ∉ kvs.map (·.1) → L2.putK kvs k v = kvs ++ [(k, v)] := fun {kvs} h => by
  unfold L2.putK
  have e : (kvs.any fun kv => decide (kv.1 = k)) = false := by
    rw [List.any_eq_false]
    intro p hp
    simp only [decide_eq_true_eq]
    exact fun z => h (List.mem_map.mpr ⟨p, hp, z⟩)
  rw [e]
  rfl
theorem mergeK_nodup : ∀ {more acc : List (Key × V)}, ((acc ++ more).map (·.1)).Nodup → mergeK acc more = acc ++ more
  | [], acc, _ => by simp [mergeK]
  | p :: more, acc, h => by
    have e : mergeK acc (p :: more) = mergeK (L2.putK acc p.1 p.2) more := rfl
    have hn : p.1 ∉ acc.map (·.1) := by
      simp only [List.map_append, List.map_cons] at h
      have := (List.nodup_append.mp h).2.2
      intro z
      exact this _ z _ List.mem_cons_self rfl
    rw [e, putK_new hn, mergeK_nodup (by simpa using h)]
    simp
theorem upd_del' {D : Addr} {o : HO} : L2.upd (del H D) D o = L2.upd H D o := by
  funext a
  by_cases e : a = D
  · subst e; rw [upd_same, upd_same]
  · rw [upd_ne e, upd_ne e, del_ne e]
theorem zip_kv : ∀ {ks : List Str} {vs : List V}, ((ks.map V.str).zip vs) = (ks.zip vs).map fun p => (kV (.inr p.1), p.2)
  | [], _ => by simp
  | _ :: _, [] => by simp
  | k :: ks, v :: vs => by simp [zip_kv, kV]
theorem s_ddisp {ks : List Str} {keys : List (Option Expr)} {es : List Expr} {es' : Es} (he : PEs M X c W es es') (h1 : keys.length = es.length) (h2 : ks.length = es.length) (hn : ks.length = es'.len) (hd : ∀ (ρ : Env) S vs S1, es'.den c ρ S = .ok vs S1 → vs.length = es'.len)
    (hk : ∀ (i : Nat) (k : Str), ks[i]? = some k → ∃ j q, keys[i]? = some (some (.Constant (.str k) j q)) ∧ k.length ≤ lim) (hall : keys.all (·.isSome) = true) (h0 : keys ≠ []) (h15 : keys.length ≤ 15) (nd : ks.Nodup) :
    PE X (.Dict keys es pos) (tE M c W (.ddisp ks es')) :=
  PE.imp (pe_disp (pps_of he h1 h2 hk) hall h1 h0 h15) fun σ H Q ⟨ρ, S, m, re, rs, p⟩ => by
    simp only [E.den] at p
    intro D hD
    have hDh : D ∉ m.h := fun z => by
      obtain ⟨_, o, e⟩ := rs.hid D z
      rw [hD] at e; cases e
    refine pairs_of (re.hide hD) (rs.hide hD) (fun k hk' => ?_) hn ?_
    · obtain ⟨i, hi⟩ := List.getElem?_of_mem hk'
      exact (hk i k hi).elim fun j ⟨q, _, l⟩ => l
    · cases ed : es'.den c ρ S with
      | exc x v S2 => rw [ed] at p; exact False.elim p
      | out => rw [ed] at p; exact False.elim p
      | ok vs S1 =>
        rw [ed] at p
        intro m1 H1 us x1 rs1 r1
        have e4 : m1 = ({ c := m1.c, h := m.h } : Mp).hide D := Mp.hide_eq x1.hid
        have hc : D ∉ m1.c := (rs1.hid D (by rw [x1.hid]; exact List.mem_cons_self)).1
        have hD1 := x1.keep D _ upd_same (rs.notin hD).1
        have ext5 : Ext m { c := m1.c, h := m.h } H (del H1 D) := by
          have := Ext.delE (m := m) (m' := { c := m1.c, h := m.h }) (by rw [← e4]; exact x1) hc
          rw [del_upd, del_none hD] at this
          exact this
        generalize ({ c := m1.c, h := m.h } : Mp) = mm at e4 ext5
        subst e4
        have hmm : mm.h = m.h := ext5.hid
        have hl : us.length = ks.length := by rw [← r1.length, hd ρ S vs S1 ed, hn]
        refine ⟨hD1, (ks.zip us).map fun p => (.inr p.1, p.2), by rw [zip_kv, List.map_map]; rfl, by simp; omega, ?_⟩
        have hfst : ((ks.zip us).map fun p => ((Sum.inr p.1 : Key), p.2)).map (·.1) = ks.map Sum.inr := by
          rw [List.map_map]
          have e : (ks.zip us).map (fun p => (Sum.inr p.1 : Key)) = ((ks.zip us).map Prod.fst).map Sum.inr := by rw [List.map_map]; rfl
          rw [List.map_fst_zip (by omega)] at e
          exact e
        have hsnd : ((ks.zip us).map fun p => ((Sum.inr p.1 : Key), p.2)).map (·.2) = us := by
          rw [List.map_map]
          exact List.map_snd_zip (by omega)
        rw [mergeK_nodup (by rw [List.nil_append, hfst]; exact List.Pairwise.map (S := fun (a b : Key) => a ≠ b) Sum.inr (fun a b h z => h (Sum.inr.inj z)) nd), List.nil_append, ← upd_del']
        have rsd := rs1.del (D := D) (by rw [hmm]; exact hDh)
        have dn : (del H1 D) D = none := del_same
        have ext6 := Ext.new (o := .dK ((ks.zip us).map fun p => ((Sum.inr p.1 : Key), p.2))) rsd.there dn
        refine p mm _ (.ref D) (ext5.trans ext6) (rsd.new dn) ?_
        have hks : ks.map PV.str = ((ks.zip us).map fun p => ((Sum.inr p.1 : Key), p.2)).map fun p => keyPV p.1 := by
          have e : ((ks.zip us).map fun p => ((Sum.inr p.1 : Key), p.2)).map (fun p => keyPV p.1) = (((ks.zip us).map fun p => ((Sum.inr p.1 : Key), p.2)).map (·.1)).map keyPV := by simp only [List.map_map]; rfl
          rw [e, hfst, List.map_map]; rfl
        have hlen : ((ks.zip us).map fun p => ((Sum.inr p.1 : Key), p.2)).length ≤ lim := by
          rw [List.length_map, List.length_zip, hl, Nat.min_self, h2, ← h1]
          exact Nat.le_trans h15 (by decide)
        rw [hks]
        exact Rep.dK upd_same (rsd.notin dn) hlen (by rw [hsnd]; exact ((r1.kp Kp.del).kp ext6.kp))
/-! ### list(..), a + b as new lists -/
theorem s_lst (g : Gd M X) (hg : Gl X "list") (ha : PA X [a] (tEs M c W (.cons a' .nil))) (hs : isStar a = false) : PE X (.Call (.Name "list" p) [a] [] pos) (tF M c W (.lst a')) :=
  PE.imp (pe_callTy (call_list_of (X := X)) hg (mem_blt g (by decide +kernel)) (by decide +kernel) ha (he := starEach_cons hs) (hpl := any_star (by simp))) fun σ H Q ⟨ρ, S, m, re, rs, p⟩ => by
    have hp : (F.lst a').den c ρ S = ((Es.cons a' .nil).den c ρ S).bind fun vs S1 => match vs with | [x] => ofO (Pz.seqOf S1 x) S1 | _ => .out := by
      simp only [F.den, Es.den]
      cases a'.den c ρ S <;> simp
    rw [hp] at p
    refine ⟨ρ, S, m, re, rs, p.bind fun vs S1 m1 H1 us e1 x1 rs1 r1 p1 => ?_⟩
    split at p1
    · rename_i x
      obtain ⟨u, rfl, r⟩ := r1.one
      obtain ⟨xs, e, p2⟩ := p1.ofO
      obtain ⟨ad, ws, rfl, h1, l, h2⟩ := r.seqOf rs1 e
      refine ⟨ad, ws, rfl, by rw [g.K]; exact h1, fun q hq => p2.ok0 rs1 h2 l q hq⟩
    · exact False.elim p1
theorem s_fadd (ha : PE X a (tE M c W a')) (hb : PE X b (tE M c W b')) : PE X (.BinOp a .Add b pos) (tF M c W (.add a' b')) :=
  PE.imp (pe_op op_cat ha hb) fun σ H Q ⟨ρ, S, m, re, rs, p⟩ => by
    simp only [F.den] at p
    refine ⟨ρ, S, m, re, rs, p.bind fun x S1 m1 H1 u e1 x1 rs1 r1 p1 => ?_⟩
    refine ⟨ρ, S1, m1, re.mono x1, rs1, p1.bind fun y S2 m2 H2 w e2 x2 rs2 r2 p2 => ?_⟩
    split at p2
    · rename_i xs ys e3 e4
      split at p2
      · rename_i hl
        obtain ⟨ad, vs, rfl, h1, h2, h3⟩ := (r1.mono x2).listOf rs2 e3
        obtain ⟨bd, ws, rfl, g1, g2, g3⟩ := r2.listOf rs2 e4
        refine ⟨ad, bd, vs, ws, rfl, rfl, h1, g1, by rw [← h3.length, ← g3.length, sizeLine_eq]; exact hl, fun q hq => p2.ok0 rs2 (h3.append g3) ?_ q hq⟩
        rw [List.length_append, ← h3.length, ← g3.length]; exact hl
      · exact False.elim p2
    · exact False.elim p2
/-! ### enumerate, zip -/
def iEnumA (K : PySem.W.Frag) (ta : TA) : TI := fun σ H R => ta σ H fun vs H1 => ∃ a xs, vs = [.ref a] ∧ ((SqL K H1 a xs ∧ R (Ite K a) H1) ∨ (Rd H1 a (.tup xs) ∧ R (IteT a) H1))
theorem pi_enumA {e : Expr} {ta : TA} (hg : Gl X "enumerate") (hm : X.mg "enumerate" = none) (ha : PA X [e] ta) (hs : starEach [e] X.env = [(false, eval e X.env)]) :
    PI X (.Tuple elts kk tpos) (.Call (.Name "enumerate" p) [e] [] pos) (iEnumA X.K ta) := by
  refine ⟨fun pins s σ H R I h => ?_⟩
  refine Call_ (ld_blt I hg hm boot_enumerate (PyProof.Rows.callWith_type1 (thn (ha.run pos pins s σ H _ I h) fun us s1 ⟨vs, H1, I1, r1, q1⟩ => ?_) hs rfl))
  obtain ⟨a, xs, ex, q1⟩ := q1
  subst ex
  rw [Vals.ref1 r1]
  have fresh : ∀ b, b ∈ [s1.heap.objs.size + 1, s1.heap.objs.size] → FpOk X pins H1 b := fun b hb => by
    have e' : b = s1.heap.objs.size + 1 ∨ b = s1.heap.objs.size := by simpa using hb
    have hle : s1.heap.objs.size ≤ b := by
      rcases e' with z | z
      · rw [z]; exact Nat.le_add_right _ _
      · rw [z]; exact Nat.le_refl _
    exact I1.fpOk hle (I1.hok.fresh hle)
  rcases q1 with ⟨hq, q⟩ | ⟨hq, q⟩
  · obtain ⟨its, rv, p', hz⟩ := I1.list hq
    refine call_enumerate_list p'.isList fun h' he hit hsz hk => wpAny_pyIter_enum he ?_
    have I2 : Inv X pins σ H1 { s1 with heap := h' } := I1.kept (t' := s1.toks) hk
    exact ⟨s1.heap.objs.size + 1, [s1.heap.objs.size + 1, s1.heap.objs.size], _, _, H1, rfl, I2, turn_enum a (s1.heap.objs.size + 1) s1.heap.objs.size, ⟨⟨.none, he⟩, hit, Nat.succ_ne_self _⟩, fresh, q⟩
  · obtain ⟨its, rv, p', hz⟩ := I1.tuple (.inl hq)
    refine pz_enum_begins (begins_tuple a its.toArray) (show s1.heap.IsTuple a its.toArray from p') fun h' he hit hsz hk => wpAny_pyIter_enum he ?_
    have I2 : Inv X pins σ H1 { s1 with heap := h' } := I1.kept (t' := s1.toks) hk
    exact ⟨s1.heap.objs.size + 1, [s1.heap.objs.size + 1, s1.heap.objs.size], _, _, H1, rfl, I2, turn_enumT a (s1.heap.objs.size + 1) s1.heap.objs.size, ⟨⟨.none, he⟩, ⟨_, hit, rfl, rfl⟩, Nat.succ_ne_self _⟩, fresh, q⟩
theorem s_iEnm (g : Gd M X) (hg : Gl X "enumerate") (ha : PA X [a] (tEs M c W (.cons a' .nil))) (hs : isStar a = false) : PI X (.Tuple elts kk tpos) (.Call (.Name "enumerate" p) [a] [] pos) (tI M c W (.enm a')) :=
  PI.imp (pi_enumA hg (mem_blt g (by decide +kernel)) ha (starEach_cons hs)) fun σ H R ⟨ρ, S, m, re, rs, p⟩ => by
    have hp : (It.enm a').den c ρ S = ((Es.cons a' .nil).den c ρ S).bind fun ys S2 => match ys with | [.tup xs] => .ok (.fix (enumP 0 xs)) S2 | [.ktup xs] => .ok (.fix (enumP 0 xs)) S2 | [.lst xs] => .ok (.fix (enumP 0 xs)) S2 | _ => .out := by
      simp only [It.den, Es.den]
      cases a'.den c ρ S <;> simp
      rename_i v S1
      cases v <;> rfl
    rw [hp] at p
    refine ⟨ρ, S, m, re, rs, p.bind fun vs S1 m1 H1 us e1 x1 rs1 r1 p1 => ?_⟩
    rw [g.K]
    split at p1
    · obtain ⟨v, rfl, r⟩ := r1.one
      cases r with
      | tup t l r => exact ⟨_, _, rfl, .inr ⟨let ⟨⟨o, h1, _⟩, _⟩ := t; .inr ⟨o, h1⟩, p1.ok0 rs1 (src_enumT (fun m' H' k => let ⟨⟨o, h1, _⟩, h3⟩ := t; .inr ⟨o, (k.keep _ _ h1 h3).1⟩) l r)⟩⟩
    · obtain ⟨v, rfl, r⟩ := r1.one
      cases r with
      | ktup t l r => exact ⟨_, _, rfl, .inr ⟨.inl t.1, p1.ok0 rs1 (src_enumT (fun m' H' k => .inl (k.keep _ _ t.1 t.2).1) l r)⟩⟩
    · obtain ⟨v, rfl, r⟩ := r1.one
      cases r with
      | lst h n l r => exact ⟨_, _, rfl, .inl ⟨SqL.of h, p1.ok0 rs1 (src_enumL (fun m' H' k => SqL.of (k.keep _ _ h n).1) l r)⟩⟩
    · exact False.elim p1
theorem s_iZip (g : Gd M X) (hg : Gl X "zip") (ha : PA X [a, b] (tEs M c W (.cons a' (.cons b' .nil)))) (hs : isStar a = false) (hs2 : isStar b = false) : PI X (.Tuple elts kk tpos) (.Call (.Name "zip" p) [a, b] [] pos) (tI M c W (.zip a' b')) :=
  PI.imp (RZ.pi_zipA hg (mem_blt g (by decide +kernel)) ha (starEach_cons hs) (any_star (by simp [hs2]))) fun σ H R ⟨ρ, S, m, re, rs, p⟩ => by
    have hp : (It.zip a' b').den c ρ S = ((Es.cons a' (.cons b' .nil)).den c ρ S).bind fun ys S2 => match ys with | [.tup xs, .tup ys] => .ok (.fix (zipP xs ys)) S2 | [.lst xs, .lst ys] => .ok (.fix (zipP xs ys)) S2 | _ => .out := by
      simp only [It.den, Es.den]
      cases a'.den c ρ S <;> simp
      rename_i v S1
      cases b'.den c ρ S1 <;> simp
      rename_i w S2
      cases v <;> cases w <;> rfl
    rw [hp] at p
    refine ⟨ρ, S, m, re, rs, p.bind fun vs S1 m1 H1 us e1 x1 rs1 r1 p1 => ?_⟩
    rw [g.K]
    split at p1
    · obtain ⟨v, w, rfl, r, r'⟩ := r1.two
      cases r with
      | tup t l r =>
        cases r' with
        | tup t2 l2 r2 => exact ⟨_, _, _, _, rfl, .inr ⟨t.sq, t2.sq, p1.ok0 rs1 (src_zipT (fun m' H' k => let ⟨⟨o, h1, _⟩, h3⟩ := t; .inl (.inr ⟨o, (k.keep _ _ h1 h3).1⟩)) (fun m' H' k => let ⟨⟨o, h1, _⟩, h3⟩ := t2; .inl (.inr ⟨o, (k.keep _ _ h1 h3).1⟩)) l r r2)⟩⟩
    · obtain ⟨v, w, rfl, r, r'⟩ := r1.two
      cases r with
      | lst h n l r =>
        cases r' with
        | lst h2 n2 l2 r2 => exact ⟨_, _, _, _, rfl, .inl ⟨SqL.of h, SqL.of h2, p1.ok0 rs1 (src_zipL (fun m' H' k => SqL.of (k.keep _ _ h n).1) (fun m' H' k => SqL.of (k.keep _ _ h2 n2).1) l r r2)⟩⟩
    · exact False.elim p1
end
end Pz
end
section
set_option Elab.async false
set_option linter.all false
set_option maxRecDepth 100000
/-! Pz: targets, statements. -/
namespace Pz
open PySem PySem.Spec PyProof.Rows L2
theorem assignEach_cons {a : Expr} {es : List Expr} {env : PySem.Env} (h : isStar a = false) : assignEach (a :: es) env = (false, assign a env) :: assignEach es env := by
  cases a <;> first | rfl | cases h
theorem assignEach_plain {env : PySem.Env} : ∀ {es : List Expr}, (∀ e ∈ es, isStar e = false) → (assignEach es env).length = es.length ∧ (assignEach es env).findIdx? (·.1) = none
  | [], _ => ⟨rfl, rfl⟩
  | a :: es, h => by
    obtain ⟨h1, h2⟩ := assignEach_plain (env := env) fun e he => h e (List.mem_cons_of_mem _ he)
    rw [assignEach_cons (h a List.mem_cons_self)]
    refine ⟨by simp [h1], ?_⟩
    rw [List.findIdx?_cons, h2]; rfl
/-- the own classes' attributes are plain -/
def AttrOk (M : Md) (c : Cfg) : Prop := ∀ (cl f : Str) (C : Addr), M.mg cl = some (.ref C) → f ∈ c.attrs cl → NoAttr M.K C f
section
variable {M : Md} {m m' m1 m2 : Mp} {H H' H1 H2 : Hp} {S : Store} {X : Cx} {c : Cfg} {W : WX} {a b d tg : Expr} {a' b' d' : E} {t' : Tg} {ts' : Tgs} {pos p tpos : Pos} {es : List Expr} {kk : Nat}
theorem PG.imp' {e : Expr} {t t' : TG} (h : PG X e t) (i : ∀ v σ H Q, t' v σ H Q → t v σ H Q) : PG X e t' := PG.imp h i
/-! ### targets -/
theorem s_tnm (g : Gd M X) {i : Nat} {x : Str} (hi : X.N[i]? = some x) (hx : Loc X.env.scope x) (hf : X.fn x = true ∨ X.env.scope.names.lookup x = some .local) : PG X (.Name x pos) (tG M c W (.nm i)) :=
  PG.imp (pg_name g.nd hi hx hf) fun v σ H Q ⟨x, ρ, S, m, r, re, rs, p⟩ => by
    simp only [Tg.den] at p
    refine p.ok0 rs ⟨re.set i r, by simp, fun j hj => ?_⟩
    rw [List.getElem?_set_ne (fun z => hj (by simp [Tg.names, z]))]
theorem s_tgnil : PGs X [] (tGs M c W .nil) := PGs.imp pgs_nil fun vs σ H Q ⟨xs, ρ, S, m, r, re, rs, p⟩ => by
  simp only [Tgs.den] at p
  split at p
  · cases r; exact ⟨rfl, p.ok0 rs ⟨re, rfl, fun _ _ => rfl⟩⟩
  · exact False.elim p
theorem s_tgcons (h1 : PG X a (tG M c W t')) (h2 : PGs X es (tGs M c W ts')) (hs : isStar a = false) : PGs X (a :: es) (tGs M c W (.cons t' ts')) :=
  PGs.imp (pgs_cons h1 h2 (by rw [assignEach_cons hs]; rfl)) fun vs σ H Q ⟨xs, ρ, S, m, r, re, rs, p⟩ => by
    simp only [Tgs.den] at p
    split at p
    · cases r with
      | cons r rt =>
        refine ⟨_, _, rfl, _, ρ, S, m, r, re, rs, ?_⟩
        cases e1 : t'.den c _ ρ S with
        | exc x v S2 => rw [e1] at p; exact False.elim p
        | out => rw [e1] at p; exact False.elim p
        | ok ρ1 S1 =>
          rw [e1] at p
          intro m1 H1 σ1 x1 rs1 ⟨re1, hl, fr⟩
          have p1 := Post.shift (show Post M (RepG M (Tgs.cons t' ts').names σ) (match ts'.den c _ ρ1 S1 with | .ok ρ2 S2 => .ok ρ2 S2 | _ => .out) m H σ W Q from p) x1
          refine ⟨_, ρ1, S1, m1, rt.mono x1, re1, rs1, ?_⟩
          cases ed : ts'.den c _ ρ1 S1 with
          | ok ρ2 S2 =>
            rw [ed] at p1
            intro m2 H2 σ2 x2 rs2 ⟨re2, hl2, fr2⟩
            exact p1 m2 H2 σ2 x2 rs2 ⟨re2, hl2.trans hl, fun i hi => by
              have hi' : i ∉ t'.names ∧ i ∉ ts'.names := by simpa [Tgs.names, not_or] using hi
              rw [fr2 i hi'.2, fr i hi'.1]⟩
          | exc x v S2 => rw [ed] at p1; exact False.elim p1
          | out => rw [ed] at p1; exact False.elim p1
    · exact False.elim p
theorem s_ttup (g : Gc M X) (h : PGs X es (tGs M c W ts')) (hs : ∀ e ∈ es, isStar e = false) (hl : ∀ (xs : List PV) (ρ : Env) S ρ1 S1, ts'.den c xs ρ S = .ok ρ1 S1 → xs.length = es.length) (hx : ∀ (xs : List PV) (ρ : Env) S x v S1, ts'.den c xs ρ S = .exc x v S1 → xs.length = es.length) : PG X (.Tuple es kk pos) (tG M c W (.tup ts')) :=
  PG.imp (pg_tup (n := es.length) g.calm h (assignEach_plain hs).1 (assignEach_plain hs).2) fun v σ H Q ⟨x, ρ, S, m, r, re, rs, p⟩ => by
    simp only [Tg.den] at p
    split at p
    · rename_i xs e
      obtain ⟨ad, vs, rfl, h1, h2, h3⟩ := r.tupOf e
      have hn : vs.length = es.length := by
        rw [← h3.length]
        cases ed : ts'.den c xs ρ S with
        | ok ρ1 S1 => exact hl _ _ _ _ _ ed
        | exc x v S1 => exact hx _ _ _ _ _ _ ed
        | out => rw [ed] at p; exact False.elim p
      exact ⟨ad, vs, rfl, by rw [g.K]; exact h1, hn, xs, ρ, S, m, h3, re, rs, p⟩
    · exact False.elim p
theorem putF_rel {f : Str} {y : PV} {v : V} (r : Rep M m H y v) : ∀ {fs : List (Str × PV)} {gs : List (Str × V)}, fs.map (·.1) = gs.map (·.1) → RepL M m H (fs.map (·.2)) (gs.map (·.2)) →
    (Pz.putF f y fs).map (·.1) = (L2.putF f v gs).map (·.1) ∧ RepL M m H ((Pz.putF f y fs).map (·.2)) ((L2.putF f v gs).map (·.2))
  | [], [], _, _ => ⟨rfl, .cons r .nil⟩
  | [], _ :: _, h, _ => by simp at h
  | _ :: _, [], h, _ => by simp at h
  | (k, x) :: fs, (k2, w) :: gs, h, q => by
    simp only [List.map_cons, List.cons.injEq] at h
    obtain ⟨rfl, h⟩ := h
    cases q with
    | cons q qt =>
      unfold Pz.putF L2.putF
      by_cases e : k = f
      · rw [if_pos e, if_pos e]
        exact ⟨by simp [h], .cons r qt⟩
      · rw [if_neg e, if_neg e]
        obtain ⟨i1, i2⟩ := putF_rel r h qt
        exact ⟨by simp [i1], .cons q i2⟩
theorem putF_names {f : Str} {y : PV} : ∀ {fs : List (Str × PV)} {z : Str}, z ∈ (Pz.putF f y fs).map (·.1) → z = f ∨ z ∈ fs.map (·.1)
  | [], z, h => by simp [Pz.putF] at h; exact .inl h
  | (k, x) :: fs, z, h => by
    unfold Pz.putF at h
    split at h
    · exact .inr (by simpa using h)
    · simp only [List.map_cons, List.mem_cons] at h ⊢
      rcases h with h | h
      · exact .inr (.inl h)
      · rcases putF_names h with h | h
        · exact .inl h
        · exact .inr (.inr h)
/-- o.f = .. -/
def gFld (K : PySem.W.Frag) (to : TE) (f : Str) : TG := fun y σ H Q => to σ H fun x H2 => ∃ a C dx fs, x = .ref a ∧ H2 a = some (.ins C dx fs) ∧ Cls K C ∧ NoAttr K C f ∧ fs.length < 1000 ∧ Q σ (upd H2 a (.ins C dx (L2.putF f y fs)))
theorem pg_fld {f : Str} {to : TE} (ho : PE X a to) : PG X (.Attribute a f pos) (gFld X.K to f) := by
  refine ⟨fun pins s σ H v u Q I r h => ?_⟩
  rw [assign_Attribute]
  refine wpAny_bind (wpAny_holding (thn (ho.run pins s σ H _ I h) fun ov s1 ⟨x, H1, I1, r1, ad, C, dx, fs, ex, ea, cl, n, l, q⟩ => ?_))
  subst ex
  obtain rfl : ov = Value.ref ad := r1
  refine wpAny_bind (wpAny_standAt (wpAny_bind (wpAny_holding ?_)))
  exact setattr_ok I1 ea cl n l r fun s3 I3 => wpAny_release ⟨σ, _, I3, q⟩
theorem s_tfld (g : Gd M X) (at_ : AttrOk M c) {f : Str} (ho : PE X a (tE M c W a')) : PG X (.Attribute a f pos) (tG M c W (.fld a' f)) :=
  PG.imp (pg_fld ho) fun v σ H Q ⟨y, ρ, S, m, r, re, rs, p⟩ => by
    simp only [Tg.den] at p
    refine ⟨ρ, S, m, re, rs, p.bind fun x S1 m1 H1 u e1 x1 rs1 r1 p1 => ?_⟩
    rw [g.K]
    cases r1 with
    | @cell n ad hc =>
      obtain ⟨o, e2, ro⟩ := rs1.at hc
      simp only [e2] at p1
      cases o with
      | ins cl fs =>
        dsimp only at p1
        split at p1
        · rename_i hb
          obtain ⟨C, dx, gs, h1, h2, ⟨h3, h4⟩, h5, h6⟩ := ro
          have hN : NoAttr M.K C f := by
            rcases hb.2 with z | z
            · obtain ⟨w, z⟩ := Option.isSome_iff_exists.mp z
              exact h4 f (List.mem_map.mpr ⟨_, PySem.mem_of_lookup z, rfl⟩)
            · exact at_ cl f C h1 z
          have hlen : gs.length = fs.length := by
            have := congrArg List.length h5
            simpa using this.symm
          refine ⟨ad, C, dx, gs, rfl, h2, h3, hN, by rw [hlen]; exact hb.1, ?_⟩
          have ex : Ext m1 m1 H1 (upd H1 ad (.ins C dx (L2.putF f v gs))) := Ext.upd rs1.there hc
          obtain ⟨g1, g2⟩ := putF_rel (f := f) ((r.mono x1).mono ex) h5 (h6.mono ex)
          refine p1.ok ex (rs1.upd hc ⟨C, dx, _, h1, upd_same, ⟨h3, fun z hz => ?_⟩, g1, g2⟩) ⟨(re.mono x1).mono ex, rfl, fun _ _ => rfl⟩
          rcases putF_names hz with e | e
          · rw [e]; exact hN
          · exact h4 z e
        · exact False.elim p1
      | _ => exact False.elim p1
    | _ => exact False.elim p1
/-! ### o[i] = .. -/
def rSetA : TSet := fun o i v H Q => rSetL o i v H Q ∨ rSetD o i v H Q
theorem set_any (hu : X.A.units + 1 < cLine) : PSet X rSetA := by
  intro pins s σ H o i v ov iv u Q I ro ri rv h
  rcases h with h | h
  · exact set_list pins s σ H o i v ov iv u Q I ro ri rv h
  · exact set_dict hu pins s σ H o i v ov iv u Q I ro ri rv h
theorem s_tsub (g : Gd M X) (ho : PE X a (tE M c W a')) (hi : PE X b (tE M c W b')) (ha : ∀ v, assign (.Subscript a b pos) X.env v = (do
      let ov ← holding [v] (eval a X.env)
      let iv ← holding [v, ov] (eval b X.env)
      standAt pos
      holding [v, ov, iv] (setItem ov iv v)
      release [v, ov, iv] [])) : PG X (.Subscript a b pos) (tG M c W (.sub a' b')) :=
  PG.imp (pg_sub ho hi (set_any (by have := g.un; omega)) ha) fun v σ H Q ⟨y, ρ, S, m, r, re, rs, p⟩ => by
    simp only [Tg.den] at p
    refine ⟨ρ, S, m, re, rs, p.bind fun x S1 m1 H1 u e1 x1 rs1 r1 p1 => ?_⟩
    refine ⟨ρ, S1, m1, re.mono x1, rs1, p1.bind fun z S2 m2 H2 w e2 x2 rs2 r2 p2 => ?_⟩
    have r1' := r1.mono x2
    cases r1' with
    | @cell n ad hc =>
      obtain ⟨o, e3, ro⟩ := rs2.at hc
      simp only [e3] at p2
      have rv := (r.mono x1).mono x2
      have rew := (re.mono x1).mono x2
      cases o with
      | lst xs =>
        cases r2 with
        | int k =>
          obtain ⟨vs, h1, h2, h3⟩ := ro
          dsimp only at p2
          split at p2
          · rename_i j ej
            refine .inl ⟨ad, vs, k, j, rfl, rfl, h1, by rw [← h3.length]; exact ej, ?_⟩
            have ex : Ext m2 m2 H2 (upd H2 ad (.lst (vs.set j v))) := Ext.upd rs2.there hc
            exact p2.ok ex (rs2.upd hc ⟨_, upd_same, by simpa using h2, (h3.set j rv).mono ex⟩) ⟨rew.mono ex, rfl, fun _ _ => rfl⟩
          · exact False.elim p2
        | _ => exact False.elim p2
      | dct t ks vs =>
        dsimp only at p2
        split at p2
        · rename_i dk ed
          split at p2
          · rename_i hl
            obtain ⟨ho, h1, h2, h3⟩ := ro.dctAt
            obtain ⟨o', q1, q2⟩ := h3.put h1 hl ed r2 rv
            refine .inr ⟨ad, _, rfl, q1, ?_⟩
            have ex : Ext m2 m2 H2 (upd H2 ad o') := Ext.upd rs2.there hc
            refine p2.ok ex (rs2.upd hc ((q2.kp ex.kp).repO upd_same ?_)) ⟨rew.mono ex, rfl, fun _ _ => rfl⟩
            exact Nat.le_trans putK_len hl
          · exact False.elim p2
        · exact False.elim p2
      | _ => exact False.elim p2
    | _ => exact False.elim p2
end
end Pz
end
section
set_option Elab.async false
set_option linter.all false
set_option maxRecDepth 100000
/-! Pz: statements. -/
namespace Pz
open PySem PySem.Spec PyProof.Rows L2
section
variable {M : Md} {m m' m1 m2 : Mp} {H H' H1 H2 : Hp} {S : Store} {X : Cx} {c : Cfg} {W : WX} {a b d tg iter : Expr} {a' b' d' : E} {t' : Tg} {i' : It} {pos p tpos : Pos} {es : List Expr} {es' : Es} {body rest : List Stmt} {st : Stmt} {s' : St} {b1 b2 r' : Sts}
theorem PostS.shift {r : SR} {D : Ends} (h : PostS M r m H W D) (e : Ext m m1 H H1) : PostS M r m1 H1 W D := by
  cases r with
  | nx ρ S => exact fun m' H' σ x s q => h m' H' σ (e.trans x) s q
  | rt v ρ S => exact fun m' H' u x s q => h m' H' u (e.trans x) s q
  | bk ρ S => exact fun m' H' σ x s q => h m' H' σ (e.trans x) s q
  | ct ρ S => exact fun m' H' σ x s q => h m' H' σ (e.trans x) s q
  | exc c v ρ S => exact fun m' H' σ cls d x s q y => h m' H' σ cls d (e.trans x) s q y
  | out => exact h
theorem PostS.onR {α β : Type} {RA : Mp → Hp → α → β → Prop} {ρ : Env} {σ : St'} {r : R α} {k : α → Store → SR} {D : Ends} {Q : β → Hp → Prop} (re : RepE M m H ρ σ) (h : PostS M (Pz.onR ρ r k) m H W D)
    (q : ∀ a S1 m1 H1 b, r = .ok a S1 → Ext m m1 H H1 → RepS M m1 H1 S1 → RA m1 H1 a b → PostS M (k a S1) m1 H1 W D → Q b H1) : Post M RA r m H σ W Q := by
  cases r with
  | ok a S => exact fun m' H' b x s ra => q a S m' H' b rfl x s ra (PostS.shift (by exact h) x)
  | exc c v S => exact fun m' H' cls d x s ra => h m' H' σ cls d x s (re.mono x) ra
  | out => exact h
/-! ### small ones -/
theorem s_pass : PS X (.Pass pos) (tS M c W .pass) := PS.imp ps_pass fun D σ H ⟨ρ, S, m, re, rs, p⟩ => by simp only [St.den] at p; exact p m H σ rs.refl rs re
theorem s_brk : PS X (.Break pos) (tS M c W .brk) := PS.imp ps_break fun D σ H ⟨ρ, S, m, re, rs, p⟩ => by simp only [St.den] at p; exact p m H σ rs.refl rs re
theorem s_cnt : PS X (.Continue pos) (tS M c W .cont) := PS.imp ps_continue fun D σ H ⟨ρ, S, m, re, rs, p⟩ => by simp only [St.den] at p; exact p m H σ rs.refl rs re
theorem s_retN : PS X (.Return none pos) (tS M c W .retN) := PS.imp ps_retN fun D σ H ⟨ρ, S, m, re, rs, p⟩ => by simp only [St.den] at p; exact p m H .non rs.refl rs .non
theorem s_ret (ha : PE X a (tE M c W a')) : PS X (.Return (some a) pos) (tS M c W (.ret a')) := PS.imp (ps_ret ha) fun D σ H ⟨ρ, S, m, re, rs, p⟩ => by
  simp only [St.den] at p
  exact ⟨ρ, S, m, re, rs, p.onR re fun v S1 m1 H1 u e1 x1 rs1 r1 p1 => p1 m1 H1 u rs1.refl rs1 r1⟩
theorem s_expr (ha : PE X a (tE M c W a')) (hs : swapsWith a none pos.line X.env = pure false) : PS X (.Expr a pos) (tS M c W (.expr a')) := PS.imp (ps_expr ha hs) fun D σ H ⟨ρ, S, m, re, rs, p⟩ => by
  simp only [St.den] at p
  exact ⟨ρ, S, m, re, rs, p.onR re fun v S1 m1 H1 u e1 x1 rs1 r1 p1 => p1 m1 H1 σ rs1.refl rs1 (re.mono x1)⟩
theorem s_nilS : PSs X [] (tSs M c W .nil) := PSs.imp pss_nil fun D σ H ⟨ρ, S, m, re, rs, p⟩ => by simp only [Sts.den] at p; exact p m H σ rs.refl rs re
theorem s_consS (h1 : PS X st (tS M c W s')) (h2 : PSs X rest (tSs M c W r')) : PSs X (st :: rest) (tSs M c W (.cons s' r')) :=
  PSs.imp (pss_cons h1 h2) fun D σ H ⟨ρ, S, m, re, rs, p⟩ => by
    simp only [Sts.den] at p
    refine ⟨ρ, S, m, re, rs, ?_⟩
    cases ed : s'.den c ρ S with
    | nx ρ1 S1 =>
      rw [ed] at p
      exact fun m1 H1 σ1 x1 rs1 re1 => ⟨ρ1, S1, m1, re1, rs1, PostS.shift (by exact p) x1⟩
    | rt v ρ1 S1 => rw [ed] at p; exact p
    | bk ρ1 S1 => rw [ed] at p; exact p
    | ct ρ1 S1 => rw [ed] at p; exact p
    | exc x v ρ1 S1 => rw [ed] at p; exact p
    | out => rw [ed] at p; exact p
theorem s_if (hc : PT X a (tT M c W a')) (h1 : PSs X body (tSs M c W b1)) (h2 : PSs X rest (tSs M c W b2)) : PS X (.If a body rest pos) (tS M c W (.ite a' b1 b2)) :=
  PS.imp (ps_if hc h1 h2) fun D σ H ⟨ρ, S, m, re, rs, p⟩ => by
    simp only [St.den] at p
    refine ⟨ρ, S, m, re, rs, p.onR re fun v S1 m1 H1 u e1 x1 rs1 r1 p1 => ?_⟩
    have r1' : v = u := r1
    subst r1'
    cases v with
    | true => exact ⟨ρ, S1, m1, re.mono x1, rs1, p1⟩
    | false => exact ⟨ρ, S1, m1, re.mono x1, rs1, p1⟩
/-! ### assignments -/
theorem asg_tAsg {D : Ends} {σ : St'} : tS M c W (.asg t' a') D σ H → tAsg (tE M c W a') (tG M c W t') D σ H := fun ⟨ρ, S, m, re, rs, p⟩ => by
  simp only [St.den] at p
  refine ⟨ρ, S, m, re, rs, p.onR re fun v S1 m1 H1 u e1 x1 rs1 r1 p1 => ?_⟩
  refine ⟨v, ρ, S1, m1, r1, re.mono x1, rs1, p1.onR (re.mono x1) fun ρ1 S2 m2 H2 σ2 e2 x2 rs2 r2 p2 => ?_⟩
  exact p2 m2 H2 σ2 rs2.refl rs2 r2.1
theorem s_asg (ha : PE X a (tE M c W a')) (ht : PG X tg (tG M c W t')) (hs : swapsWith a (some tg) pos.line X.env = pure false) (hw : swappedStores [tg] a X.env = pure none) (h1 : isStar tg = false) : PS X (.Assign [tg] a pos) (tS M c W (.asg t' a')) :=
  PS.imp (ps_asg ha ht (show swapsWithSole [tg] a pos.line X.env = pure false from hs) hw (by rw [assignEach_cons h1]; rfl)) fun D σ H => asg_tAsg
/-- the parts of a list comprehension -/
structure LcP (M : Md) (X : Cx) (c : Cfg) (W : WX) (elt tg iter : Expr) (ifs : List Expr) (scope : Scope) (own : List (Str × Nat)) (e' : E) (t' : Tg) (i' : It) (o' : Eo) : Prop where
  hi : PI X tg iter (tI M c W i')
  ok : BlkOk X.N X.env.scope scope own
  hown : ∀ i ∈ t'.names, i ∈ own.map (·.2)
  hg : ∀ (s : Shared) (H : Hp) (C : Addr) (cl : List (Str × Addr)) (fp : List Addr), PG (X.blk s H scope (compEnvC scope cl C X.env) fp) tg (tG M c WF t')
  ht : ∀ (s : Shared) (H : Hp) (C : Addr) (cl : List (Str × Addr)) (fp : List Addr), PTs (X.blk s H scope (compEnvC scope cl C X.env) fp) ifs (tTo M c WF o')
  he : ∀ (s : Shared) (H : Hp) (C : Addr) (cl : List (Str × Addr)) (fp : List Addr), PE (X.blk s H scope (compEnvC scope cl C X.env) fp) elt (tE M c WF e')
  hs : ∀ x, foldedSetIterable iter X.env x = pure x
theorem asg_nm {D : Ends} {σ : St'} {i : Nat} {t : TE} (h : ∀ Q, tE M c W a' σ H Q → t σ H Q) : tS M c W (.asg (.nm i) a') D σ H → tAsg t (gName i) D σ H := fun ⟨ρ, S, m, re, rs, p⟩ => by
  simp only [St.den] at p
  refine h _ ⟨ρ, S, m, re, rs, p.onR re fun v S1 m1 H1 u e1 x1 rs1 r1 p1 => ?_⟩
  simp only [Tg.den, onR_ok] at p1
  exact p1 m1 H1 _ rs1.refl rs1 ((re.mono x1).set i r1)
theorem s_setLc (g : Gc M X) {i : Nat} {y : Str} {py : Pos} {elt : Expr} {ifs : List Expr} {scope : Scope} {own : List (Str × Nat)} {e' : E} {o' : Eo} {mk : Bool} (L : LcP M X c W elt tg iter ifs scope own e' t' i' o') (hy : X.N[i]? = some y) (hyl : X.env.scope.names.lookup y = some .local)
    (hsw : swapsWith (.ListComp elt [⟨tg, iter, ifs, 0⟩] scope pos) (some (.Name y py)) tpos.line X.env = pure true) :
    PS X (.Assign [.Name y py] (.ListComp elt [⟨tg, iter, ifs, 0⟩] scope pos) tpos) (tS M c W (.asg (.nm i) (if mk = true then .mk (.comp e' t' i' o' (own.map (·.2))) else .ro (.comp e' t' i' o' (own.map (·.2)))))) :=
  PS.imp (ps_setLc g.calm g.nd hy hyl hsw L.hi L.ok L.hg L.ht L.he L.hs) fun D σ H => asg_nm fun Q q => by
    cases mk with
    | true => exact comp_lc L.hown (mk_tF q)
    | false => exact comp_lc L.hown (ro_tF q)
theorem LcP.pe (g : Gc M X) {elt : Expr} {ifs : List Expr} {scope : Scope} {own : List (Str × Nat)} {e' : E} {o' : Eo} (L : LcP M X c W elt tg iter ifs scope own e' t' i' o') : PE X (.ListComp elt [⟨tg, iter, ifs, 0⟩] scope pos) (tF M c W (.comp e' t' i' o' (own.map (·.2)))) :=
  s_comp g L.hi L.ok L.hown L.hg L.ht L.he L.hs
theorem s_par (g : Gc M X) {i j : Nat} {x y : Str} {px py pt : Pos} {kt k2 pt2} (hi : X.N[i]? = some x) (hj : X.N[j]? = some y) (hij : i ≠ j) (hx : X.env.scope.names.lookup x = some .local) (hy : X.env.scope.names.lookup y = some .local)
    (ha : PA X [a, b] (tEs M c W es')) (hw : swappedStores [.Tuple [.Name x px, .Name y py] kt pt] (.Tuple [a, b] k2 pt2) X.env = pure (some [x, y])) (hl : ∀ (ρ : Env) S vs S1, es'.den c ρ S = .ok vs S1 → vs.length = 2) :
    PS X (.Assign [.Tuple [.Name x px, .Name y py] kt pt] (.Tuple [a, b] k2 pt2) pos) (tS M c W (.par [i, j] es')) :=
  PS.imp (ps_par g.calm g.nd hi hj hij hx hy ha hw rfl) fun D σ H ⟨ρ, S, m, re, rs, p⟩ => by
    simp only [St.den] at p
    refine ⟨ρ, S, m, re, rs, p.onR re fun vs S1 m1 H1 us e1 x1 rs1 r1 p1 => ?_⟩
    have h2 := hl _ _ _ _ e1
    match vs, h2 with
    | [v, w], _ =>
      obtain ⟨u1, u2, rfl, q1, q2⟩ := r1.two
      exact ⟨u1, u2, rfl, p1 m1 H1 _ rs1.refl rs1 (((re.mono x1).set i q1).set j q2)⟩
theorem s_par3 (g : Gc M X) {i j l : Nat} {x y z : Str} {px py pz pt : Pos} {kt k2 pt2} (hi : X.N[i]? = some x) (hj : X.N[j]? = some y) (hk : X.N[l]? = some z) (hij : i ≠ j) (hil : i ≠ l) (hjl : j ≠ l) (hx : X.env.scope.names.lookup x = some .local) (hy : X.env.scope.names.lookup y = some .local) (hz : X.env.scope.names.lookup z = some .local)
    (ha : PA X [a, b, d] (tEs M c W es')) (hw : swappedStores [.Tuple [.Name x px, .Name y py, .Name z pz] kt pt] (.Tuple [a, b, d] k2 pt2) X.env = pure (some [x, y, z])) (hl : ∀ (ρ : Env) S vs S1, es'.den c ρ S = .ok vs S1 → vs.length = 3) :
    PS X (.Assign [.Tuple [.Name x px, .Name y py, .Name z pz] kt pt] (.Tuple [a, b, d] k2 pt2) pos) (tS M c W (.par [i, j, l] es')) :=
  PS.imp (ps_par3 g.calm g.nd hi hj hk hij hil hjl hx hy hz ha hw rfl) fun D σ H ⟨ρ, S, m, re, rs, p⟩ => by
    simp only [St.den] at p
    refine ⟨ρ, S, m, re, rs, p.onR re fun vs S1 m1 H1 us e1 x1 rs1 r1 p1 => ?_⟩
    have h2 := hl _ _ _ _ e1
    match vs, h2 with
    | [v, w, t], _ =>
      obtain ⟨u1, u2, u3, rfl, q1, q2, q3⟩ := r1.three
      exact ⟨u1, u2, u3, rfl, p1 m1 H1 _ rs1.refl rs1 ((((re.mono x1).set i q1).set j q2).set l q3)⟩
theorem s_aug (g : Gd M X) {i : Nat} {x : Str} {op : Operator} {o : Bop} {p' : Pos} (ho : (op = .Add ∧ o = .add) ∨ (op = .Sub ∧ o = .sub)) (hi : X.N[i]? = some x) (hx : Loc X.env.scope x) (ha : PE X a (tE M c W a')) (hf : X.fn x = true ∨ X.env.scope.names.lookup x = some .local) : PS X (.AugAssign (.Name x p') op a pos) (tS M c W (.aug i o a')) := by
  have fin : ∀ {ti : TIp} (f : Int → Int → Int), (∀ S i j, binop S o (.int i) (.int j) = some (.int (f i j))) → ti = ipI f → ∀ D σ H, tS M c W (.aug i o a') D σ H → tAug i (tE M c W a') ti D σ H := by
    intro ti f hf ht D σ H ⟨ρ, S, m, re, rs, p⟩
    subst ht
    simp only [St.den] at p
    split at p
    · rename_i v ev
      obtain ⟨u, eu, ru⟩ := re.at_ i v ev
      refine ⟨u, eu, ρ, S, m, re, rs, p.onR re fun y S1 m1 H1 w e1 x1 rs1 r1 p1 => ?_⟩
      split at p1
      · rename_i k l
        cases ru
        cases r1
        rw [hf] at p1
        simp only [ofO_some, onR_ok] at p1
        exact ⟨k, l, rfl, rfl, p1 m1 H1 _ rs1.refl rs1 ((re.mono x1).set i (.int _))⟩
      · exact False.elim p1
    · exact False.elim p
  rcases ho with ⟨rfl, rfl⟩ | ⟨rfl, rfl⟩
  · exact PS.imp (ps_aug g.nd hi hx ha ip_add hf) (fin (fun i j => i + j) (fun _ _ _ => rfl) rfl)
  · exact PS.imp (ps_aug g.nd hi hx ha ip_sub hf) (fin (fun i j => i - j) (fun _ _ _ => rfl) rfl)
/-! ### loops -/
theorem s_for (g : Gc M X) (hp : PassesOwn (model X.prog X.w) X.A X.env X.xe) (hi : PI X tg iter (tI M c W i')) (hg : PG X tg (tG M c W t')) (hb : PSs X body (tSs M c W b1)) (hs : ∀ x, foldedSetIterable iter X.env x = pure x) : PS X (.For tg iter body [] pos) (tS M c W (.fo t' i' b1)) :=
  PS.imp (ps_for hp g.calm hi hg hb hs) fun D σ H ⟨ρ, S, m, re, rs, p⟩ => by
    simp only [St.den] at p
    refine ⟨ρ, S, m, re, rs, p.onR re fun s S1 m1 H1 J e1 x1 rs1 src p1 => ?_⟩
    have re1 := re.mono x1
    cases s with
    | fix xs =>
      generalize hbody : (fun (x : PV) (ρ1 : Env) (S2 : Store) => Pz.onR ρ1 (t'.den c x ρ1 S2) fun ρ2 S3 => b1.den c ρ2 S3) = bd at p1
      let Iv : Nat → St' → Hp → Prop := fun i σ Hc => ∃ (ρ : Env) (Sc : Store) (mm : Mp), Ext m1 mm H1 Hc ∧ RepE M mm Hc ρ σ ∧ RepS M mm Hc Sc ∧ PostS M (forLoop bd (xs.drop i) ρ Sc) mm Hc W D
      refine ⟨fun i k σ Hc => k = xs.length - i ∧ i ≤ xs.length ∧ Iv i σ Hc, ⟨xs.length, rfl, Nat.zero_le _, ρ, S1, m1, rs1.refl, re1, rs1, by rw [List.drop_zero]; exact p1⟩, ?_⟩
      rintro i k σc Hc ⟨rfl, hi, ρc, Sc, mm, ext, rec', rsc, pc⟩
      obtain ⟨_, hsrc⟩ := src mm Hc Sc xs ext.kp rsc rfl
      by_cases hlt : i < xs.length
      · right
        obtain ⟨go, yld⟩ := (hsrc i).1 _ (List.getElem?_eq_getElem hlt)
        rw [List.drop_eq_getElem_cons hlt] at pc
        refine ⟨go, fun σ' H' => Iv (i + 1) σ' H', fun σ' H' h => ⟨xs.length - (i + 1), by omega, rfl, hlt, h⟩, fun v H' hy => ?_⟩
        obtain ⟨extY, rsY, rv⟩ := yld v H' hy
        unfold forLoop at pc
        refine ⟨xs[i], ρc, Sc, mm, rv, rec'.mono extY, rsY, ?_⟩
        have pc2 : PostS M (bd xs[i] ρc Sc) mm H' W { D with nx := Iv (i + 1), ct := Iv (i + 1), bk := D.nx } := by
          cases ed : bd xs[i] ρc Sc with
          | nx ρ1 S2 => rw [ed] at pc; exact fun m2 H2 σ2 x2 rs2 re2 => ⟨ρ1, S2, m2, (ext.trans extY).trans x2, re2, rs2, PostS.shift (by exact pc) (extY.trans x2)⟩
          | ct ρ1 S2 => rw [ed] at pc; exact fun m2 H2 σ2 x2 rs2 re2 => ⟨ρ1, S2, m2, (ext.trans extY).trans x2, re2, rs2, PostS.shift (by exact pc) (extY.trans x2)⟩
          | bk ρ1 S2 => rw [ed] at pc; exact fun m2 H2 σ2 x2 rs2 re2 => pc m2 H2 σ2 (extY.trans x2) rs2 re2
          | rt v ρ1 S2 => rw [ed] at pc; exact fun m2 H2 u x2 rs2 r2 => pc m2 H2 u (extY.trans x2) rs2 r2
          | exc x v ρ1 S2 => rw [ed] at pc; exact fun m2 H2 σ2 cls d x2 rs2 re2 ex => pc m2 H2 σ2 cls d (extY.trans x2) rs2 re2 ex
          | out => rw [ed] at pc; exact pc
        rw [← hbody] at pc2
        refine pc2.onR (rec'.mono extY) fun ρ2 S3 m3 H3 σ3 e3 x3 rs3 r3 p3 => ?_
        exact ⟨ρ2, S3, m3, r3.1, rs3, p3⟩
      · left
        have hi2 : i = xs.length := by omega
        subst hi2
        rw [List.drop_length] at pc
        exact ⟨(hsrc _).2 rfl, pc mm Hc σc rsc.refl rsc rec'⟩
    | cel n =>
      generalize hbody : (fun (x : PV) (ρ1 : Env) (S2 : Store) => Pz.onR ρ1 (t'.den c x ρ1 S2) fun ρ2 S3 => b1.den c ρ2 S3) = bd at p1
      refine ⟨fun i k σ Hc => ∃ (ρ : Env) (Sc : Store) (mm : Mp), Ext m1 mm H1 Hc ∧ RepE M mm Hc ρ σ ∧ RepS M mm Hc Sc ∧ PostS M (forCell bd n k i ρ Sc) mm Hc W D, ⟨c.fuel, ρ, S1, m1, rs1.refl, re1, rs1, p1⟩, ?_⟩
      rintro i k σc Hc ⟨ρc, Sc, mm, ext, rec', rsc, pc⟩
      cases k with
      | zero => exact False.elim pc
      | succ k =>
        unfold forCell at pc
        split at pc
        · rename_i xs exs
          obtain ⟨_, hsrc⟩ := src mm Hc Sc xs ext.kp rsc (by simp only [srcItems, exs])
          split at pc
          · rename_i exi
            split at pc
            · rename_i hl
              exact .inl ⟨(hsrc i).2 hl, pc mm Hc σc rsc.refl rsc rec'⟩
            · exact False.elim pc
          · rename_i x exi
            right
            obtain ⟨go, yld⟩ := (hsrc i).1 _ exi
            let Iv : St' → Hp → Prop := fun σ Hc => ∃ (ρ : Env) (Sc : Store) (mm : Mp), Ext m1 mm H1 Hc ∧ RepE M mm Hc ρ σ ∧ RepS M mm Hc Sc ∧ PostS M (forCell bd n k (i + 1) ρ Sc) mm Hc W D
            refine ⟨go, Iv, fun σ' H' h => ⟨k, Nat.lt_succ_self _, h⟩, fun v H' hy => ?_⟩
            obtain ⟨extY, rsY, rv⟩ := yld v H' hy
            refine ⟨x, ρc, Sc, mm, rv, rec'.mono extY, rsY, ?_⟩
            have pc2 : PostS M (bd x ρc Sc) mm H' W { D with nx := Iv, ct := Iv, bk := D.nx } := by
              cases ed : bd x ρc Sc with
              | nx ρ1 S2 => rw [ed] at pc; exact fun m2 H2 σ2 x2 rs2 re2 => ⟨ρ1, S2, m2, (ext.trans extY).trans x2, re2, rs2, PostS.shift (by exact pc) (extY.trans x2)⟩
              | ct ρ1 S2 => rw [ed] at pc; exact fun m2 H2 σ2 x2 rs2 re2 => ⟨ρ1, S2, m2, (ext.trans extY).trans x2, re2, rs2, PostS.shift (by exact pc) (extY.trans x2)⟩
              | bk ρ1 S2 => rw [ed] at pc; exact fun m2 H2 σ2 x2 rs2 re2 => pc m2 H2 σ2 (extY.trans x2) rs2 re2
              | rt v ρ1 S2 => rw [ed] at pc; exact fun m2 H2 u x2 rs2 r2 => pc m2 H2 u (extY.trans x2) rs2 r2
              | exc x v ρ1 S2 => rw [ed] at pc; exact fun m2 H2 σ2 cls d x2 rs2 re2 ex => pc m2 H2 σ2 cls d (extY.trans x2) rs2 re2 ex
              | out => rw [ed] at pc; exact pc
            rw [← hbody] at pc2
            refine pc2.onR (rec'.mono extY) fun ρ2 S3 m3 H3 σ3 e3 x3 rs3 r3 p3 => ?_
            exact ⟨ρ2, S3, m3, r3.1, rs3, p3⟩
        · exact False.elim pc
theorem s_wh (hp : PassesOwn (model X.prog X.w) X.A X.env X.xe) (hc : PT X a (tT M c W a')) (hb : PSs X body (tSs M c W b1)) : PS X (.While a body [] pos) (tS M c W (.wh a' b1)) :=
  PS.imp (ps_while hp hc hb) fun D σ H ⟨ρ, S, m, re, rs, p⟩ => by
    simp only [St.den] at p
    refine ⟨fun k σ Hc => ∃ (ρ : Env) (Sc : Store) (mm : Mp), RepE M mm Hc ρ σ ∧ RepS M mm Hc Sc ∧ PostS M (whileLoop (fun ρ S => a'.denB c ρ S) (fun ρ S => b1.den c ρ S) k ρ Sc) mm Hc W D, ⟨c.fuel, ρ, S, m, re, rs, p⟩, ?_⟩
    rintro k σc Hc ⟨ρc, Sc, mm, rec', rsc, pc⟩
    cases k with
    | zero => exact False.elim pc
    | succ k =>
      unfold whileLoop at pc
      refine ⟨ρc, Sc, mm, rec', rsc, pc.onR rec' fun v S1 m1 H1 u e1 x1 rs1 r1 p1 => ?_⟩
      have r1' : v = u := r1
      subst r1'
      have re1 := rec'.mono x1
      cases v with
      | false => simp only [Bool.false_eq_true, if_false] at p1 ⊢; exact p1 m1 H1 σc rs1.refl rs1 re1
      | true =>
        simp only [if_true] at p1 ⊢
        let Iv : St' → Hp → Prop := fun σ Hc => ∃ (ρ : Env) (Sc : Store) (mm : Mp), RepE M mm Hc ρ σ ∧ RepS M mm Hc Sc ∧ PostS M (whileLoop (fun ρ S => a'.denB c ρ S) (fun ρ S => b1.den c ρ S) k ρ Sc) mm Hc W D
        refine ⟨Iv, fun σ' H' h => ⟨k, Nat.lt_succ_self _, h⟩, ρc, S1, m1, re1, rs1, ?_⟩
        cases ed : b1.den c ρc S1 with
        | nx ρ1 S2 => rw [ed] at p1; exact fun m2 H2 σ2 x2 rs2 re2 => ⟨ρ1, S2, m2, re2, rs2, PostS.shift (by exact p1) x2⟩
        | ct ρ1 S2 => rw [ed] at p1; exact fun m2 H2 σ2 x2 rs2 re2 => ⟨ρ1, S2, m2, re2, rs2, PostS.shift (by exact p1) x2⟩
        | bk ρ1 S2 => rw [ed] at p1; exact p1
        | rt v ρ1 S2 => rw [ed] at p1; exact p1
        | exc x v ρ1 S2 => rw [ed] at p1; exact p1
        | out => rw [ed] at p1; exact p1
end
end Pz
end
section
set_option Elab.async false
set_option linter.all false
set_option maxRecDepth 100000
/-! Pz: the store behind a call; calls. -/
namespace Pz
open PySem PySem.Spec PyProof.Rows L2
section
variable {M : Md} {m m' m1 m2 : Mp} {H H' H1 H2 : Hp} {S S' : Store}
theorem topL_keys : ∀ (ks : List Key), PV.top.topL (ks.map keyPV) = 0
  | [] => rfl
  | k :: ks => by
    have e : (keyPV k).top = 0 := by cases k <;> rfl
    simp [PV.top.topL, e, topL_keys ks]
theorem topL_keysT {α : Type} (f : α → List Key) : ∀ (ks : List α), PV.top.topL (ks.map fun p => .ktup ((f p).map keyPV)) = 0
  | [] => rfl
  | k :: ks => by
    have e : (PV.ktup ((f k).map keyPV)).top = 0 := topL_keys _
    simp only [List.map_cons, PV.top.topL, e, topL_keysT f ks, Nat.max_self]
mutual
theorem Rep.top {x : PV} {v : V} (h : Rep M m H x v) : x.top ≤ m.c.length := match h with
  | .non => Nat.zero_le _
  | .bl b => Nat.zero_le _
  | .int i => Nat.zero_le _
  | .str h => Nat.zero_le _
  | .tup t l r => RepL.top r
  | .lst h n l r => RepL.top r
  | .dK (kvs := kvs) h n l r => by
    have e := topL_keys (kvs.map (·.1))
    rw [List.map_map] at e
    show max (PV.top.topL (kvs.map fun p => keyPV p.1)) _ ≤ _
    have e2 : (kvs.map fun p => keyPV p.1) = kvs.map (keyPV ∘ (·.1)) := rfl
    rw [e2, e, Nat.zero_max]
    exact RepL.top r
  | .dT (kvs := kvs) h n l r => by
    show max (PV.top.topL (kvs.map fun p => .ktup (p.1.map keyPV))) _ ≤ _
    rw [topL_keysT, Nat.zero_max]
    exact RepL.top r
  | .cell h => (List.getElem?_eq_some_iff.mp h).1
  | .fn .. => Nat.zero_le _
  | .frz h n l r => RepL.top r
  | .wtup h l r => RepL.top r
  | .frw h l r => RepL.top r
  | .ktup h l r => RepL.top r
  | .exn h0 h1 h n r => by have := Rep.top r; exact this
theorem RepL.top {xs : List PV} {vs : List V} (h : RepL M m H xs vs) : PV.top.topL xs ≤ m.c.length := match h with
  | .nil => Nat.zero_le _
  | .cons r t => Nat.max_le.mpr ⟨Rep.top r, RepL.top t⟩
end
theorem topF_le : ∀ {fs : List (Str × PV)} {n : Nat}, PV.top.topL (fs.map (·.2)) ≤ n → topF fs ≤ n
  | [], _, _ => Nat.zero_le _
  | (f, x) :: fs, n, h => by
    have h' := Nat.max_le.mp h
    exact Nat.max_le.mpr ⟨h'.1, topF_le h'.2⟩
theorem topF_ge : ∀ {fs : List (Str × PV)} {n : Nat}, topF fs ≤ n → PV.top.topL (fs.map (·.2)) ≤ n
  | [], _, _ => Nat.zero_le _
  | (f, x) :: fs, n, h => by
    have h' := Nat.max_le.mp h
    exact Nat.max_le.mpr ⟨h'.1, topF_ge h'.2⟩
theorem RepO.top {a : Addr} {o : PO} (h : RepO M m H a o) : o.top ≤ m.c.length := by
  cases o with
  | lst xs => obtain ⟨vs, _, _, r⟩ := h; exact r.top
  | dct t ks vs => cases t with
    | false =>
      obtain ⟨kvs, _, _, rfl, r⟩ := h
      show max (PV.top.topL (kvs.map fun p => keyPV p.1)) _ ≤ _
      have e := topL_keys (kvs.map (·.1))
      rw [List.map_map] at e
      have e2 : (kvs.map fun p => keyPV p.1) = kvs.map (keyPV ∘ (·.1)) := rfl
      rw [e2, e, Nat.zero_max]
      exact r.top
    | true =>
      obtain ⟨kvs, _, _, rfl, r⟩ := h
      show max (PV.top.topL (kvs.map fun p => .ktup (p.1.map keyPV))) _ ≤ _
      rw [topL_keysT, Nat.zero_max]
      exact r.top
  | ins c fs => obtain ⟨C, dx, fvs, _, _, _, _, r⟩ := h; exact topF_le r.top
theorem topS_get : ∀ {S : Store} {n i : Nat} {o : PO}, topS S ≤ n → S[i]? = some o → o.top ≤ n
  | [], _, _, _, _, h => by simp at h
  | o :: S, n, 0, _, h, e => by simp at e; subst e; exact (Nat.max_le.mp h).1
  | o :: S, n, i + 1, _, h, e => topS_get (Nat.max_le.mp h).2 (by simpa using e)
/-- fewer cells -/
structure Cut (n : Nat) (m1 m' : Mp) : Prop where
  at_ : ∀ (j : Nat) (b : Addr), m'.c[j]? = some b → j < n → m1.c[j]? = some b
  out : ∀ a, m'.out a → m1.out a
mutual
theorem Rep.trim {x : PV} {v : V} (h : Rep M m' H x v) {n : Nat} (c : Cut n m1 m') (l : x.top ≤ n) : Rep M m1 H x v := match h with
  | .non => .non
  | .bl b => .bl b
  | .int i => .int i
  | .str h => .str h
  | .tup t z r => .tup ⟨t.1, c.out _ t.2⟩ z (RepL.trim r c l)
  | .lst h q z r => .lst h (c.out _ q) z (RepL.trim r c l)
  | .dK h q z r => .dK h (c.out _ q) z (RepL.trim r c (Nat.max_le.mp l).2)
  | .dT h q z r => .dT h (c.out _ q) z (RepL.trim r c (Nat.max_le.mp l).2)
  | .cell h => .cell (c.at_ _ _ h l)
  | .fn h h2 => .fn h h2
  | .frz h q z r => .frz h (c.out _ q) z (RepL.trim r c l)
  | .wtup h z r => .wtup h z (RepL.trim r c l)
  | .frw h z r => .frw h z (RepL.trim r c l)
  | .ktup h z r => .ktup ⟨h.1, c.out _ h.2⟩ z (RepL.trim r c l)
  | .exn h0 h1 h q r => .exn h0 h1 h (c.out _ q) (Rep.trim r c l)
theorem RepL.trim {xs : List PV} {vs : List V} (h : RepL M m' H xs vs) {n : Nat} (c : Cut n m1 m') (l : PV.top.topL xs ≤ n) : RepL M m1 H xs vs := match h with
  | .nil => .nil
  | .cons r t => .cons (Rep.trim r c (Nat.max_le.mp l).1) (RepL.trim t c (Nat.max_le.mp l).2)
end
theorem RepO.trim {a : Addr} {o : PO} (h : RepO M m' H a o) {n : Nat} (c : Cut n m1 m') (l : o.top ≤ n) : RepO M m1 H a o := by
  cases o with
  | lst xs => obtain ⟨vs, g, z, r⟩ := h; exact ⟨vs, g, z, r.trim c l⟩
  | dct t ks vs => cases t with
    | false => obtain ⟨kvs, g, z, e, r⟩ := h; exact ⟨kvs, g, z, e, r.trim c (Nat.max_le.mp l).2⟩
    | true => obtain ⟨kvs, g, z, e, r⟩ := h; exact ⟨kvs, g, z, e, r.trim c (Nat.max_le.mp l).2⟩
  | ins cl fs => obtain ⟨C, dx, fvs, g0, g, z, e, r⟩ := h; exact ⟨C, dx, fvs, g0, g, z, e, r.trim c (topF_ge l)⟩
theorem Ext.cut (e : Ext m m' H H') : Cut m.c.length m m' := by
  obtain ⟨ms, e1, _⟩ := e.pre
  refine ⟨fun j b h l => ?_, fun a h => ⟨fun z => h.1 (by rw [e1]; exact List.mem_append_left _ z), by rw [← e.hid]; exact h.2⟩⟩
  rw [e1, List.getElem?_append_left l] at h
  exact h
/-- a cell that is no more -/
theorem gone (rs : RepS M m' H' S') (e : Ext m m' H H') {i : Nat} {a : Addr} (h : m'.c[i]? = some a) (l : m.c.length ≤ i) : m.out a := by
  obtain ⟨ms, e1, _⟩ := e.pre
  refine ⟨fun z => ?_, fun z => ?_⟩
  · obtain ⟨j, hj⟩ := List.getElem?_of_mem z
    have hj' := e.at hj
    obtain ⟨l1, g1⟩ := List.getElem?_eq_some_iff.mp h
    obtain ⟨l2, g2⟩ := List.getElem?_eq_some_iff.mp hj'
    have := (List.getElem_inj rs.nd).mp (g1.trans g2.symm)
    have := (List.getElem?_eq_some_iff.mp hj).1
    omega
  · rw [← e.hid] at z
    exact (rs.hid a z).1 (List.mem_of_getElem? h)
mutual
theorem Rep.freeze {x : PV} {v : V} (h : Rep M m' H' x v) (rs : RepS M m' H' S') (e : Ext m m' H H') (l : (Pz.freeze m.c.length S' x).top ≤ m.c.length) : Rep M m H' (Pz.freeze m.c.length S' x) v := match h, l with
  | .non, _ => .non
  | .bl b, _ => .bl b
  | .int i, _ => .int i
  | .str h, _ => .str h
  | .tup t z r, l => .tup ⟨t.1, e.cut.out _ t.2⟩ (by exact z) (RepL.freeze r rs e l)
  | .lst h n z r, l => Rep.trim (.lst h n z r) e.cut l
  | .dK h n z r, l => Rep.trim (.dK h n z r) e.cut l
  | .dT h n z r, l => Rep.trim (.dT h n z r) e.cut l
  | .cell (n := i) (a := a) h, l => by
    unfold Pz.freeze at l ⊢
    split at l
    · rename_i hi
      rw [if_pos hi]
      exact .cell (e.cut.at_ _ _ h hi)
    · rename_i hi
      rw [if_neg hi]
      have hle : m.c.length ≤ i := Nat.le_of_not_lt hi
      obtain ⟨o, eo, ro⟩ := rs.at h
      rw [eo] at l ⊢
      cases o with
      | lst xs => obtain ⟨vs, g, z, r⟩ := ro; exact .lst g (gone rs e h hle) z (r.trim e.cut l)
      | dct t ks vs => cases t with
        | false => obtain ⟨kvs, g, z, eq, r⟩ := ro; subst eq; exact .dK g (gone rs e h hle) z (r.trim e.cut (Nat.max_le.mp l).2)
        | true => obtain ⟨kvs, g, z, eq, r⟩ := ro; subst eq; exact .dT g (gone rs e h hle) z (r.trim e.cut (Nat.max_le.mp l).2)
      | ins cl fs => exact absurd (show i + 1 ≤ _ from l) (by omega)
  | .fn h h2, _ => .fn h h2
  | .frz h n z r, l => Rep.trim (.frz h n z r) e.cut l
  | .wtup h z r, l => Rep.trim (.wtup h z r) e.cut l
  | .frw h z r, l => Rep.trim (.frw h z r) e.cut l
  | .ktup h z r, l => Rep.trim (.ktup h z r) e.cut l
  | .exn h0 h1 h n r, l => Rep.trim (.exn h0 h1 h n r) e.cut l
theorem RepL.freeze {xs : List PV} {vs : List V} (h : RepL M m' H' xs vs) (rs : RepS M m' H' S') (e : Ext m m' H H') (l : PV.top.topL (Pz.freeze.freezeL m.c.length S' xs) ≤ m.c.length) : RepL M m H' (Pz.freeze.freezeL m.c.length S' xs) vs := match h, l with
  | .nil, _ => .nil
  | .cons r t, l => .cons (Rep.freeze r rs e (Nat.max_le.mp l).1) (RepL.freeze t rs e (Nat.max_le.mp l).2)
end
theorem Ext.shut (e : Ext m m' H H') : Ext m m H H' := ⟨⟨[], by simp, by simp⟩, rfl, e.keep, fun a ha => e.there a (by obtain ⟨ms, e1, _⟩ := e.pre; rw [e1]; exact List.mem_append_left _ ha)⟩
theorem shut_S (rs : RepS M m H S) (e : Ext m m' H H') (rs' : RepS M m' H' S') (h : shut S S' = true) : RepS M m H' (S'.take S.length) := by
  have hl := rs.len
  have hl' := rs'.len
  obtain ⟨ms, e1, hm⟩ := e.pre
  have hlen : S.length ≤ S'.length := by
    rw [← hl, ← hl', e1, List.length_append]; omega
  refine ⟨rs.nd, by rw [List.length_take, hl]; omega, fun a ha => ?_, fun n a o h1 h2 => ?_⟩
  · rw [← e.hid] at ha
    obtain ⟨z, o, q⟩ := rs'.hid a ha
    exact ⟨fun y => z (by rw [e1]; exact List.mem_append_left _ y), o, q⟩
  · have hn : n < S.length := by rw [← hl]; exact (List.getElem?_eq_some_iff.mp h1).1
    have h2' := h2
    rw [List.getElem?_take, if_pos hn] at h2'
    refine (rs'.ob n a o (e.at h1) h2').trim e.cut ?_
    rw [hl]
    unfold Pz.shut at h
    rcases Bool.or_eq_true_iff.mp h with z | z
    · rw [sameS_eq z] at h2
      rw [← hl]
      exact (rs.ob n a o h1 h2).top
    · exact topS_get (of_decide_eq_true z) h2
/-- a call's end, told of all -/
theorem fin_post {r : R PV} {σ : St'} {W : WX} {Q : VK} (rs : RepS M m H S) (p : Post M (Rep M) (r.fin S) m H σ W Q) : Post M (Rep M) r m H σ W Q := by
  have hl := rs.len
  cases r with
  | out => exact p
  | ok v S' =>
    unfold R.fin at p
    dsimp only at p
    split at p
    · rename_i h
      simp only [Bool.and_eq_true, decide_eq_true_eq] at h
      intro m' H' u x rs' rv
      refine p m H' u x.shut (shut_S rs x rs' h.1.2) ?_
      have := rv.freeze rs' x (by rw [hl]; exact h.2)
      rw [hl] at this
      exact this
    · exact p
  | exc c v S' =>
    unfold R.fin at p
    dsimp only at p
    split at p
    · rename_i h
      simp only [Bool.and_eq_true, decide_eq_true_eq] at h
      intro m' H' cls d x rs' ex
      refine p m H' cls d x.shut (shut_S rs x rs' h.1.2) ?_
      obtain ⟨C, dd, u, h1, h2, h3, h4, h5, h6⟩ := ex
      exact ⟨C, dd, u, h1, h2, h3, h4, x.cut.out _ h5, h6.trim x.cut (by rw [hl]; exact h.2)⟩
    · exact p
theorem finK_post {r : R PV} {σ : St'} {W : WX} {Q : VK} (rs : RepS M m H S) (p : Post M (Rep M) (r.finK S) m H σ W Q) : Post M (Rep M) r m H σ W Q := by
  have hl := rs.len
  unfold R.finK at p
  split at p
  · rename_i i S'
    split at p
    · rename_i o eo
      split at p
      · rename_i h
        simp only [Bool.and_eq_true, decide_eq_true_eq] at h
        obtain ⟨⟨h1, h2⟩, h3⟩ := h
        intro m' H' u x rs' rv
        cases rv with
        | @cell _ a hc =>
          have ro := rs'.ob i a o hc eo
          have sS := shut_S rs x rs' h2
          have hlen : S.length ≤ S'.length := by
            obtain ⟨ms, e1, _⟩ := x.pre
            rw [← hl, ← rs'.len, e1, List.length_append]; omega
          have hg := gone rs' x hc (by rw [hl]; exact h1)
          obtain ⟨u0, hu⟩ := ro.there
          have hin : a ∈ m'.c := List.mem_of_getElem? hc
          obtain ⟨ms, e1, hm⟩ := x.pre
          have hnone : H a = none := by
            refine hm a ?_
            rw [e1] at hin
            rcases List.mem_append.mp hin with z | z
            · exact absurd z hg.1
            · exact z
          have exA : Ext m (m.add a) H H' := ⟨⟨[a], rfl, by simpa using hnone⟩, rfl, x.keep, fun b hb => by
            rcases List.mem_append.mp hb with z | z
            · exact x.shut.there b z
            · obtain rfl : b = a := by simpa using z
              exact ⟨u0, hu⟩⟩
          have cutA : Cut m.c.length (m.add a) m' := by
            refine ⟨fun j b hb lt => ?_, fun b hb => ⟨fun z => ?_, by show b ∉ m.h; rw [← x.hid]; exact hb.2⟩⟩
            · have := x.cut.at_ j b hb lt
              show (m.c ++ [a])[j]? = some b
              rw [List.getElem?_append_left lt]; exact this
            · rcases List.mem_append.mp z with z | z
              · exact (x.cut.out b hb).1 z
              · obtain rfl : b = a := by simpa using z
                exact hb.1 hin
          have sA : RepS M (m.add a) H' (S'.take S.length ++ [o]) := by
            refine ⟨?_, ?_, fun b hb => ?_, fun n b q g1 g2 => ?_⟩
            · show (m.c ++ [a]).Nodup
              rw [List.nodup_append]
              refine ⟨rs.nd, by simp, fun b hb b2 hb2 e => ?_⟩
              obtain rfl : b2 = a := by simpa using hb2
              exact hg.1 (e ▸ hb)
            · show (m.c ++ [a]).length = _
              rw [List.length_append, List.length_append, List.length_take, hl]
              simp
              omega
            · obtain ⟨z, q⟩ := sS.hid b hb
              refine ⟨fun y => ?_, q⟩
              rcases List.mem_append.mp y with y | y
              · exact z y
              · obtain rfl : b = a := by simpa using y
                exact hg.2 hb
            · replace g1 : (m.c ++ [a])[n]? = some b := g1
              have hmin : (S'.take S.length).length = m.c.length := by rw [List.length_take, hl]; omega
              by_cases hn : n < m.c.length
              · rw [List.getElem?_append_left hn] at g1
                rw [List.getElem?_append_left (by rw [hmin]; exact hn)] at g2
                have top := (sS.ob n b q g1 g2).top
                rw [List.getElem?_take, if_pos (by rw [← hl]; exact hn)] at g2
                exact (rs'.ob n b q (x.at g1) g2).trim cutA top
              · have e1 : n = m.c.length := by
                  have := (List.getElem?_eq_some_iff.mp g1).1
                  simp at this; omega
                subst e1
                rw [List.getElem?_append_right (Nat.le_refl _)] at g1
                rw [← hmin, List.getElem?_append_right (Nat.le_refl _)] at g2
                simp at g1 g2
                subst g1 g2
                exact ro.trim cutA (by rw [hl]; exact h3)
          refine p (m.add a) H' _ exA sA ?_
          exact .cell (by rw [← hl]; show (m.c ++ [a])[m.c.length]? = some a; simp)
      · exact p
    · exact False.elim p
  · exact fin_post rs p
end
end Pz
end
section
set_option Elab.async false
set_option linter.all false
set_option maxRecDepth 100000
/-! Pz: calls of defs, methods, classes. -/
namespace Pz
open PySem PySem.Spec PyProof.Rows L2
/-- a def's promise: it runs as its denotation -/
def spF (M : Md) (run : List PV → Store → R PV) (np : Nat) : Sp := fun vs H Q E => vs.length = np ∧ ∃ xs S m, RepL M m H xs vs ∧ RepS M m H S ∧ Post M (Rep M) (run xs S) m H [] (fun cls d _ H => E cls d H) Q
structure FnAt (M : Md) (P : Program) (w : World) (base : Heap) (k : Nat) (run : List PV → Store → R PV) (dfl : List PV) (a : Addr) : Prop where
  ex : ∃ (fd : FuncData) (ps : List Str), PySem.W.keepIn M.K (.ref a) = true ∧ FnOk P w M.K M.mg base (L2N.CX P w) k a fd ps (spF M run ps.length) ∧ (∀ vs S, run vs S ≠ .out → vs.length = ps.length) ∧
    ∀ j, j ≤ dfl.length → ∃ dvs dsv, Binds M.K fd ps dsv ∧ Vals dvs dsv ∧ ∀ m H, RepL M m H (dfl.drop j) dvs
/-- calls go from here -/
structure Calls (M : Md) (X : Cx) (W : WX) (c : Cfg) (dflt : Str → List PV) (k : Nat) : Prop where
  room : Room k X.A
  pass : ∀ σ, PassesAt (L2N.CX X.prog X.w) X σ (WE W σ)
  fn : ∀ f, (∃ vs S, c.call f vs S ≠ .out) → ∃ a, M.mg f = some (.ref a) ∧ FnAt M X.prog X.w X.base k (c.call f) (dflt f) a
  mt : ∀ C m, c.has C m = true → ∃ Ca f, M.mg C = some (.ref Ca) ∧ Cls M.K Ca ∧ Meth M.K Ca m f ∧ FnAt M X.prog X.w X.base k (c.meth C m) [] f
  mke : ∀ C, c.mks = true → c.has C "__init__" = true → ∃ Ca f k', k' + 1 ≤ k ∧ M.mg C = some (.ref Ca) ∧ Cls M.K Ca ∧ Mk M.K Ca f ∧ FnAt M X.prog X.w X.base k' (c.init C) [] f
section
variable {M : Md} {m m' m1 m2 : Mp} {H H' H1 H2 : Hp} {S : Store} {X : Cx} {c : Cfg} {W : WX} {a o : Expr} {a' o' : E} {es : List Expr} {es' : Es} {pos p apos : Pos} {x mn C : Str} {ds : List PV} {dflt : Str → List PV} {k : Nat}
theorem Post.notOut {α β : Type} {RA : Mp → Hp → α → β → Prop} {r : R α} {σ : St'} {Q : β → Hp → Prop} (h : Post M RA r m H σ W Q) : r ≠ .out := fun e => by rw [e] at h; exact h
theorem fin_out {r : R PV} (h : r.fin S ≠ .out) : r ≠ .out := fun e => by rw [e] at h; exact h rfl
theorem finK_out {r : R PV} (h : r.finK S ≠ .out) : r ≠ .out := fun e => by rw [e] at h; exact h rfl
/-- the promise at a call -/
theorem sp_of {run : List PV → Store → R PV} {np : Nat} {xs : List PV} {vs : List V} {σ : St'} {Q : VK} (hn : ∀ vs S, run vs S ≠ .out → vs.length = np) (r : RepL M m H xs vs) (rs : RepS M m H S) (p : Post M (Rep M) (run xs S) m H σ W Q) : spF M run np vs H Q (WE W σ) := by
  refine ⟨by rw [← r.length]; exact hn _ _ p.notOut, xs, S, m, r, rs, ?_⟩
  cases ed : run xs S with
  | ok v S1 => rw [ed] at p; exact p
  | exc cl v S1 => rw [ed] at p; exact p
  | out => rw [ed] at p; exact p
/-- what is wanted at a call of the def at f: the written values vs -/
def CallP (X : Cx) (k : Nat) (E : XK) (f : Addr) (vs : List V) (H : Hp) (Q : VK) : Prop := PySem.W.keepIn X.K (.ref f) = true ∧ ∃ (fd : FuncData) (ps : List Str) (sp : Sp) (dvs : List V) (dsv : List Value),
  FnOk X.prog X.w X.K X.mg X.base (L2N.CX X.prog X.w) k f fd ps sp ∧ Binds X.K fd ps dsv ∧ Vals dvs dsv ∧ sp (vs ++ dvs) H Q E
theorem callW {E : St' → XK} {first : List Value} {firstV : List V} {t : TA} {f : Addr} {pins : List (Addr × Obj)} {s : Shared} {σ : St'} {Q : VK} (rf : Vals firstV first) (hr : Room k X.A) (hx : ∀ σ, PassesAt (L2N.CX X.prog X.w) X σ (E σ)) (ha : PA X es t) (hs : ∀ e ∈ es, isStar e = false) (h0 : es = [] → ∀ Q, t σ H Q → Q [] H)
    (hk : PySem.W.keepIn X.K (.ref f) = true) (I : Inv X pins σ H s) (h : t σ H fun vs H1 => CallP X k (E σ) f (firstV ++ vs) H1 Q) :
    wpAny (model X.prog X.w) X.A (callWith pos (.ref f) first (backTo pos (starEach es X.env)) (backToKw pos (keywordEach [] X.env))) (EP X pins σ Q) X.xe s := by
  cases es with
  | nil =>
    obtain ⟨_, fd, ps, sp, dvs, dsv, F, hb, hd, q⟩ := h0 rfl _ h
    refine PySem.W.callWith_K0 (first := first) I.kIn hk ?_
    exact run_fnSD (us := first ++ []) (vs := firstV ++ []) F hr hb hd (hx σ) I (rf.append .nil) q
  | cons e es =>
    refine PySem.W.callWith_K (first := first) (h₀ := X.base) I.ok.mod.kin hk (thn (ha.run pos pins s σ H _ I h) fun us s1 ⟨vs, H1, I1, r, _, fd, ps, sp, dvs, dsv, F, hb, hd, q⟩ => ⟨I1.kIn, ?_⟩) (starEach_cons (hs e (by simp))) (any_star fun e he => hs e (by simp [he]))
    exact run_fnSD (us := first ++ us) (vs := firstV ++ vs) F hr hb hd (hx σ) I1 (rf.append r) q
/-- f(..) -/
theorem pe_callA {E : St' → XK} {t : TA} {f : Addr} (hr : Room k X.A) (hx : ∀ σ, PassesAt (L2N.CX X.prog X.w) X σ (E σ)) (ha : PA X es t) (hs : ∀ e ∈ es, isStar e = false) (h0 : es = [] → ∀ σ H Q, t σ H Q → Q [] H) (hg : Gl X x) (hm : X.mg x = some (.ref f)) (hk : PySem.W.keepIn X.K (.ref f) = true) (hdb : (x == ("__debug__" : Str)) = false) :
    PE X (.Call (.Name x p) es [] pos) (fun σ H Q => t σ H fun vs H1 => CallP X k (E σ) f vs H1 Q) := by
  refine ⟨fun pins s σ H Q I h => ?_⟩
  refine wpAny_Call_Name_kw (ld_glob I hg hm ?_ hdb)
  exact callW (firstV := []) (first := []) .nil hr hx ha hs (fun e Q => h0 e σ H Q) hk I h
/-- v(..), v a value in a slot -/
theorem pe_callV {E : St' → XK} {t : TA} {i : Nat} (hr : Room k X.A) (hx : ∀ σ, PassesAt (L2N.CX X.prog X.w) X σ (E σ)) (ha : PA X es t) (hs : ∀ e ∈ es, isStar e = false) (h0 : es = [] → ∀ σ H Q, t σ H Q → Q [] H) (hN : X.N[i]? = some x) (hv : Vis X.env.scope x) (hdb : (x == ("__debug__" : Str)) = false) (hcd : (x == ("__classdict__" : Str)) = false) :
    PE X (.Call (.Name x p) es [] pos) (fun σ H Q => ∃ f, σ[i]? = some (some (.ref f)) ∧ PySem.W.keepIn X.K (.ref f) = true ∧ t σ H fun vs H1 => CallP X k (E σ) f vs H1 Q) := by
  refine ⟨fun pins s σ H Q I h => ?_⟩
  obtain ⟨f, hs', hk, ht⟩ := h
  refine wpAny_Call_Name_kw (thn ((pe_var (pos := p) hN hv hdb hcd).run pins s σ H (fun v H1 => v = .ref f ∧ H1 = H) I ⟨.ref f, hs', rfl, rfl⟩) fun u s1 ⟨v, H1, I1, r1, q1⟩ => ?_)
  obtain ⟨rfl, rfl⟩ := q1
  cases r1
  exact callW (firstV := []) (first := []) .nil hr hx ha hs (fun e Q => h0 e σ _ Q) hk I1 ht
/-- o.m(..) -/
theorem pe_methA {E : St' → XK} {t : TA} {to : TE} {pl : Sem Bool} (ho : PE X o to) (hr : Room k X.A) (hx : ∀ σ, PassesAt (L2N.CX X.prog X.w) X σ (E σ)) (ha : PA X es t) (hs : ∀ e ∈ es, isStar e = false) (h0 : es = [] → ∀ σ H Q, t σ H Q → Q [] H)
    (ht : eval (.Call (.Attribute o mn apos) es [] pos) X.env = (do
      let ov ← eval o X.env
      standAt apos.atName
      let (f, first) ← holding [ov] (getMethod ov mn pl)
      callWith pos f first (backTo pos (starEach es X.env)) (backToKw pos (keywordEach [] X.env)))) :
    PE X (.Call (.Attribute o mn apos) es [] pos) (fun σ H Q => to σ H fun x H1 => ∃ a C dx fs f, x = .ref a ∧ H1 a = some (.ins C dx fs) ∧ Cls X.K C ∧ Meth X.K C mn f ∧ fs.lookup mn = none ∧ t σ H1 fun vs H2 => CallP X k (E σ) f (x :: vs) H2 Q) := by
  refine ⟨fun pins s σ H Q I h => ?_⟩
  refine PySem.W.methodCall_KW (pl := pl) (thn (ho.run pins s σ H _ I h) fun u s1 ⟨x, H1, I1, rx, a, C, dx, fs, f, ex, ea, c, hm, l, q⟩ => ?_) ht
  subst ex
  obtain rfl : u = Value.ref a := rx
  refine getmeth_ok I1 ea c hm l ?_
  exact callW (firstV := [.ref a]) (first := [.ref a]) (.cons rfl .nil) hr hx ha hs (fun e Q => h0 e σ H1 Q) hm.kp I1 q
/-- C(..) -/
theorem run_makeS {f Ca : Addr} {fd : FuncData} {ps : List Str} {sp : Sp} {dvs : List V} {ds : List Value} {E : XK} {pins : List (Addr × Obj)} {σ : St'} {s : Shared} {Q : VK} {us : List Value} {vs : List V} (Mk : L2.Mk X.K Ca f) (F : FnOk X.prog X.w X.K X.mg X.base (L2N.CX X.prog X.w) k f fd ps sp) (hr : Room (k + 1) X.A) (hb : Binds X.K fd ps ds) (hd : Vals dvs ds)
    (hx : PassesAt (L2N.CX X.prog X.w) X σ E) (I : Inv X pins σ H s) (r : Vals vs us)
    (h : ∀ x dx, H x = none → H dx = none → dx ≠ x → sp (.ref x :: (vs ++ dvs)) (upd (upd H dx (.own x)) x (.ins Ca dx [])) (fun v H2 => v = .non ∧ Q (.ref x) H2) E) :
    wpAny (model X.prog X.w) X.A (call (.ref Ca) us) (EP X pins σ Q) X.xe s := by
  have hq := h (s.heap.objs.size + 1) s.heap.objs.size (I.hok.fresh (Nat.le_succ _)) (I.hok.fresh (Nat.le_refl _)) (Nat.ne_of_lt (Nat.lt_succ_self _))
  have I2 := Inv.made (C := Ca) I
  have r2 : Vals (V.ref (s.heap.objs.size + 1) :: (vs ++ dvs)) (Value.ref (s.heap.objs.size + 1) :: (us ++ ds)) := .cons rfl (r.append hd)
  have hl : (Value.ref (s.heap.objs.size + 1) :: us ++ ds).length = ps.length := by
    have e := r2.length
    rw [F.len _ _ _ _ hq] at e
    exact e.symm
  refine wpAny_call (make_map (f := f) I.kIn Mk.makes Mk.init (beq_iff_eq.mp Mk.fn) (codeAny_mono (F.run _ X.stack _ _ ⟨Value.ref (s.heap.objs.size + 1) :: us, []⟩ (Value.ref (s.heap.objs.size + 1) :: (us ++ ds)) _ _ E (hr.make Ca us [])
    (I2.env0.make Ca us []) (hb _ (Value.ref (s.heap.objs.size + 1) :: us) I2.kIn hl) r2 hq) fun r s' hq' => ?_))
  cases r with
  | error e => exact hx pins _ _ e s' I2 hq'
  | ok fl =>
    cases fl with
    | ret u =>
      obtain ⟨v, H', I3, rv, ev, q3⟩ := I2.after hq'
      subst ev
      exact ⟨rv, ⟨V.ref (s.heap.objs.size + 1), H', I3, rfl, q3⟩⟩
    | next => exact False.elim hq'
    | brk => exact False.elim hq'
    | cont => exact False.elim hq'
theorem pe_makeA {E : St' → XK} {t : TA} {Ca f : Addr} {k' : Nat} (hk' : k' + 1 ≤ k) (Mk : L2.Mk X.K Ca f) (hr : Room k X.A) (hx : ∀ σ, PassesAt (L2N.CX X.prog X.w) X σ (E σ)) (ha : PA X (a :: es) t) (hs : ∀ e ∈ a :: es, isStar e = false) (hg : Gl X x) (hm : X.mg x = some (.ref Ca)) (hdb : (x == ("__debug__" : Str)) = false) :
    PE X (.Call (.Name x p) (a :: es) [] pos) (fun σ H Q => t σ H fun vs H1 => ∃ (fd : FuncData) (ps : List Str) (sp : Sp) (dvs : List V) (dsv : List Value), FnOk X.prog X.w X.K X.mg X.base (L2N.CX X.prog X.w) k' f fd ps sp ∧ Binds X.K fd ps dsv ∧ Vals dvs dsv ∧
      ∀ x dx, H1 x = none → H1 dx = none → dx ≠ x → sp (.ref x :: (vs ++ dvs)) (upd (upd H1 dx (.own x)) x (.ins Ca dx [])) (fun v H2 => v = .non ∧ Q (.ref x) H2) (E σ)) := by
  refine ⟨fun pins s σ H Q I h => ?_⟩
  refine wpAny_Call_Name_kw (ld_glob I hg hm ?_ hdb)
  refine PySem.W.callWith_K (h₀ := X.base) I.ok.mod.kin Mk.kp (thn (ha.run pos pins s σ H _ I h) fun us s1 ⟨vs, H1, I1, r, fd, ps, sp, dvs, dsv, F, hb, hd, q⟩ => ⟨I1.kIn, ?_⟩) (starEach_cons (hs a (by simp))) (any_star fun e he => hs e (by simp [he]))
  exact run_makeS Mk F (hr.mono hk') hb hd (hx σ) I1 r q
/-! ### readings -/
theorem tEs_nil : ([] : List Expr) = [] → ∀ σ H Q, tEs M c W .nil σ H Q → Q [] H := fun _ σ H Q ⟨ρ, S, m, re, rs, p⟩ => by
  simp only [Es.den] at p
  exact p.ok0 rs RepL.nil
theorem fn_callP (g : Gd M X) {run : List PV → Store → R PV} {dfl : List PV} {f : Addr} {j : Nat} (hj : j ≤ dfl.length) (F : FnAt M X.prog X.w X.base k run dfl f) {xs : List PV} {vs : List V} {σ : St'} {Q : VK} (r : RepL M m H xs vs) (rs : RepS M m H S) (p : Post M (Rep M) (run (xs ++ dfl.drop j) S) m H σ W Q) : CallP X k (WE W σ) f vs H Q := by
  obtain ⟨fd, ps, hk, F, hn, hb⟩ := F.ex
  obtain ⟨dvs, dsv, b1, b2, b3⟩ := hb j hj
  rw [← g.K, ← g.mg] at F
  rw [← g.K] at b1 hk
  exact ⟨hk, fd, ps, _, dvs, dsv, F, b1, b2, sp_of hn (r.append (b3 m H)) rs p⟩
theorem s_call (g : Gd M X) (cc : Calls M X W c dflt k) (ha : PA X es (tEs M c W es')) (hs : ∀ e ∈ es, isStar e = false) (h0 : es = [] → es' = .nil) (hg : Gl X x) (hdb : (x == ("__debug__" : Str)) = false) {j : Nat} (hj : j ≤ (dflt x).length) {f : Addr} (hf : X.mg x = some (.ref f)) (hk : PySem.W.keepIn X.K (.ref f) = true) :
    PE X (.Call (.Name x p) es [] pos) (tE M c W (.call x es' ((dflt x).drop j))) :=
  PE.imp (pe_callA cc.room cc.pass ha hs (fun e σ H Q h => by rw [h0 e] at h; exact tEs_nil rfl σ H Q h) hg hf hk hdb) fun σ H Q ⟨ρ, S, m, re, rs, p⟩ => by
    simp only [E.den] at p
    refine ⟨ρ, S, m, re, rs, p.bind fun vs S1 m1 H1 us e1 x1 rs1 r1 p1 => ?_⟩
    have p2 := fin_post rs1 p1
    obtain ⟨f', e, F⟩ := cc.fn x ⟨_, _, p2.notOut⟩
    rw [← g.mg, hf] at e
    cases e
    exact fn_callP g hj F r1 rs1 p2
theorem s_callK (g : Gd M X) (cc : Calls M X W c dflt k) (ha : PA X es (tEs M c W es')) (hs : ∀ e ∈ es, isStar e = false) (h0 : es = [] → es' = .nil) (hg : Gl X x) (hdb : (x == ("__debug__" : Str)) = false) {j : Nat} (hj : j ≤ (dflt x).length) {f : Addr} (hf : X.mg x = some (.ref f)) (hk : PySem.W.keepIn X.K (.ref f) = true) :
    PE X (.Call (.Name x p) es [] pos) (tE M c W (.callK x es' ((dflt x).drop j))) :=
  PE.imp (pe_callA cc.room cc.pass ha hs (fun e σ H Q h => by rw [h0 e] at h; exact tEs_nil rfl σ H Q h) hg hf hk hdb) fun σ H Q ⟨ρ, S, m, re, rs, p⟩ => by
    simp only [E.den] at p
    refine ⟨ρ, S, m, re, rs, p.bind fun vs S1 m1 H1 us e1 x1 rs1 r1 p1 => ?_⟩
    have p2 := finK_post rs1 p1
    obtain ⟨f', e, F⟩ := cc.fn x ⟨_, _, p2.notOut⟩
    rw [← g.mg, hf] at e
    cases e
    exact fn_callP g hj F r1 rs1 p2
theorem s_callV (g : Gd M X) (cc : Calls M X W c dflt k) (ha : PA X es (tEs M c W es')) (hs : ∀ e ∈ es, isStar e = false) (h0 : es = [] → es' = .nil) {i : Nat} (hN : X.N[i]? = some x) (hv : Vis X.env.scope x) (hdb : (x == ("__debug__" : Str)) = false) (hcd : (x == ("__classdict__" : Str)) = false) :
    PE X (.Call (.Name x p) es [] pos) (tE M c W (.callV (.var i) es')) :=
  PE.imp (pe_callV cc.room cc.pass ha hs (fun e σ H Q h => by rw [h0 e] at h; exact tEs_nil rfl σ H Q h) hN hv hdb hcd) fun σ H Q ⟨ρ, S, m, re, rs, p⟩ => by
    simp only [E.den] at p
    split at p
    · rename_i v ev
      obtain ⟨u, eu, ru⟩ := re.at_ i v ev
      simp only [R.bind_ok] at p
      split at p
      · rename_i f
        cases ru with
        | fn hm hk =>
          rw [← g.K] at hk
          refine ⟨_, eu, hk, ρ, S, m, re, rs, p.bind fun vs S1 m1 H1 us e1 x1 rs1 r1 p1 => ?_⟩
          have p2 := fin_post rs1 p1
          obtain ⟨f', e, F⟩ := cc.fn f ⟨_, _, p2.notOut⟩
          rw [hm] at e
          cases e
          exact fn_callP (j := (dflt f).length) g (Nat.le_refl _) F r1 rs1 (by rw [List.drop_length, List.append_nil]; exact p2)
      · exact False.elim p
    · exact False.elim p
theorem s_meth (g : Gd M X) (cc : Calls M X W c dflt k) (ho : PE X o (tE M c W o')) (ha : PA X es (tEs M c W es')) (hs : ∀ e ∈ es, isStar e = false) (h0 : es = [] → es' = .nil) {pl : Sem Bool}
    (ht : eval (.Call (.Attribute o mn apos) es [] pos) X.env = (do
      let ov ← eval o X.env
      standAt apos.atName
      let (f, first) ← holding [ov] (getMethod ov mn pl)
      callWith pos f first (backTo pos (starEach es X.env)) (backToKw pos (keywordEach [] X.env)))) :
    PE X (.Call (.Attribute o mn apos) es [] pos) (tE M c W (.meth o' mn es')) :=
  PE.imp (pe_methA ho cc.room cc.pass ha hs (fun e σ H Q h => by rw [h0 e] at h; exact tEs_nil rfl σ H Q h) ht) fun σ H Q ⟨ρ, S, m, re, rs, p⟩ => by
    simp only [E.den] at p
    refine ⟨ρ, S, m, re, rs, p.bind fun x S1 m1 H1 u e1 x1 rs1 r1 p1 => ?_⟩
    cases r1 with
    | @cell n ad hc =>
      obtain ⟨o0, e2, ro⟩ := rs1.at hc
      simp only [e2] at p1
      cases o0 with
      | ins C fs =>
        dsimp only at p1
        split at p1
        · rename_i hb
          obtain ⟨C', dx, gs, h1, h2, ⟨h3, h4⟩, h5, h6⟩ := ro
          obtain ⟨Ca, f, g1, g2, g3, F⟩ := cc.mt C mn hb.2
          rw [h1] at g1
          cases g1
          rw [g.K]
          refine ⟨ad, C', dx, gs, f, rfl, h2, g2, g3, ?_, ρ, S1, m1, re.mono x1, rs1, p1.bind fun vs S2 m2 H2 us e3 x2 rs2 r2 p2 => ?_⟩
          · have key : ∀ {fs : List (Str × PV)} {gs : List (Str × V)}, fs.map (·.1) = gs.map (·.1) → fs.lookup mn = none → gs.lookup mn = none := by
              intro fs
              induction fs with
              | nil => intro gs h _; cases gs with
                | nil => rfl
                | cons _ _ => simp at h
              | cons p fs ih => intro gs h hl; cases gs with
                | nil => simp at h
                | cons q gs =>
                  obtain ⟨k1, v1⟩ := p
                  obtain ⟨k2, v2⟩ := q
                  simp only [List.map_cons, List.cons.injEq] at h
                  obtain ⟨rfl, h⟩ := h
                  rw [List.lookup_cons] at hl ⊢
                  cases hb : mn == k1 with
                  | true => rw [hb] at hl; cases hl
                  | false => rw [hb] at hl; exact ih h hl
            exact key h5 (Option.isNone_iff_eq_none.mp hb.1)
          · have p3 := fin_post rs2 p2
            exact fn_callP (j := 0) g (Nat.le_refl _) F (RepL.cons (.cell (x2.at hc)) r2) rs2 (by rw [List.drop_nil, List.append_nil]; exact p3)
        · exact False.elim p1
      | _ => exact False.elim p1
    | _ => exact False.elim p1
theorem s_make (g : Gd M X) (cc : Calls M X W c dflt k) (ha : PA X (a :: es) (tEs M c W es')) (hs : ∀ e ∈ a :: es, isStar e = false) (hg : Gl X C) (hdb : (C == ("__debug__" : Str)) = false) (hC : c.has C "__init__" = true) :
    PE X (.Call (.Name C p) (a :: es) [] pos) (tE M c W (.make C es')) := by
  by_cases hmk : c.mks = true
  case neg =>
    refine ⟨fun pins s σ H Q I ⟨ρ, S, m, re, rs, p⟩ => ?_⟩
    simp only [E.den] at p
    rw [if_pos (by simpa using hmk)] at p
    exact False.elim p
  obtain ⟨Ca, f, k', hk, hm, cls, mk, F⟩ := cc.mke C hmk hC
  exact PE.imp (pe_makeA hk (by rw [g.K]; exact mk) cc.room cc.pass ha hs hg (by rw [g.mg]; exact hm) hdb) fun σ H Q ⟨ρ, S, m, re, rs, p⟩ => by
    simp only [E.den] at p
    rw [if_neg (by rw [hmk]; decide)] at p
    refine ⟨ρ, S, m, re, rs, p.bind fun vs S1 m1 H1 us e1 x1 rs1 r1 p1 => ?_⟩
    obtain ⟨fd, ps, _, F, hn, hb⟩ := F.ex
    obtain ⟨dvs, dsv, b1, b2, b3⟩ := hb 0 (Nat.le_refl _)
    have bd : dvs = [] := by
      have := b3 m1 H1
      cases this; rfl
    rw [← g.K, ← g.mg] at F
    rw [← g.K] at b1
    refine ⟨fd, ps, _, dvs, dsv, F, b1, b2, fun x dx hx hdx ne => ?_⟩
    subst bd
    rw [List.append_nil]
    -- the new instance
    have hx' : upd H1 dx (.own x) x = none := by rw [upd_ne (Ne.symm ne)]; exact hx
    have exD : Ext m1 m1 H1 (upd H1 dx (.own x)) := Ext.new rs1.there hdx
    have rsD := rs1.new (o := .own x) hdx
    have exI : Ext m1 (m1.add x) (upd H1 dx (.own x)) (upd (upd H1 dx (.own x)) x (.ins Ca dx [])) := Ext.newCell rsD.there hx'
    have rsI : RepS M (m1.add x) (upd (upd H1 dx (.own x)) x (.ins Ca dx [])) (S1 ++ [.ins C []]) := rsD.newCell hx' ⟨Ca, dx, [], hm, upd_same, ⟨cls, by simp⟩, rfl, .nil⟩
    have ex2 := exD.trans exI
    have rself : Rep M (m1.add x) (upd (upd H1 dx (.own x)) x (.ins Ca dx [])) (.cell S1.length) (.ref x) := .cell (by rw [← rs1.len]; simp [Mp.add])
    refine sp_of hn (RepL.cons rself (r1.mono ex2)) rsI (fin_post rsI ?_)
    cases ed : (c.init C (.cell S1.length :: vs) (S1 ++ [.ins C []])).fin (S1 ++ [.ins C []]) with
    | ok v S2 =>
      rw [ed] at p1
      intro m2 H2 u x2 rs2 ru
      cases v with
      | non =>
        cases ru
        exact ⟨rfl, p1 m2 H2 (.ref x) (ex2.trans x2) rs2 (rself.mono x2)⟩
      | _ => exact False.elim p1
    | exc cl v S2 =>
      rw [ed] at p1
      exact fun m2 H2 cls d x2 rs2 ex => p1 m2 H2 cls d (ex2.trans x2) rs2 ex
    | out => rw [ed] at p1; exact False.elim p1
end
end Pz
end
section
set_option Elab.async false
set_option linter.all false
set_option maxRecDepth 100000
set_option maxHeartbeats 2000000
/-! Pz: own errors whose __init__ says super().__init__(text); self.f = f. -/
namespace Pz
open PySem PySem.W PySem.Calls PyProof.Rows PySem.HandSPX
/-- the parameters' names, bound -/
def errB (x : Addr) (fld : Str) (v : Value) : List (Str × Value) := [("self", .ref x), (fld, v)]
def errBody (fld text : Str) (j : Nat) (p0 p1 p2 p3 p4 p5 p6 p7 p8 p9 : Pos) : List Stmt :=
  [.Expr (.Call (.Attribute (.Call (.Name "super" p0) [] [] p1) "__init__" p2) [.Constant (.str text) j p3] [] p4) p5, .Assign [.Attribute (.Name "self" p6) fld p7] (.Name fld p8) p9]
/-- what the written part says of such a class, at C, and of its __init__, at fI -/
structure ErrTxt (prog : Program) (K : Frag) (mg : Str → Option Value) (C fI : Addr) (fld : Str) : Prop where
  cls : ∃ nm q N bs bm sn sub ab col dd k0 k1 k2 k3 k5, K.lookup C = some (excClassObj nm q C N bs bm true sn sub ab col dd k0 k1 k2 k3 k5 "ValueError.__new__") ∧ refsVE bm = true
  sa : findIn K (.ref C) "__setattr__" = some (some (.builtin "object.__setattr__"))
  ga : findIn K (.ref C) "__getattribute__" = some (some (.builtin "BaseException.__getattribute__"))
  gg : findIn K (.ref C) "__getattr__" = some none
  noN : findIn K (.ref C) fld = some none
  iC : findIn K (.ref C) "__init__" = some (some (.ref fI))
  tC : typeIn K (.ref fI) = some (.type "function")
  kC : keepIn K (.ref C) = true
  exC : subIn K (.ref C) (.type "BaseException") = some true
  tyC : typeIn K (.ref C) = some (.type "type")
  hdC : hasDictIn K C = true
  sup : ks_superIn K C C "__init__" = some (some (.builtin "ValueError.__init__"))
  sb : subIn K (.ref C) (.type "ValueError") = some true
  mr : mroIn K C (.ref C) = some true
  op : nsIn K cStatics "thirdparty.any" = some none
  su : mg "super" = none
  top : (prog.main.scope.names.lookup ("super" : Str)).isSome = false
  fn : ∃ (oc : Value) (od : Option Addr) (qual : Str) (params : Arguments) (text : Str) (j : Nat) (p0 p1 p2 p3 p4 p5 p6 p7 p8 p9 : Pos) (scope : Scope) (kV doc pm : Value) (an : Option Addr) (cda cc : Addr) (ct : Value) (osl : Array (Option Value)) (ar : Arg)
      (ccl cl : Value) (cdd cld : Option Addr) (vs : Array Value) (ccs csl : Array (Option Value)) (file : Str) (tf : Tok),
    K.lookup fI = some ⟨oc, od, .func (ksFn "__init__" qual params (errBody fld text j p0 p1 p2 p3 p4 p5 p6 p7 p8 p9) scope .none kV doc pm an (.ref cda) ct cc), osl⟩ ∧ codeIn K (.ref cda) qual = true ∧
    (params.posonlyargs ++ params.args).head? = some ar ∧ ar.arg = "self" ∧ K.lookup cda = some ⟨ccl, cdd, .fields vs, ccs⟩ ∧ vs[2]? = some (.str file tf) ∧ ((prog.main.file : Str) == file) = true ∧ K.lookup cc = some ⟨cl, cld, .cell (some (.ref C)), csl⟩ ∧
    (∀ (s : Shared) (x : Addr) (v : Value), BindsTo s (ksFn "__init__" qual params (errBody fld text j p0 p1 p2 p3 p4 p5 p6 p7 p8 p9) scope .none kV doc pm an (.ref cda) ct cc) ⟨[.ref x, v], []⟩ (errB x fld v)) ∧
    (∀ y ∈ scope.names, y.2 ≠ .cell) ∧ scope.names.lookup ("self" : Str) = some .local ∧ scope.names.lookup fld = some .local ∧ scope.names.lookup ("super" : Str) = some .globalImplicit ∧ scope.names.lookup ("__class__" : Str) = some .free ∧
    scope.isCoroutine = false ∧ scope.isGenerator = false ∧ scope.kind = .function ∧ (fld == ("self" : Str)) = false ∧ (fld == ("__debug__" : Str)) = false ∧ (fld == ("__class__" : Str)) = false ∧ (p2.endLine == p4.line) = true
/-- what __init__ leaves of a fresh error at x -/
structure InitEnd (h h' : Heap) (x C dx t1 : Addr) (fld : Str) (v : Value) : Prop where
  keep : ∀ b o, b ≠ x → h.get? b = some o → h'.get? b = some o
  obj : h'.get? x = some { cls := .ref C, dict := some dx, data := .fields #[.ref t1, .none, .none, .none, .bool false, .none] }
  dbig : h.objs.size ≤ dx
  dne : dx ≠ x
  ns : h'.Ns1 dx (fun y => if y = fld then some v else none)
/-- a method call's form -/
theorem eval_meth {o : Expr} {name : Str} {apos pos : Pos} {args : List Expr} {env : PySem.Env} (few : methodCallForm args.length (backTo pos (starEach args env)) [] = true) (hl : (apos.endLine == pos.line) = true) :
    eval (.Call (.Attribute o name apos) args [] pos) env = (do
      let ov ← attributeBase o name env (eval o env)
      standAt apos.atName
      let (f, first) ← holding [ov] (getMethod ov name (do return (← importBound o env).getD true))
      callWith pos f first (backTo pos (starEach args env)) []) := by
  have hp : methodCallPos true o env apos pos = pure pos := by unfold methodCallPos; simp [hl]
  rw [arm_eval_Call]
  show (do
    let ov ← attributeBase o name env (eval o env)
    standAt apos.atName
    methodCall o name apos pos env ov args.length (backTo pos (starEach args env)) []) = _
  simp only [methodCall, few, hp, calleeOf, if_true, pure_bind]
section
variable {prog : Program} {w : World} {A : Around} {E : Value → Shared → Prop} {R : Result → Shared → Prop} {s : Shared} {K : Frag} {mg : Str → Option Value} {C fI : Addr} {fld : Str}
/-- super().__init__ called -/
theorem call_mwV {h : Heap} {g : Array GenState} {d : Drawn} {t : Nat} {os : OsState} {nm q : Str} {N : Addr} {bs bm : List Value} {hdct : Bool} {sn : List Str} {sub : List Value} {ab : Bool} {col : Option Bool} {dd : Option Addr} {k0 k1 k2 k3 k5 : Option Value}
    {u e t0 : Addr} {rest : List Value} {Q : Value → Shared → Prop}
    (hC : h.get? C = some (excClassObj nm q C N bs bm hdct sn sub ab col dd k0 k1 k2 k3 k5 "ValueError.__new__")) (he : h.get? e = some (excO C t0)) (hu : h.get? u = some (kxs_mw "ValueError.__init__" e)) (hrest : rest.length ≤ sizeLine)
    (hq : ∀ h' t1, (∀ b o, b ≠ e → h.get? b = some o → h'.get? b = some o) → h'.get? e = some (excO C t1) → Q .none ⟨h', g, d, t, os⟩) :
    wpAny (model prog w) A (call (.ref u) rest) Q E ⟨h, g, d, t, os⟩ := by
  refine wpAny_call (codeAny_of_tree ?_)
  show wpAny _ A.in1 (callAny (.ref u) ⟨rest, []⟩) _ _ _
  simp only [callAny]
  refine wpAny_bind (wpAny_load hu ?_)
  simp only [kxs_mw, show (Value.type "method-wrapper" == Value.type "method" || Value.type "method-wrapper" == Value.type "builtin_function_or_method" || Value.type "method-wrapper" == Value.type "method-wrapper") = true by decide, if_true]
  refine W.KFB.if_so (by decide) ?_
  refine wpAny_bind (ESX.check_bound F.excBase_ValueError hC he rfl ?_)
  refine wpAny_bind (wpAny_pure (wpAny_pure ?_))
  refine ⟨Code.quiet_builtin _ (by decide +kernel), codeAny_builtin F.excBase_ValueError.initEntry ?_⟩
  rw [Around.under_plainId F.excBase_ValueError.init.plain _]
  wp_walk
  refine hq _ h.objs.size (fun b o hb ho => ?_) ?_
  · rw [Heap.get?_update_other _ _ (Ne.symm hb)]
    exact Heap.get?_push_of_some _ ho
  · rw [Heap.get?_update_self _ (Heap.get?_push_of_some _ he) rfl]
    rfl
theorem kept_but {h h' : Heap} {x : Addr} (X : K.In h) (hx : K.lookup x = none) (k : ∀ b o, b ≠ x → h.get? b = some o → h'.get? b = some o) : K.In h' := fun a o e =>
  k a o (fun z => by rw [z, hx] at e; cases e) (X a o e)
theorem ns_but {h h' : Heap} {x L : Addr} {m : Str → Option Value} (n : h.Ns L m) (hx : L ≠ x) (k : ∀ b o, b ≠ x → h.get? b = some o → h'.get? b = some o) : h'.Ns L m := by
  obtain ⟨o, es, ep, e, r⟩ := n
  exact ⟨o, es, ep, k _ _ hx e, r⟩
theorem err_init (T : ErrTxt prog K mg C fI fld) {x t0 : Addr} {v : Value} (X : K.In s.heap) (G : s.heap.Ns mainGlobals mg) {mb : Str → Option Value} (B : s.heap.Ns builtinsNs mb) (hmb : mb "super" = some (.type "super")) (hlim : s.heap.NoLimit)
    (hx : s.heap.get? x = some (excO C t0)) (hnx : K.lookup x = none) (hroom : A.depth < recursionLimit)
    (hq : ∀ h' tk dx t1, InitEnd s.heap h' x C dx t1 fld v → R (.ok (.ret .none)) { s with heap := h', toks := tk }) :
    codeAny (model prog w) A (.call (.ref fI) ⟨[.ref x, v], []⟩) R s := by
  obtain ⟨oc, od, qual, params, text, j, p0, p1, p2, p3, p4, p5, p6, p7, p8, p9, scope, kV, doc, pm, an, cda, cc, ct, osl, ar, ccl, cl, cdd, cld, vs, ccs, csl, file, tf, ho, hcd, hpar, har, hcode, hvs, hfile, hcell, hbind, hnc, l1, l2, l3, l4, hco, hgen, hk, f1, f2, f3, f4⟩ := T.fn
  obtain ⟨nm, q, N, bs, bm, sn, sub, ab, col, dd, k0, k1, k2, k3, k5, hC, hbm⟩ := T.cls
  have hcl : clsIn K C = some { name := nm, bases := bs, mro := .ref C :: bm, ns := N, qualname := q, hasDict := true, slotNames := sn, subclasses := sub, abstract := ab, collection := col, hasDel := false } := by unfold clsIn; rw [hC] <;> rfl
  refine ks_codeAny_call_defAt (fd := ksFn "__init__" qual params (errBody fld text j p0 p1 p2 p3 p4 p5 p6 p7 p8 p9) scope .none kV doc pm an (.ref cda) ct cc) (body := errBody fld text j p0 p1 p2 p3 p4 p5 p6 p7 p8 p9) (binds := errB x fld v) hroom (X _ _ ho) rfl hlim (codeRec_of X hcd) rfl (hbind s x v) hnc
    (fun y hy => by
      have : y = ((("self" : Str), Value.ref x) : Str × Value) ∨ y = (fld, v) := by simpa [errB] using hy
      rcases this with e | e
      · rw [e]; exact l1
      · rw [e]; exact l2) (fun h1 hns kp => ?_) hco hgen hk
  have X1 : K.In h1 := X.keeps kp
  have hx1 := kp _ _ hx
  have hL : s.heap.objs.size ≠ x := Nat.ne_of_gt (Heap.lt_size hx)
  have vself : (errB x fld v).reverse.lookup ("self" : Str) = some (.ref x) := by
    show List.lookup ("self" : Str) [(fld, v), (("self" : Str), Value.ref x)] = _
    have e : (("self" : Str) == fld) = false := by
      rw [beq_eq_false_iff_ne] at f1 ⊢
      exact fun z => f1 z.symm
    rw [List.lookup_cons, e]
    simp [List.lookup]
  have vfld : (errB x fld v).reverse.lookup fld = some v := by
    show List.lookup fld [(fld, v), (("self" : Str), Value.ref x)] = _
    simp [List.lookup]
  have gd : s.heap.objs.size < h1.objs.size := hns.lt
  obtain ⟨hp, g, d, tk, os⟩ := s
  show PySem.wpAt _ _ _ (execs _ _) _ _ _
  -- super().__init__(text)
  have hint : interactive (callEnv (ksFn "__init__" qual params (errBody fld text j p0 p1 p2 p3 p4 p5 p6 p7 p8 p9) scope .none kV doc pm an (.ref cda) ct cc) hp.objs.size fI) = false := by
    unfold interactive
    have e : (callEnv (ksFn "__init__" qual params (errBody fld text j p0 p1 p2 p3 p4 p5 p6 p7 p8 p9) scope .none kV doc pm an (.ref cda) ct cc) hp.objs.size fI).scope.kind = .function := hk
    simp [e]
  refine ks_wpAt_execs_cons (ks_wpAt_Expr_any ?_ hint rfl)
  refine ks_wpAt_MethodCall (he := eval_meth rfl f4) ?_
  refine ks_wpAt_super_base l3 l4 (by decide) rfl (X1 _ _ ho) rfl hpar rfl (X1 _ _ hcode) rfl hvs hfile T.top ?_
  refine ks_loadName_global hk l3 (loadGlobal_builtin (G.keeps kp) T.su (B.keeps kp) hmb ⟨rfl, ?_⟩)
  refine wpAny_loadName_free hk l4 rfl ⟨_, X1 _ _ hcell, rfl⟩ ?_
  rw [har]
  refine wpAny_loadName_local hk l1 hns vself ?_
  refine ks_wpAny_isType_cls (X1 _ _ hC) rfl ⟨rfl, ?_⟩
  refine ks_wpAny_call_super (X1 _ _ hC) rfl hx1 rfl (fun c e => by cases e) (looks_mroIn X1 T.mr) fun h2 e2 kp2 => ?_
  have X2 : K.In h2 := X1.keeps kp2
  have hx2 := kp2 _ _ hx1
  have hns2 := hns.keeps kp2
  have xC : x ≠ C := fun z => by rw [z, hC] at hnx; cases hnx
  have hsup := T.sup
  unfold ks_superIn at hsup
  rw [hcl] at hsup
  have I2 : InstAt h2 x (excO C t0) C none := ⟨hx2, rfl, rfl, trivial⟩
  refine kxs_getMethod kxs_ValueError e2 (looks_opaque X2 T.op) (l₀ := .ref C :: bm) ((looks_clsIn X2 hcl).andThen .now) rfl X2 hsup (I2.type.andThen (looks_subIn X2 T.sb)) xC (by decide) ?_
  -- the wrapper
  have kp3 : ∀ b o, h2.get? b = some o → (h2.push (kxs_mw "ValueError.__init__" x)).get? b = some o := fun b o e => Heap.get?_push_of_some _ e
  have hu3 : (h2.push (kxs_mw "ValueError.__init__" x)).get? h2.objs.size = some (kxs_mw "ValueError.__init__" x) := Heap.get?_push_size _ rfl
  refine kxs_callWith (i := "ValueError.__init__") (x := x) rfl ?_
  refine evalArgs_plain ?_
  refine Calls.spliced_cons (Calls.Constant_str (k := j) (pos := p3) (Calls.spliced_nil ⟨hu3, ?_⟩))
  refine call_mwV (X2.keeps kp3 _ _ hC) (kp3 _ _ hx2) hu3 (by show 1 ≤ sizeLine; decide) fun h4 t1 kp4 hx4 => ?_
  -- self.f = f
  have kpA : ∀ b o, b ≠ x → h1.get? b = some o → h4.get? b = some o := fun b o hb e => kp4 b o hb (kp3 b o (kp2 b o e))
  have X4 : K.In h4 := kept_but (X2.keeps kp3) hnx kp4
  have hns4 := ns_but (hns2.keeps kp3) hL kp4
  show PySem.wpAt _ _ _ (execs _ _) _ _ _
  refine ks_wpAt_execs_cons (ks_wpAt_Assign_Attr ?_ rfl)
  refine wpAt_of_wpAny (wpAny_Name (wpAny_loadName_local hk l2 hns4 vfld ?_) f2)
  refine wpAny_Name (wpAny_loadName_local hk l1 hns4 vself ?_) (by decide)
  refine set_plain X4 (ox := excO C t1) (od := none) ⟨hx4, rfl, rfl, trivial⟩ T.sa ?_
  refine exc_osa X4 hx4 hcl (show refsVE (.ref C :: bm) = true from hbm) rfl T.noN (fun h5 tk5 dx kp5 dn dne hx5 hn5 => ?_)
  show PySem.wpAt _ _ _ (execs _ _) _ _ _
  refine wpAt_of_wpAny (wpAny_execs_nil ?_)
  refine hq h5 tk5 dx t1 ⟨fun b o hb e => kp5 b o hb (kpA b o hb (kp b o e)), hx5, ?_, dne, hn5⟩
  have z1 : h4.get? hp.objs.size ≠ none := by
    obtain ⟨oL, _, _, eL, _⟩ := hns4
    rw [eL]; exact fun z => by cases z
  have z2 : hp.objs.size < h4.objs.size := by
    cases e : h4.get? hp.objs.size with
    | none => exact absurd e z1
    | some o => exact Heap.lt_size e
  exact Nat.le_of_lt (Nat.lt_of_lt_of_le z2 dn)
end
end Pz
end
section
set_option Elab.async false
set_option linter.all false
set_option maxRecDepth 100000
set_option maxHeartbeats 2000000
/-! Pz: own errors made and raised. -/
namespace Pz
open PySem PySem.W PySem.Calls PyProof.Rows PySem.HandSPX
/-- a made error -/
structure OwnMade (h h' : Heap) (e C d : Addr) (fld : Str) (v : Value) : Prop where
  keep : ∀ b o, h.get? b = some o → h'.get? b = some o
  new : h.objs.size ≤ e
  obj : ∃ oe vs, h'.get? e = some oe ∧ oe.cls = .ref C ∧ oe.dict = some d ∧ oe.data = .fields vs ∧ vs[1]? = some .none ∧ vs[2]? = some .none
  dbig : h.objs.size ≤ d
  dne : d ≠ e
  ns : h'.Ns1 d (fun y => if y = fld then some v else none)
section
variable {prog : Program} {w : World} {A : Around} {E : Value → Shared → Prop} {R : Result → Shared → Prop} {s : Shared} {K : Frag} {mg : Str → Option Value} {C fI : Addr} {fld : Str}
theorem err_made (T : ErrTxt prog K mg C fI fld) {v : Value} (X : K.In s.heap) (G : s.heap.Ns mainGlobals mg) {mb : Str → Option Value} (B : s.heap.Ns builtinsNs mb) (hmb : mb "super" = some (.type "super")) (hlim : s.heap.NoLimit) (hroom : A.depth + 1 < recursionLimit)
    (hq : ∀ h' tk e d, OwnMade s.heap h' e C d fld v → R (.ok (.ret (.ref e))) { s with heap := h', toks := tk }) :
    codeAny (model prog w) A (.call (.ref C) ⟨[v], []⟩) R s := by
  obtain ⟨nm, q, N, bs, bm, sn, sub, ab, col, dd, k0, k1, k2, k3, k5, hC, hbm⟩ := T.cls
  obtain ⟨hp, g, dr, tk, os⟩ := s
  have k : ∀ b o, hp.get? b = some o → ((hp.push (kdv_tup [v])).push (excO C hp.objs.size)).get? b = some o := fun b o e => Heap.get?_push_of_some _ (Heap.get?_push_of_some _ e)
  have hget : ((hp.push (kdv_tup [v])).push (excO C hp.objs.size)).get? (hp.objs.size + 1) = some (excO C hp.objs.size) := by heap_get
  have hnx : K.lookup (hp.objs.size + 1) = none := by
    cases e : K.lookup (hp.objs.size + 1) with
    | none => rfl
    | some o =>
      have z : hp.get? (hp.objs.size + 1) = some o := X _ _ e
      exact absurd (Nat.lt_of_succ_lt (Heap.lt_size z)) (Nat.lt_irrefl _)
  refine call_own F.excBase_ValueError (fun X => refsVE_contains X bm hbm) (X _ _ hC) (looks_findIn X T.iC) (fun self => bind_fn X self T.tC) (by show 1 ≤ sizeLine; decide) ?_
  refine err_init (s := ⟨(hp.push (kdv_tup [v])).push (excO C hp.objs.size), g, dr, tk, os⟩) T (X.keeps k) (G.keeps k) (B.keeps k) hmb (hlim.keeps k) hget hnx ?_ fun h' tk' dx t1 ⟨k', hx, dn, dne, hns⟩ => ?_
  · show A.depth + 1 < recursionLimit
    exact hroom
  · have old : ∀ b o, hp.get? b = some o → h'.get? b = some o := fun b o e => k' b o (Nat.ne_of_lt (Nat.lt_succ_of_lt (Heap.lt_size e))) (k b o e)
    have z : hp.objs.size + 1 + 1 ≤ dx := by
      first
        | (simpa only [Heap.size_push] using dn)
        | exact dn
        | (have q := dn; rw [Heap.size_push, Heap.size_push] at q; exact q)
    exact ⟨rfl, hq h' tk' (hp.objs.size + 1) dx ⟨old, Nat.le_succ _, ⟨_, _, hx, rfl, rfl, rfl, rfl, rfl⟩, Nat.le_trans (Nat.le_trans (Nat.le_succ _) (Nat.le_succ _)) z, dne, hns⟩⟩
end
open PySem.Spec L2
theorem relO_one {v : V} {v' : Value} (r : RelV v v') (fld f : Str) : RelO (List.lookup f [(fld, v)]) (if f = fld then some v' else none) := by
  by_cases hw : f = fld
  · subst hw
    rw [if_pos rfl]
    have q : List.lookup f [(f, v)] = some v := by simp [List.lookup]
    rw [q]
    exact r
  · rw [if_neg hw]
    have qw : (f == fld) = false := by simpa using hw
    have q2 : List.lookup f [(fld, v)] = none := by simp [List.lookup, qw]
    rw [q2]
    trivial
section
variable {X : Cx} {C fI : Addr} {fld x : Str}
/-- C(e) -/
def tMkErr (C : Addr) (fld : Str) (ta : TE) : St' → Hp → XK → Prop := fun σ H Q => ta σ H fun v H1 => ∀ d, H1 d = none → Q (.ref C) (some d) (upd H1 d (.xd [(fld, v)]))
theorem pmk_err {a : Expr} {ta : TE} {p pos : Pos} {k : Nat} (T : ErrTxt X.prog X.K X.mg C fI fld) (gC : X.mg x = some (.ref C)) (hr : Room k X.A) (ha : PE X a ta) (hg : Gl X x) (hdb : (x == ("__debug__" : Str)) = false) (hs : isStar a = false) :
    L2N.PMk X (.Call (.Name x p) [a] [] pos) (tMkErr C fld ta) := by
  intro pins s σ H Q I h
  refine wpAny_Call_Name_kw (ld_glob I hg gC ?_ hdb)
  refine PySem.W.callWith_K (h₀ := X.base) I.ok.mod.kin T.kC (thn ((pa_cons ha pa_nil (starEach_cons hs)).run pos pins s σ H (fun vs H1 => ∃ v, vs = [v] ∧ ∀ d, H1 d = none → Q (.ref C) (some d) (upd H1 d (.xd [(fld, v)]))) I ?_) fun us s1 hh => ?_) (starEach_cons hs) (any_star (by simp))
  · show ta σ H fun v H1 => tNil σ H1 fun vs H2 => _
    have e : (fun v H1 => ∀ d, H1 d = none → Q (.ref C) (some d) (upd H1 d (.xd [(fld, v)]))) = fun (v : V) (H1 : Hp) => tNil σ H1 fun vs H2 => ∃ v', v :: vs = [v'] ∧ ∀ d, H2 d = none → Q (.ref C) (some d) (upd H2 d (.xd [(fld, v')])) := by
      funext v H1
      refine propext ⟨fun z => ⟨v, rfl, z⟩, fun ⟨v', e, z⟩ => ?_⟩
      cases e; exact z
    rw [← e]
    exact h
  · obtain ⟨vs, H1, I1, r1, v, ev, q1⟩ := hh
    subst ev
    refine ⟨I1.kIn, ?_⟩
    cases r1 with
    | cons rv rn =>
      rename_i v' us'
      cases rn
      show wpAny _ _ (call (.ref C) [v']) _ _ _
      have hlim := I1.nolimit
      obtain ⟨mb, hb1, hb2⟩ := I1.mod.blt
      have hmb : mb "super" = some (.type "super") := (hb2 _ (by decide)).trans (by decide +kernel)
      have G1 := I1.mod.glob.keeps I1.bk
      have B1 := hb1.keeps I1.bk
      obtain ⟨hp, g, dr, tk, os⟩ := s1
      refine wpAny_call (err_made T I1.kIn G1 B1 hmb hlim (by have := hr.dp; omega) fun h' tk' e d M => ?_)
      show L2N.MkP X pins σ Q (.ref e) ⟨h', g, dr, tk', os⟩
      obtain ⟨oe, fv, hoe, hc, hd, hdat, h1, h2⟩ := M.obj
      have hns := M.ns
      obtain ⟨G', g1, g2⟩ := restrict h' fun b => decide (b ≠ e)
      have gk : ∀ b, b ≠ e → G'.get? b = h'.get? b := fun b hb => g1 b (decide_eq_true hb)
      have ge : G'.get? e = none := g2 e (by simp)
      have old : ∀ b o, hp.get? b = some o → G'.get? b = some o := fun b o q => (gk b (Nat.ne_of_lt (Nat.lt_of_lt_of_le (Heap.lt_size q) M.new))).trans (M.keep b o q)
      have ob : ObjOk X.prog X.w (upd H1 d (.xd [(fld, v)])) G' d (.xd [(fld, v)]) :=
        ⟨_, hns.at (fun o q => (gk d M.dne).trans q), fun f => relO_one rv fld f⟩
      have J : Inv X pins σ (upd H1 d (.xd [(fld, v)])) ⟨G', g, dr, tk', os⟩ := I1.laid (t' := tk') old M.dbig ob
      refine ⟨e, oe, fv, ⟨G', g, dr, tk', os⟩, _, .ref C, some d, rfl, J, fun b o q => ?_, ge, hoe, ⟨hc, hd, fun vs e => by rw [hdat] at e; cases e; exact h2⟩, hdat, h1, ?_, rfl, I1.bare, raises_own T.exC T.tyC, q1 d (I1.hok.fresh M.dbig)⟩
      · by_cases hb : b = e
        · have q' : G'.get? b = some o := q
          rw [hb, ge] at q'; cases q'
        · exact (gk b hb).symm.trans q
      · rw [upd_ne (Ne.symm M.dne)]
        exact I1.hok.fresh M.new
end
section
variable {M : Md} {m m' m1 m2 : Mp} {H H' H1 H2 : Hp} {S : Store} {X : Cx} {c : Cfg} {W : WX} {a : Expr} {a' : E} {p pos pos2 : Pos} {x : Str} {C fI : Addr} {k : Nat}
theorem s_rse (g : Gc M X) (tk : L2N.Takes X W) (T : ErrTxt X.prog X.K X.mg C fI (M.fld x)) (gC : M.mg x = some (.ref C)) (hr : Room k X.A) (ha : PE X a (tE M c W a')) (hg : Gl X x) (hdb : (x == ("__debug__" : Str)) = false) (hs : isStar a = false) :
    PS X (.Raise (some (.Call (.Name x p) [a] [] pos)) none pos2) (tS M c W (.rse x a')) :=
  PS.imp (L2N.ps_raise g.calm tk (pmk_err T (by rw [g.mg]; exact gC) hr ha hg hdb hs)) fun D σ H ⟨ρ, S, m, re, rs, p⟩ => by
    simp only [St.den] at p
    refine ⟨ρ, S, m, re, rs, p.onR re fun v S1 m1 H1 u e1 x1 rs1 r1 p1 => fun d hd => ?_⟩
    have ex : Ext m1 m1 H1 (upd H1 d (.xd [(M.fld x, u)])) := Ext.new rs1.there hd
    exact p1 m1 _ σ _ _ ex (rs1.new hd) ((re.mono x1).mono ex) ⟨C, d, u, gC, rfl, rfl, upd_same, rs1.notin hd, r1.mono ex⟩
end
end Pz
end
section
set_option Elab.async false
set_option linter.all false
set_option maxRecDepth 100000
set_option maxHeartbeats 2000000
/-! Pz: str(..), list.count and list.index of bools; an error in hand: isinstance, its field. -/
namespace Pz
open PySem PySem.Spec PyProof.Rows L2
section
variable {X : Cx}
theorem vals_bl : ∀ {bs : List Bool} {us : List Value}, Vals (bs.map V.bl) us → us = bs.map Value.bool
  | [], _, .nil => rfl
  | b :: bs, _, .cons r t => by
    cases r
    rw [vals_bl t]; rfl
def rCntB (K : PySem.W.Frag) : V → List V → Hp → VK → Prop := fun x xs H Q => ∃ (p : Addr) (bs : List Bool) (b : Bool), x = .ref p ∧ xs = [.bl b] ∧ SqL K H p (bs.map V.bl) ∧ Q (.int (bs.count b : Nat)) H
theorem mt_cntB : MtR X "list.count" (rCntB X.K) := by
  intro pins s σ H x xs v us Q I rx rxs h
  obtain ⟨p, bs, b, rfl, rfl, hs, q⟩ := h
  cases rx
  cases rxs with
  | cons ry rt =>
    rename_i uy ut
    cases rt
    obtain ⟨its, rv, ⟨⟨cls, dd, data, sl⟩, n, ho, hc, hdn, hd⟩, hlen⟩ := I.list hs
    simp only at hc hd
    subst hc hd
    have fys : (bs.map V.bl).all flatV = true := by
      rw [List.all_map, List.all_eq_true]
      intro x _; rfl
    refine call_meets PySem.F.slot_list_count ⟨_, ho, rfl⟩ PySem.F.entry_list_count (PySem.F.args_list_count_2 _ _)
      (SeqAt.list_countAt p its.toArray n dd sl uy (eqU (.bl b))) ⟨ho, fun u' hu' => mem_eqAt ry rfl rv fys u' (by simpa using hu'), ?_⟩
    have ec : its.toArray.toList.countP (eqU (.bl b)) = bs.count b := by
      have e := vals_bl rv
      subst e
      rw [List.count, List.countP_map]
      congr 1
    refine ⟨.int (bs.count b : Nat), H, I.tok _, ⟨s.toks, ?_⟩, q⟩
    show Value.int ((its.toArray.toList.countP (eqU (.bl b)) : Nat) : Int) s.toks = Value.int ((bs.count b : Nat) : Int) s.toks
    rw [ec]
end
section
variable {M : Md} {m m' m1 m2 : Mp} {H H' H1 H2 : Hp} {S : Store} {X : Cx} {c : Cfg} {W : WX} {a b : Expr} {a' b' : E} {p pos ap p2 : Pos} {x : Str} {j : Nat}
theorem s_str1 (g : Gd M X) (hg : Gl X "str") (ha : PE X a (tE M c W a')) (hs : isStar a = false) : PE X (.Call (.Name "str" p) [a] [] pos) (tE M c W (.str1 a')) :=
  PE.imp (pe_callTy (SkE.call_str_str.or call_str_int) hg (mem_blt g (by decide +kernel)) (by decide +kernel) (pa_cons ha pa_nil (starEach_cons hs)) (he := starEach_cons hs) (hpl := any_star (by simp))) fun σ H Q ⟨ρ, S, m, re, rs, p⟩ => by
    simp only [E.den] at p
    refine ⟨ρ, S, m, re, rs, p.bind fun x S1 m1 H1 u e1 x1 rs1 r1 p1 => ?_⟩
    cases r1 with
    | str l => exact .inl ⟨_, rfl, p1.ok0 rs1 (.str l)⟩
    | int i =>
      dsimp only at p1
      split at p1
      · rename_i h
        exact .inr ⟨i, rfl, h.1, p1.ok0 rs1 (.str h.2)⟩
      · exact False.elim p1
    | _ => exact False.elim p1
theorem s_cntB (g : Gd M X) {b0 : Bool} (ha : PE X a (tE M c W a')) (hn : nullCall a = false) (hl : (ap.endLine == pos.line) = true) : PE X (.Call (.Attribute a "count" ap) [.Constant (.bool b0) j p2] [] pos) (tE M c W (.cntB a' b0)) :=
  PE.imp (pe_bm PySem.F.plainAttrs_list PySem.F.slot_list_count PySem.F.type_list_count mt_cntB ha (pa_cons pe_bl pa_nil (starEach_cons rfl)) (base_of hn) (few1 rfl) hl (starEach_cons rfl) (any_star (by simp))) fun σ H Q ⟨ρ, S, m, re, rs, p⟩ => by
    simp only [E.den] at p
    refine ⟨ρ, S, m, re, rs, p.bind fun x S1 m1 H1 u e1 x1 rs1 r1 p1 => ?_⟩
    split at p1
    · rename_i xs exs
      split at p1
      · rename_i bs ebs
        obtain ⟨ad, vs, rfl, h1, l, h2⟩ := r1.listOf rs1 exs
        have e3 := h2.bools ebs
        subst e3
        exact ⟨tyV_lst h1, ad, bs, b0, rfl, rfl, by rw [g.K]; exact SqL.of h1, p1.ok0 rs1 (.int _)⟩
      · exact False.elim p1
    · exact False.elim p1
theorem eqV_bl {q b0 : Bool} : eqV (.bl q) (.bl b0) = decide (q = b0) := by cases q <;> cases b0 <;> rfl
theorem s_ixB (g : Gd M X) {b0 : Bool} (ha : PE X a (tE M c W a')) (hn : nullCall a = false) (hl : (ap.endLine == pos.line) = true) : PE X (.Call (.Attribute a "index" ap) [.Constant (.bool b0) j p2] [] pos) (tE M c W (.ixB a' b0)) :=
  PE.imp (pe_bm PySem.F.plainAttrs_list PySem.F.slot_list_index PySem.F.type_list_index mt_index ha (pa_cons pe_bl pa_nil (starEach_cons rfl)) (base_of hn) (few1 rfl) hl (starEach_cons rfl) (any_star (by simp))) fun σ H Q ⟨ρ, S, m, re, rs, p⟩ => by
    simp only [E.den] at p
    refine ⟨ρ, S, m, re, rs, p.bind fun x S1 m1 H1 u e1 x1 rs1 r1 p1 => ?_⟩
    split at p1
    · rename_i xs exs
      split at p1
      · rename_i bs ebs
        split at p1
        · rename_i i ei
          obtain ⟨ad, vs, rfl, h1, l, h2⟩ := r1.listOf rs1 exs
          have e3 := h2.bools ebs
          subst e3
          obtain ⟨q1, q2, q3⟩ := List.findIdx?_eq_some_iff_getElem.mp ei
          refine ⟨tyV_lst h1, ad, bs.map V.bl, .bl b0, i, .bl bs[i], rfl, rfl, by rw [g.K]; exact SqL.of h1, rfl, ?_, ?_, ?_, fun k z hk e => ?_, p1.ok0 rs1 (.int _)⟩
          · rw [List.all_map, List.all_eq_true]; intro x _; rfl
          · rw [List.getElem?_map, List.getElem?_eq_getElem q1]; rfl
          · rw [eqV_bl]; exact q2
          · rw [List.getElem?_map] at e
            obtain ⟨y, ey, rfl⟩ := Option.map_eq_some_iff.mp e
            obtain ⟨hlt, ey⟩ := List.getElem?_eq_some_iff.mp ey
            rw [eqV_bl]
            have := q3 k hk
            simpa [ey] using this
        · exact False.elim p1
      · exact False.elim p1
    · exact False.elim p1
/-! ### the error in hand -/
/-- it is pinned, as M says -/
structure HotOk (M : Md) (X : Cx) (a C dd : Addr) (y : Str) : Prop where
  hot : M.hot = some (a, C, dd, y)
  pin : ∃ oe : Obj, (a, oe) ∈ X.pn ∧ oe.cls = .ref C ∧ oe.dict = some dd ∧ ∃ vs, oe.data = .fields vs
/-- what an own error class must say -/
structure ErrC (K : PySem.W.Frag) (D : Addr) : Prop where
  hg : PySem.W.findIn K (.ref D) "__getattribute__" = some (some (.builtin "BaseException.__getattribute__"))
  hk : PySem.W.findIn K (.ref D) "__getattr__" = some none
  hs : PySem.W.subIn K (.ref D) (.type "BaseException") = some true
  hd : PySem.W.hasDictIn K D = true
  ha : PySem.W.findIn K (.ref D) "__class__" = some (some (.builtin "object.__class__"))
  hn : PySem.W.specialIn K (.builtin "object.__class__") "__get__" = some (some (.builtin "getset_descriptor.__get__"))
  ht : PySem.W.takesIn K (.builtin "object.__class__") = some true
  hm : PySem.W.mroIn K D (.type "object") = some true
theorem xd_at {pins : List (Addr × Obj)} {σ : St'} {s : Shared} {dd : Addr} {fs : List (Str × V)} (I : Inv X pins σ H s) (h : H dd = some (.xd fs)) : ∃ mA, s.heap.Ns1 dd mA ∧ ∀ f, RelO (fs.lookup f) (mA f) := by
  have hx : ObjOk X.prog X.w H s.heap dd (.xd fs) := I.hok dd _ h
  exact hx
theorem inst_hot {pins : List (Addr × Obj)} {σ : St'} {s : Shared} {a C dd : Addr} {fs : List (Str × V)} {y : Str} (h : HotOk M X a C dd y) (I : Inv X pins σ H s) (hd : H dd = some (.xd fs)) :
    ∃ (oe od : Obj) (mA : Str → Option Value), PySem.W.InstAt s.heap a oe C (some od) ∧ (∀ name, PySem.W.lookIn name od = some (mA name)) ∧ ∀ f, RelO (fs.lookup f) (mA f) := by
  obtain ⟨oe, hp, h1, h2, vs, h3⟩ := h.pin
  obtain ⟨hget, _⟩ := I.pin (a, oe) (List.mem_append.mpr (.inl hp))
  obtain ⟨mA, hns, hr⟩ := xd_at I hd
  obtain ⟨od, ho, hl⟩ := lookIn_ns hns
  exact ⟨oe, od, mA, ⟨hget, h1, by unfold PySem.W.notCls; rw [h3] <;> rfl, by rw [h2]; exact ho⟩, hl, hr⟩
/-- isinstance(error, Cl) -/
theorem s_instE (g : Gd M X) {a0 C dd Cl : Addr} {cl : Str} {y : Str} (h : HotOk M X a0 C dd y) (ec : ErrC M.K C) (hg : Gl X "isinstance") (hg2 : Gl X cl) (hdb : (cl == ("__debug__" : Str)) = false) (hcl : M.mg cl = some (.ref Cl)) (hk : PySem.W.kitOne M.K (.ref C) (.ref Cl) = some (decide (cl ∈ y :: c.sub y)))
    (ha : PE X a (tE M c W a')) (hs : isStar a = false) : PE X (.Call (.Name "isinstance" p) [a, .Name cl p2] [] pos) (tE M c W (.instE a' cl)) := by
  have hcl' : X.mg cl = some (.ref Cl) := by rw [g.mg]; exact hcl
  refine ⟨fun pins s σ H Q I ⟨ρ, S, m, re, rs, q⟩ => ?_⟩
  simp only [E.den] at q
  refine (pe_callB (r := fun xs H Q => ∃ v, xs = [V.ref a0, V.ref Cl] ∧ (∃ fs, H dd = some (.xd fs)) ∧ v = decide (cl ∈ y :: c.sub y) ∧ Q (.bl v) H) (id := "isinstance") ?_ hg (mem_blt g (by decide +kernel)) (by decide +kernel) (pa_cons ha (pa_cons (pe_glob hg2 hcl' (v := .ref Cl) rfl hdb) pa_nil) (starEach_cons hs)) (he := starEach_cons hs) (hpl := any_star (by simp [isStar]))).run pins s σ H Q I ?_
  · intro pins s σ H xs us Q I r h2
    obtain ⟨v, rfl, ⟨fs, hd⟩, rfl, q⟩ := h2
    cases r with
    | cons rx rr =>
      cases rr with
      | cons rt rr =>
        cases rr
        cases rx
        cases rt
        obtain ⟨oe, od, mA, J, _, _⟩ := inst_hot h I hd
        rw [← g.K] at ec hk
        exact PySem.W.kia_one (PySem.W.kitx_exc (by obtain ⟨cd, hc, _⟩ := PySem.W.any_some ec.hd; rw [hc]; rfl) ec.hg ec.hk ec.hs ec.ha ec.hn ec.ht ec.hm) I.kIn J hk (fun z => nomatch z) fun tk => ⟨.bl _, H, I.kept (t' := tk) fun _ _ z => z, rfl, q⟩
  · refine ⟨ρ, S, m, re, rs, q.bind fun x S1 m1 H1 u e1 x1 rs1 r1 p1 => ?_⟩
    cases r1 with
    | exn h0 h1 hd hn r =>
      rw [h.hot] at h0
      cases h0
      exact ⟨_, rfl, ⟨_, hd⟩, rfl, p1.ok0 rs1 (.bl _)⟩
    | _ => exact False.elim p1
/-- error.f -/
theorem s_xfld (g : Gd M X) {a0 C dd : Addr} {f : Str} {y : Str} (h : HotOk M X a0 C dd y) (ec : ErrC M.K C) (hno : PySem.W.findIn M.K (.ref C) f = some none) (hfld : ∀ y, M.fld y = c.fld y) (ha : PE X a (tE M c W a')) (hn : nullCall a = false) : PE X (.Attribute a f pos) (tE M c W (.xfld a' f)) := by
  refine ⟨fun pins s σ H Q I ⟨ρ, S, m, re, rs, q⟩ => ?_⟩
  simp only [E.den] at q
  refine attr_of (base_of hn) (thn (ha.run pins s σ H (fun x H1 => x = .ref a0 ∧ ∃ (v : V), H1 dd = some (.xd [(f, v)]) ∧ Q v H1) I ⟨ρ, S, m, re, rs, q.bind fun x S1 m1 H1 u e1 x1 rs1 r1 p1 => ?_⟩) fun u s1 ⟨x, H1, I1, rx, ex, v, hd, qq⟩ => ?_)
  · cases r1 with
    | exn h0 h1 hd hn r =>
      rw [h.hot] at h0
      cases h0
      dsimp only at p1
      split at p1
      · rename_i ef
        subst ef
        rw [hfld] at hd
        exact ⟨rfl, _, hd, p1.ok0 rs1 r⟩
      · exact False.elim p1
    | _ => exact False.elim p1
  · subst ex
    obtain rfl : u = Value.ref a0 := rx
    obtain ⟨oe, od, mA, J, hl, hr⟩ := inst_hot h I1 hd
    have l : List.lookup f [(f, v)] = some v := by simp [List.lookup]
    obtain ⟨u, hu, ru⟩ := RelO.some_of (v := v) (o := mA f) (by rw [← l]; exact hr f)
    rw [← g.K] at ec hno
    exact HandSPX.exc_get I1.kIn J ec.hg ec.hk ec.hs (PySem.W.findObj_own ec.hd hno rfl (by rw [hl, hu])) (handed_of ru) ⟨v, H1, I1.tok _, ru, qq⟩
end
end Pz
end
section
set_option Elab.async false
set_option linter.all false
set_option maxRecDepth 100000
set_option maxHeartbeats 2000000
/-! Pz: an error caught and told by a def. -/
namespace Pz
open PySem PySem.Spec PyProof.Rows L2 L2H
/-- a def called where an error is handled, the error p an argument (after HandS.HotCalls, the promise by the error) -/
structure FnE (P : Program) (w : World) (K : PySem.W.Frag) (mg : Str → Option Value) (base : Heap) (CX : CXT) (k : Nat) (f : Addr) (fd : FuncData) (ps : List Str) (sp : Addr × Obj → Sp) : Prop where
  len : ∀ p vs H Q E, sp p vs H Q E → vs.length = ps.length
  run : ∀ (A : Around) (outer : List PySem.Env) (s : Shared) (H : Hp) (args : Args) (us : List Value) (vs : List V) (Q : VK) (E : XK) (p : Addr × Obj), RoomH k A → Hot1 A p → PinOk outer H s p → Env0 P w K mg base A outer s H → BindsTo s fd args (ps.zip us) → Vals vs us → sp p vs H Q E →
    codeAny (model P w) A (.call (.ref f) args) (CR CX outer P w H s Q E) s
theorem fnE_of {CX : CXT} {P : Program} {w : World} {K : PySem.W.Frag} {mg : Str → Option Value} {base : Heap} {k : Nat} {f : Addr} {name qual : Str} {params : Arguments} {body : List Stmt} {scope : Scope} {dV kV doc pm cdv ct oc : Value} {an od : Option Addr}
    {osl : Array (Option Value)} {N ps : List Str} {sp : Addr × Obj → Sp} (lk : K.lookup f = some ⟨oc, od, .func (PySem.W.fnOf name qual params body scope dV kV doc pm an cdv ct), osl⟩) (hcd : PySem.W.codeIn K cdv qual = true) (S : FnScope N ps scope)
    (len : ∀ p vs H Q E, sp p vs H Q E → vs.length = ps.length)
    (hbody : ∀ (A : Around) (outer : List PySem.Env) (s : Shared) (H : Hp) (vs : List V) (Q : VK) (E : XK) (p : Addr × Obj), Hot1 A p → (A.deeper (envOfC qual scope s.heap.objs.size f cdv)).units + 70 < cLine → sp p vs H Q E →
      ∃ t, PSs (cxH CX P w K mg base N qual scope f cdv A outer s H E p) body t ∧ t { nx := fun _ H' => Q .non H', rt := Q } (L2.start N vs) H) :
    FnE P w K mg base CX k f (PySem.W.fnOf name qual params body scope dV kV doc pm an cdv ct) ps sp := by
  refine ⟨len, fun A outer s H args us vs Q E p hr hot hpin e0 hb r hsp => ?_⟩
  have hl := len _ _ _ _ _ hsp
  have KX : K.In s.heap := e0.mod.kin.keeps fun b o e => (e0.bs b o e).1
  have lim : s.heap.NoLimit := e0.mod.nolimit.keeps fun b o e => (e0.bs b o e).1
  have hkind : ∀ y ∈ ps.zip us, scope.names.lookup y.1 = some .local ∨ (scope.names.lookup y.1 = some .cell ∧ ((cellsFrom (s.heap.objs.size + 1) scope.names []).lookup y.1).isSome = true) := fun ⟨n, v⟩ hy => by
    rcases S.par n (List.of_mem_zip hy).1 with q | q
    · exact .inl q
    · exact .inr ⟨q, PySem.W.cellsFrom_some _ _ _ (.inl q)⟩
  refine codeAny_call_function hr.depth (KX _ _ lk) rfl S.co S.gen rfl (PySem.W.codeRec_of KX hcd) (hb _ _ _ _ ?_)
  refine wpAny_newFunctionEnv_cells S.kind hkind fun env he s1 x => ?_
  subst he
  refine ⟨lim.keeps x.toInCall.keep, codeAny_func ?_⟩
  obtain ⟨t, ht, hq⟩ := hbody A outer s H vs Q E p hot (by have := hr.un; show A.units + 3 + 70 < cLine; omega) hsp
  have I : Inv (cxH CX P w K mg base N qual scope f cdv A outer s H E p) [] (L2.start N vs) H s1 := inv_startH S hpin e0 hl r x
  refine wpAny_mono (ht.run [] s1 (L2.start N vs) H _ I hq) (fun fl s' hs => ?_) fun e s' hs => hs
  have fin : ∀ {σ' : St'} {H' : Hp} {v : V} {u : Value}, Inv (cxH CX P w K mg base N qual scope f cdv A outer s H E p) [] σ' H' s' → RelV v u → Q v H' → CE outer P w H s Q u s' :=
    fun {σ' H' v u} J rv q => ⟨v, H', J.os, J.bare, J.base, J.hok, rv, q⟩
  cases fl with
  | ret u =>
    obtain ⟨v, σ', H', J, rv, q⟩ := hs
    exact fin J rv q
  | next =>
    obtain ⟨σ', H', J, q⟩ := hs
    exact fin (v := V.non) (u := Value.none) J rfl q
  | brk =>
    obtain ⟨_, _, _, q⟩ := hs
    exact False.elim q
  | cont =>
    obtain ⟨_, _, _, q⟩ := hs
    exact False.elim q
section
variable {X : Cx} {CX : CXT} {k : Nat} {f : Addr} {fd : FuncData} {ps : List Str} {sp : Addr × Obj → Sp} {x : Str} {q pos : Pos} {e : Expr} {es : List Expr} {t : TA}
theorem pe_callE {p : Addr × Obj} (F : FnE X.prog X.w X.K X.mg X.base CX k f fd ps sp) (hr : RoomH k X.A) (hot : Hot1 X.A p) (hp : p ∈ X.pn) (hg : Gl X x) (hm : X.mg x = some (.ref f)) (hk : PySem.W.keepIn X.K (.ref f) = true) (hb : Binds X.K fd ps [])
    (hx : ∀ σ, PassesAt CX X σ (fun _ _ _ => False)) (ha : PA X (e :: es) t) (hdb : (x == ("__debug__" : Str)) = false) (he : ∀ e' ∈ e :: es, isStar e' = false) :
    PE X (.Call (.Name x q) (e :: es) [] pos) (fun σ H Q => t σ H fun vs H1 => sp p vs H1 Q (fun _ _ _ => False)) := by
  refine ⟨fun pins s σ H Q I h => ?_⟩
  refine wpAny_Call_Name_kw (ld_glob I hg hm ?_ hdb)
  refine PySem.W.callWith_K (h₀ := X.base) I.ok.mod.kin hk (thn (ha.run pos pins s σ H _ I h) fun us s1 ⟨vs, H1, I1, r, qq⟩ => ⟨I1.kIn, ?_⟩) (starEach_cons (he e (by simp))) (any_star fun e h => he e (by simp [h]))
  have hl : us.length = ps.length := by rw [← r.length]; exact F.len _ _ _ _ _ qq
  have b := hb s1 us I1.kIn (by rw [List.append_nil]; exact hl)
  rw [List.append_nil] at b
  have P1 := I1.pin p (List.mem_append_left _ hp)
  have hpin : PinOk X.stack H1 s1 p := ⟨P1.1, P1.2.1, fun hm => (List.mem_cons.mp (I1.stkSub p.1 hm)).elim P1.2.2.1 P1.2.2.2.1, P1.2.2.2.2⟩
  refine wpAny_call (codeAny_mono (F.run X.A X.stack s1 H1 ⟨us, []⟩ us vs Q _ p hr hot hpin I1.env0 b r qq) fun r s' hq => ?_)
  cases r with
  | error e => exact hx σ pins H1 s1 e s' I1 hq
  | ok fl =>
    cases fl with
    | ret u => exact I1.after hq
    | next => exact False.elim hq
    | brk => exact False.elim hq
    | cont => exact False.elim hq
end
/-- M with the error in hand -/
abbrev Md.heat (M : Md) (a C dd : Addr) (y : Str) : Md := { M with hot := some (a, C, dd, y) }
mutual
theorem Rep.heat {M : Md} {m : Mp} {H : Hp} {x : PV} {v : V} (h : Rep M m H x v) (n : M.hot = none) (a C dd : Addr) (y : Str) : Rep (M.heat a C dd y) m H x v := match h with
  | .non => .non
  | .bl b => .bl b
  | .int i => .int i
  | .str h => .str h
  | .tup t l r => .tup t l (RepL.heat r n a C dd y)
  | .lst h k l r => .lst h k l (RepL.heat r n a C dd y)
  | .dK h k l r => .dK h k l (RepL.heat r n a C dd y)
  | .dT h k l r => .dT h k l (RepL.heat r n a C dd y)
  | .cell h => .cell h
  | .fn h h2 => .fn h h2
  | .frz h k l r => .frz h k l (RepL.heat r n a C dd y)
  | .wtup h l r => .wtup h l (RepL.heat r n a C dd y)
  | .frw h l r => .frw h l (RepL.heat r n a C dd y)
  | .ktup h l r => .ktup h l (RepL.heat r n a C dd y)
  | .exn h0 _ _ _ _ => by rw [n] at h0; cases h0
theorem RepL.heat {M : Md} {m : Mp} {H : Hp} {xs : List PV} {vs : List V} (h : RepL M m H xs vs) (n : M.hot = none) (a C dd : Addr) (y : Str) : RepL (M.heat a C dd y) m H xs vs := match h with
  | .nil => .nil
  | .cons r t => .cons (Rep.heat r n a C dd y) (RepL.heat t n a C dd y)
end
/-- an error of the class cls, its dict d, is told as w by the def h -/
def HotR (M : Md) (c : Cfg) (h : Str) (a : Addr) (cls : Value) (d : Option Addr) (H : Hp) (Q : VK) : Prop :=
  ∃ (y : Str) (v : PV) (C dd : Addr) (u : V) (m : Mp) (w : Str), y ∈ c.errs ∧ cls = .ref C ∧ d = some dd ∧ M.mg y = some (.ref C) ∧ H dd = some (.xd [(M.fld y, u)]) ∧ Rep M m H v u ∧ c.hot h y v = some w ∧
    ∀ H', (∀ b o, H b = some o → H' b = some o) → Q (.str w) H'
def spHot (M : Md) (c : Cfg) (h : Str) : Addr × Obj → Sp := fun p vs H Q _ => vs = [.ref p.1] ∧ HotR M c h p.1 p.2.cls p.2.dict H Q ∧ ∃ ws, p.2.data = .fields ws
structure HotAtH (M : Md) (P : Program) (w : World) (base : Heap) (k : Nat) (c : Cfg) (h : Str) : Prop where
  ex : ∃ (f : Addr) (fd : FuncData) (ps : List Str), M.mg h = some (.ref f) ∧ PySem.W.keepIn M.K (.ref f) = true ∧ Binds M.K fd ps [] ∧ FnE P w M.K M.mg base (L2N.CX P w) k f fd ps (spHot M c h)
section
variable {M : Md} {m m' m1 m2 : Mp} {H H' H1 H2 : Hp} {S : Store} {X : Cx} {c : Cfg} {W : WX} {body : List Stmt} {b1 : Sts} {x n h : Str} {np pos pos' p1 p2 p3 p4 : Pos} {i k : Nat} {Cx0 : Addr}
theorem pass_no {X : Cx} (σ : St') : PassesAt (L2N.CX X.prog X.w) X σ (fun _ _ _ => False) := fun _ _ _ _ _ _ c => by
  obtain ⟨_, _, _, _, _, _, _, _, _, _, _, _, z⟩ := c
  exact z.elim
theorem s_try (g : Gc M X) (hs : X.stack = X.env :: X.outer) (hf : X.env.frame = some X.env.locals) (hi : X.N[i]? = some n) (hln : X.env.kindOf n = some .local) (hg : Gl X x) (hdb : (x == ("__debug__" : Str)) = false) (hm : M.mg x = some (.ref Cx0)) (tk : L2N.Takes X W)
    (hb : ∀ (W : WX) (pn : List (Addr × Obj)) (xe : Value → Shared → Prop), L2N.Takes (X.tr pn xe) W → PassesOwn (model X.prog X.w) X.A X.env xe → PSs (X.tr pn xe) body (tSs M c W b1))
    (hexm : ∀ y C, y ∈ c.errs → M.mg y = some (.ref C) → PySem.W.exmOne M.K (.ref C) (.ref Cx0) = some (decide (x ∈ y :: c.sub y)))
    (hr : Room k X.A) (FE : HotAtH M X.prog X.w X.base k c h) (hgh : Gl X h) (hdbh : (h == ("__debug__" : Str)) = false) (hdn : (n == ("__debug__" : Str)) = false) (hdc : (n == ("__classdict__" : Str)) = false) :
    PS X (.Try body [.ExceptHandler (some (.Name x np)) (some n) [.Return (some (.Call (.Name h p1) [.Name n p2] [] p3)) p4] pos'] [] [] pos) (tS M c W (.try_ b1 x h i)) := by
  obtain ⟨f, fd, ps, hf1, hf2, hf3, FE⟩ := FE.ex
  rw [← g.K, ← g.mg] at FE
  rw [← g.K] at hf2 hf3
  rw [← g.mg] at hf1
  refine PS.imp (L2N.ps_try_as (i := i) (tb := fun W => tSs M c W b1) (ts := fun a cls d D σ H => σ[i]? = some (some (.ref a)) ∧ HotR M c h a cls d H D.rt) (Wout := W) hs hf g.nd hi hln (c := .ref Cx0) ⟨hg, hdb, .inl (by rw [g.mg]; exact hm)⟩ tk hb ?_) ?_
  · intro a oe cls d pn hz hd
    refine pss_one (PS.imp (ps_ret (pe_callE (X := X.suite a ((a, oe) :: pn)) (p := (a, oe)) FE ⟨hr.dp, hr.un⟩ ⟨rfl, ?_⟩ List.mem_cons_self hgh hf1 hf2 hf3 (fun σ => pass_no σ) (pa_cons (pe_var (X := X.suite a ((a, oe) :: pn)) hi (.inl hln) hdn hdc) pa_nil (starEach_cons rfl)) hdbh (by simp [isStar]))) fun D σ H ⟨hσ, hR⟩ => ?_)
    · obtain ⟨vs, hvs⟩ := hd
      exact ⟨vs, hvs, hz.2.2 vs hvs⟩
    · obtain ⟨z1, z2, z3⟩ := hz
      exact ⟨_, hσ, rfl, by show HotR M c h a oe.cls oe.dict H D.rt; rw [z1, z2]; exact hR, hd⟩
  · intro D σ H ⟨ρ, S, m, re, rs, p⟩
    simp only [St.den] at p
    refine ⟨ρ, S, m, re, rs, ?_⟩
    cases ed : b1.den c ρ S with
    | exc y v ρ1 S1 =>
      rw [ed] at p
      dsimp only at p
      intro m1 H1 σ1 cls d x1 rs1 re1 ex
      split at p
      · rename_i hy
        obtain ⟨C, dd, u, h1, rfl, rfl, h4, h5, h6⟩ := id ex
        refine ⟨_, by rw [g.K]; exact hexm y C hy h1, fun hyes a ha => ?_, fun hno => ?_⟩
        · rw [if_pos (of_decide_eq_true hyes)] at p
          split at p
          · rename_i w ew
            split at p
            case isFalse => exact False.elim p
            rename_i hil
            refine ⟨by rw [List.getElem?_set_self (by rw [← re1.len]; exact hil.1)], y, v, C, dd, u, m1, w, hy, rfl, rfl, h1, h4, h6, ew, fun H' hk => ?_⟩
            have exK : Ext m1 m1 H1 H' := ⟨⟨[], by simp, by simp⟩, rfl, fun b o q _ => hk b o q, fun b hb => let ⟨o, q⟩ := rs1.there b hb; ⟨o, hk b o q⟩⟩
            refine p m1 H' (.str w) (x1.trans exK) ⟨rs1.nd, rs1.len, fun b hb => let ⟨z, o, q⟩ := rs1.hid b hb; ⟨z, o, hk b o q⟩, fun n b o g1 g2 => ?_⟩ (.str ?_)
            · have ro := rs1.ob n b o g1 g2
              obtain ⟨u0, hu⟩ := ro.there
              exact ro.mono exK (by rw [hu]; exact hk b u0 hu)
            · exact hil.2
          · exact False.elim p
        · rw [if_neg (of_decide_eq_false hno)] at p
          exact p m1 H1 σ1 _ _ x1 rs1 re1 ex
      · exact False.elim p
    | nx ρ1 S1 => rw [ed] at p; exact p
    | rt v ρ1 S1 => rw [ed] at p; exact p
    | bk ρ1 S1 => rw [ed] at p; exact p
    | ct ρ1 S1 => rw [ed] at p; exact p
    | out => rw [ed] at p; exact p
end
end Pz
end
section
set_option Elab.async false
set_option linter.all false
set_option maxRecDepth 100000
set_option maxHeartbeats 3200000
/-! Pz: sets of rows of whole numbers, many items, few of them different. -/
namespace Pz
open PySem PySem.Spec PyProof.Rows L2
/-- however the different rows are picked, they are few -/
def Few (ks : List (Addr × List Int)) : Prop := ∀ L : List (List Int), L.Nodup → (∀ k ∈ L, k ∈ ks.map (·.2)) → L.length + 1 < 64
section
variable {P : Program} {w : World} {A : Around} {E : Value → Shared → Prop} {s : Shared}
/-- what is known while the rows are put in: those before i -/
structure Mid (P : Program) (w : World) (h0 : Heap) (S : Addr) (ks : List (Addr × List Int)) (i : Nat) (h : Heap) : Prop where
  old : ∀ b o, h0.get? b = some o → h.get? b = some o
  set : ∃ L es ep t, SetTR P w h S L es ep t ∧ Got ks i L
theorem Mid.on {h0 h h' : Heap} {S : Addr} {ks : List (Addr × List Int)} {i : Nat} (rows : ∀ p ∈ ks, IsT P w h0 p.2 p.1) (m : Mid P w h0 S ks i h) (kS : ∀ o, h.get? S = some o → h'.get? S = some o) (k : ∀ b o, h0.get? b = some o → h'.get? b = some o) : Mid P w h0 S ks i h' := by
  obtain ⟨L, es, ep, t, r, g⟩ := m.set
  exact ⟨k, L, es, ep, t, r.keep kS fun p hp => isT_keep (rows p (List.mem_of_mem_take (g.sub p hp))) k, g⟩
theorem put_rows {I : Addr} {fp wr : List Addr} {G : Array GenState → Array GenState → Prop} {n : Nat} {Pv : Nat → Value → Prop} {St : Nat → Shared → Prop} {R : Result → Shared → Prop} (W : WalksS P w A.in1 I fp wr G n Pv St) {S : Addr} (notS : S ∉ fp)
    {ks : List (Addr × List Int)} (few : Few ks) (len : n = ks.length) (is : ∀ i v, Pv i v → ∃ p, ks[i]? = some p ∧ v = .ref p.1) {h0 : Heap} (rows : ∀ p ∈ ks, IsT P w h0 p.2 p.1) (newS : h0.get? S = none) (newW : ∀ b ∈ wr, h0.get? b = none) (u : A.in1.units < cLine) :
    ∀ (d i : Nat) (s : Shared), i + d = n → St i s → Mid P w h0 S ks i s.heap → (∀ s', Moved (S :: wr) G s s' → Mid P w h0 S ks n s'.heap → R (.ok (.ret .none)) s') → codeAny (model P w) A (.builtin "set.update.loop" ⟨[.ref S, .ref I], []⟩) R s := by
  have up : ∀ {s1 s2 : Shared}, Moved wr G s1 s2 → Moved (S :: wr) G s1 s2 := fun m => m.mono fun b hb => List.mem_cons_of_mem _ hb
  have Sw : S ∉ wr := fun z => notS (W.sub _ z)
  have stay : ∀ {i : Nat} {s1 s2 : Shared}, Moved wr G s1 s2 → Mid P w h0 S ks i s1.heap → Mid P w h0 S ks i s2.heap := fun m q =>
    q.on rows (fun o e => m.heap S o Sw e) fun b o e => m.heap b o (fun z => by rw [newW b z] at e; cases e) (q.old b o e)
  intro d
  induction d with
  | zero =>
    intro i s e st q fin
    cases (show i = n from e)
    refine codeAny_builtin F.entry_set_update_loop ?_
    rw [Around.under_plainId F.plain_set_update_loop _]
    show wpAny _ A.in1 (pyNext (.ref I) >>= _) _ _ s
    exact wpAny_bind (W.done s _ _ st fun s' m => show wpAny _ A.in1 (ret Value.none) _ _ s' from wpAny_pure (fin s' (up m) (stay m q)))
  | succ d ih =>
    intro i s e st q fin
    have lt : i < n := by omega
    refine codeAny_builtin F.entry_set_update_loop ?_
    rw [Around.under_plainId F.plain_set_update_loop _]
    show wpAny _ A.in1 (pyNext (.ref I) >>= _) _ _ s
    refine wpAny_bind (W.item i s _ _ lt st fun v s1 pv st1 m => ?_)
    obtain ⟨p, at_, rfl⟩ := is i v pv
    have q1 := stay m q
    obtain ⟨L, es, ep, t, r, g⟩ := q1.set
    have row : IsT P w s1.heap p.2 p.1 := isT_keep (rows p (List.mem_of_getElem? at_)) q1.old
    have fewL : L.length + 1 < 64 := by
      have z := few (L.map (·.2)) r.nd fun k hk => by
        obtain ⟨x, hx, ex⟩ := List.mem_map.mp hk
        exact List.mem_map.mpr ⟨x, List.mem_of_mem_take (g.sub x hx), ex⟩
      rwa [List.length_map] at z
    show wpAny _ A.in1 (holding [Value.ref p.1] (setAdd S (.ref p.1)) >>= _) _ _ s1
    refine wpAny_bind (wpAny_holding ?_)
    unfold setAdd
    refine wpAny_holding (wpAny_bind (wpAny_pyHash_tuple u row ?_))
    refine add_at (s := { s1 with toks := s1.toks + (p.2.length + 1) }) r row u fewL fun b h2 L2 es2 ep2 t2 same r2 c1 c2 => ?_
    have g2 : Got ks (i + 1) L2 := by
      by_cases c : p.2 ∈ L.map (·.2)
      · rw [c1 c]; exact g.same at_ c
      · exact g.more at_ (c2 c)
    have old2 : ∀ b o, h0.get? b = some o → h2.get? b = some o := fun b o eb => (same.2 b (fun z => by rw [z, newS] at eb; cases eb)).trans (q1.old b o eb)
    refine wpAny_pure ⟨plainId_quiet F.plain_set_update_loop _, ih (i + 1) _ (by omega) (W.frame _ s1 _ _ st1 (Nat.le_add_right _ _) fun b hb o eb => ?_) ⟨old2, L2, es2, ep2, t2, r2, g2⟩ fun s3 m3 q3 => ?_⟩
    · exact (same.2 b fun z => notS (z ▸ hb)).trans eb
    · refine fin s3 (Moved.trans W.gtrans ((up m).then_heap (Nat.le_add_right _ _) fun b o hb eb => ?_) m3) q3
      exact (same.2 b fun z => hb (z ▸ List.mem_cons_self)).trans eb
/-- the empty set that set(..) begins with -/
abbrev set0 (w : World) : Obj := { cls := .type "set", dict := none, data := .set #[] 0 (.fresh 0 0 (!w.params.followText "set-order")) }
/-- the items are put into the set at S, which then is as Φ says -/
def Fill (P : Program) (w : World) (h0 : Heap) (S : Addr) (items : Array Value) (B : Nat) (Φ : Heap → Prop) : Prop := ∀ (A : Around) (I : Addr) (fp wr : List Addr) (G : Array GenState → Array GenState → Prop) (Pv : Nat → Value → Prop) (St : Nat → Shared → Prop) (R : Result → Shared → Prop) (s : Shared),
  WalksS P w A.in1 I fp wr G items.size Pv St → S ∉ fp → (∀ i v, Pv i v → items[i]? = some v) → (∀ b ∈ wr, h0.get? b = none) → A.in1.units ≤ B → St 0 s → s.heap.get? S = some (set0 w) → (∀ b o, h0.get? b = some o → s.heap.get? b = some o) → (∀ s', Moved (S :: wr) G s s' → Φ s'.heap → R (.ok (.ret .none)) s') →
  codeAny (model P w) A (.builtin "set.update.loop" ⟨[.ref S, .ref I], []⟩) R s
theorem fill_rows {h0 : Heap} {S : Addr} {items : Array Value} {B : Nat} {ks : List (Addr × List Int)} (its : items.toList = ks.map fun p => Value.ref p.1) (rows : ∀ p ∈ ks, IsT P w h0 p.2 p.1) (few : Few ks) (newS : h0.get? S = none) (u : B < cLine) : Fill P w h0 S items B (Mid P w h0 S ks ks.length) := by
  intro A I fp wr G Pv St R s W notS is newW uA st at_ old fin
  have size : items.size = ks.length := by have := congrArg List.length its; simpa using this
  refine put_rows W notS few size (fun i v pv => ?_) rows newS newW (Nat.lt_of_le_of_lt uA u) items.size 0 s (Nat.zero_add _) st ⟨old, [], #[], 0, _, setTR_fresh at_, Got.zero ks⟩ fun s' m q => fin s' m (size ▸ q)
  have hv := is i v pv
  rw [← Array.getElem?_toList, its, List.getElem?_map] at hv
  obtain ⟨p, e1, e2⟩ := Option.map_eq_some_iff.mp hv
  exact ⟨p, e1, e2.symm⟩
theorem fill_ints {h0 : Heap} {S : Addr} {items : Array Value} {B : Nat} {ns : List Int} (its : IntsAre items.toList ns) (many : ns.length + 1 < scanBound) (newS : h0.get? S = none) : Fill P w h0 S items B fun h => (∀ b o, h0.get? b = some o → h.get? b = some o) ∧ ∃ c, SetR w h S (fun j => decide (j ∈ ns)) c := by
  intro A I fp wr G Pv St R s W notS is newW uA st at_ old fin
  have size : items.size = ns.length := by have := IntsAre.length its; simpa using this
  refine set_update_ints W S notS ns size many (fun i v pv => ?_) (items.size - 0) 0 s rfl (Nat.zero_le _) st ⟨0, Nat.le_refl _, setR_new_at at_⟩ fun s' c m hc q => fin s' m ⟨fun b o e => m.heap b o (fun z => ?_) (old b o e), c, q⟩
  · have hv := is i v pv
    have lt : i < ns.length := size ▸ (Array.getElem?_eq_some_iff.mp hv).1
    obtain ⟨t, e⟩ := IntsAre.int_at its i v (by rw [Array.getElem?_toList]; exact hv)
    exact ⟨ns[i], t, List.getElem?_eq_getElem lt, by rw [e, List.getD_eq_getElem?_getD, List.getElem?_eq_getElem lt]; rfl⟩
  · rcases List.mem_cons.mp z with z | z
    · rw [z, newS] at e; cases e
    · rw [newW b z] at e; cases e
/-- set(xs), xs a tuple -/
theorem set_tup {l : Addr} {items : Array Value} {Φ : Heap → Prop} {Q : Value → Shared → Prop} (calm : A.handled = none) (isL : s.heap.IsTuple l items) (fill : Fill P w s.heap s.heap.objs.size items (A.units + 3) Φ)
    (fin : ∀ (h' : Heap) (tk : Nat), Φ h' → Q (.ref s.heap.objs.size) { s with heap := h', toks := tk }) :
    wpAny (model P w) A (call (.type "set") [.ref l]) Q E s := by
  obtain ⟨c0, tl0, mro0⟩ := F.called_set.mro
  have made0 := F.called_set.made
  have sub0 := F.called_set.sub
  refine wpAny_call (codeAny_of_tree (show wpAny _ _ (callAny (.type "set") _) _ _ _ from ?_))
  refine wpAny_pure ⟨Code.quiet_builtin _ (by decide +kernel), codeAny_builtin F.entry_type_call ?_⟩; rw [Around.under_plain (weight_type_call_type "set" [.ref l] []) rfl]
  have nt0 := F.called_set.notType
  have cc0 := F.called_set.canCreate
  have tc0 := F.typeCall_set_1 (.ref l)
  repeat (any_goals (first | assumption | wp_step))
  refine codeAny_mono (code_set_led1 (.ref l) (E := E) (Q₁ := fun z s1 => z = .ref s.heap.objs.size ∧ s1 = { s with heap := s.heap.push (set0 w) }) ⟨rfl, rfl⟩) fun r s1 hr => ?_
  cases r with
  | error e => exact hr
  | ok fl =>
    cases fl with
    | ret z =>
      obtain ⟨rfl, rfl⟩ := hr
      have hS : (s.heap.push (set0 w)).get? s.heap.objs.size = some (set0 w) := Heap.get?_push_size _ rfl
      have tS : Shared.TypeIs { s with heap := s.heap.push (set0 w) } (.ref s.heap.objs.size) "set" := ⟨_, hS, rfl⟩
      have il := F.called_set.init.lookup
      have ib := F.called_set.init.bind (.ref s.heap.objs.size)
      repeat (any_goals (first | assumption | wp_step))
      refine codeAny_mono (codeAny_call_builtin (R := wants (fun r s2 => r = .none ∧ ∃ h' tk, s2 = { s with heap := h', toks := tk } ∧ Φ h') E) F.called_set.init.plain F.entry_set_init (check_set_init_1 tS ?_)) fun r2 s2 hr2 => ?_
      · obtain ⟨⟨oc, od, dt, osl⟩, at_, e1, nl, e2⟩ := isL
        cases e1
        cases e2
        have at1 : (s.heap.push (set0 w)).get? l = some { cls := .type "tuple", dict := od, data := .seq items nl, slots := osl } := Heap.get?_push_of_some _ at_
        have s1 := F.sub_tuple_set
        have s2 := F.sub_tuple_frozenset
        have ne1 : (Value.type "tuple" == Value.type "dict") = false := by decide
        have isL1 : (s.heap.push (set0 w)).IsTuple l items := ⟨_, at1, rfl, nl, rfl⟩
        unfold Builtin.«set.__init__» noKeywords Builtin.Frozenset.updateFrom
        generalize hPI : pyIter = PI
        wp_walk
        subst hPI
        refine wpAny_pyIter_tuple isL1 (wpAny_bind (wpAny_runValue ?_))
        have below : l < s.heap.objs.size := Heap.lt_size at_
        have calm3 : A.in1.in1.in1.handled = none := by simp [calm]
        have z1 : (s.heap.push (set0 w)).objs.size = s.heap.objs.size + 1 := Heap.size_push ..
        have ne2 : l ≠ (s.heap.push (set0 w)).objs.size := fun z => Nat.lt_irrefl _ (Nat.lt_trans (Nat.lt_succ_self _) (show s.heap.objs.size + 1 < s.heap.objs.size by rw [← z1, ← z]; exact below))
        have out2 : s.heap.objs.size ∉ [(s.heap.push (set0 w)).objs.size, l] := by
          intro z
          rcases List.mem_cons.mp z with z | z
          · exact Nat.ne_of_lt (Nat.lt_succ_self _) (z.trans z1)
          · exact Nat.ne_of_gt below (List.mem_singleton.mp z)
        have fresh : ∀ b, s.heap.objs.size ≤ b → s.heap.get? b = none := fun b hb => by
          cases q : s.heap.get? b with
          | none => rfl
          | some o => exact (Nat.not_lt.mpr hb (Heap.lt_size q)).elim
        refine fill _ _ _ _ _ _ _ _ _ ((Walks.tuple calm3 _ l ne2 items).toS) out2 (fun i v hv => hv) (fun b hb => fresh b (by rw [List.mem_singleton.mp hb, z1]; exact Nat.le_succ _)) (Nat.le_refl _) ⟨⟨_, Heap.get?_push_size _ rfl, rfl, rfl⟩, isL1.push _⟩ (Heap.get?_push_of_some _ hS)
          (fun b o e => Heap.get?_push_of_some _ (Heap.get?_push_of_some _ e)) fun s' m q => ?_
        obtain ⟨h', g2, d2, tk2, os2⟩ := s'
        cases (show g2 = s.gens from m.gens)
        cases (show d2 = s.drawn from m.drawn)
        cases (show os2 = s.os from m.os)
        show wpAny _ _ _ _ _ _
        refine wpAny_pure ?_
        show wpAny _ _ (ret Value.none) _ _ _
        exact wpAny_pure ⟨rfl, h', tk2, rfl, q⟩
      · cases r2 with
        | error e => exact hr2
        | ok fl2 =>
          cases fl2 with
          | ret r =>
            obtain ⟨rfl, h', tk, rfl, q⟩ := hr2
            repeat (any_goals (first | assumption | wp_step))
            exact fin _ _ q
          | _ => exact hr2.elim
    | _ => exact hr.elim
/-- set(xs), xs a list -/
theorem set_lst {l : Addr} {items : Array Value} {Φ : Heap → Prop} {Q : Value → Shared → Prop} (calm : A.handled = none) (isL : s.heap.IsList l items) (fill : Fill P w s.heap s.heap.objs.size items (A.units + 3) Φ)
    (fin : ∀ (h' : Heap) (tk : Nat), Φ h' → Q (.ref s.heap.objs.size) { s with heap := h', toks := tk }) :
    wpAny (model P w) A (call (.type "set") [.ref l]) Q E s := by
  obtain ⟨c0, tl0, mro0⟩ := F.called_set.mro
  have made0 := F.called_set.made
  have sub0 := F.called_set.sub
  refine wpAny_call (codeAny_of_tree (show wpAny _ _ (callAny (.type "set") _) _ _ _ from ?_))
  refine wpAny_pure ⟨Code.quiet_builtin _ (by decide +kernel), codeAny_builtin F.entry_type_call ?_⟩; rw [Around.under_plain (weight_type_call_type "set" [.ref l] []) rfl]
  have nt0 := F.called_set.notType
  have cc0 := F.called_set.canCreate
  have tc0 := F.typeCall_set_1 (.ref l)
  repeat (any_goals (first | assumption | wp_step))
  refine codeAny_mono (code_set_led1 (.ref l) (E := E) (Q₁ := fun z s1 => z = .ref s.heap.objs.size ∧ s1 = { s with heap := s.heap.push (set0 w) }) ⟨rfl, rfl⟩) fun r s1 hr => ?_
  cases r with
  | error e => exact hr
  | ok fl =>
    cases fl with
    | ret z =>
      obtain ⟨rfl, rfl⟩ := hr
      have hS : (s.heap.push (set0 w)).get? s.heap.objs.size = some (set0 w) := Heap.get?_push_size _ rfl
      have tS : Shared.TypeIs { s with heap := s.heap.push (set0 w) } (.ref s.heap.objs.size) "set" := ⟨_, hS, rfl⟩
      have il := F.called_set.init.lookup
      have ib := F.called_set.init.bind (.ref s.heap.objs.size)
      repeat (any_goals (first | assumption | wp_step))
      refine codeAny_mono (codeAny_call_builtin (R := wants (fun r s2 => r = .none ∧ ∃ h' tk, s2 = { s with heap := h', toks := tk } ∧ Φ h') E) F.called_set.init.plain F.entry_set_init (check_set_init_1 tS ?_)) fun r2 s2 hr2 => ?_
      · obtain ⟨⟨oc, od, dt, osl⟩, at_, e1, nl, e2⟩ := isL
        cases e1
        cases e2
        have at1 : (s.heap.push (set0 w)).get? l = some { cls := .type "list", dict := od, data := .seq items nl, slots := osl } := Heap.get?_push_of_some _ at_
        have s1 := F.sub_list_set
        have s2 := F.sub_list_frozenset
        have ne1 : (Value.type "list" == Value.type "dict") = false := by decide
        have isL1 : (s.heap.push (set0 w)).IsList l items := ⟨_, at1, rfl, nl, rfl⟩
        unfold Builtin.«set.__init__» noKeywords Builtin.Frozenset.updateFrom
        generalize hPI : pyIter = PI
        wp_walk
        subst hPI
        refine wpAny_pyIter_list isL1 (wpAny_bind (wpAny_runValue ?_))
        have below : l < s.heap.objs.size := Heap.lt_size at_
        have calm3 : A.in1.in1.in1.handled = none := by simp [calm]
        have z1 : (s.heap.push (set0 w)).objs.size = s.heap.objs.size + 1 := Heap.size_push ..
        have ne2 : l ≠ (s.heap.push (set0 w)).objs.size := fun z => Nat.lt_irrefl _ (Nat.lt_trans (Nat.lt_succ_self _) (show s.heap.objs.size + 1 < s.heap.objs.size by rw [← z1, ← z]; exact below))
        have out2 : s.heap.objs.size ∉ [(s.heap.push (set0 w)).objs.size, l] := by
          intro z
          rcases List.mem_cons.mp z with z | z
          · exact Nat.ne_of_lt (Nat.lt_succ_self _) (z.trans z1)
          · exact Nat.ne_of_gt below (List.mem_singleton.mp z)
        have fresh : ∀ b, s.heap.objs.size ≤ b → s.heap.get? b = none := fun b hb => by
          cases q : s.heap.get? b with
          | none => rfl
          | some o => exact (Nat.not_lt.mpr hb (Heap.lt_size q)).elim
        refine fill _ _ _ _ _ _ _ _ _ ((Walks.list calm3 _ l ne2 items).toS) out2 (fun i v hv => hv) (fun b hb => fresh b (by rw [List.mem_singleton.mp hb, z1]; exact Nat.le_succ _)) (Nat.le_refl _) ⟨⟨_, Heap.get?_push_size _ rfl, rfl, rfl⟩, isL1.push _⟩ (Heap.get?_push_of_some _ hS)
          (fun b o e => Heap.get?_push_of_some _ (Heap.get?_push_of_some _ e)) fun s' m q => ?_
        obtain ⟨h', g2, d2, tk2, os2⟩ := s'
        cases (show g2 = s.gens from m.gens)
        cases (show d2 = s.drawn from m.drawn)
        cases (show os2 = s.os from m.os)
        show wpAny _ _ _ _ _ _
        refine wpAny_pure ?_
        show wpAny _ _ (ret Value.none) _ _ _
        exact wpAny_pure ⟨rfl, h', tk2, rfl, q⟩
      · cases r2 with
        | error e => exact hr2
        | ok fl2 =>
          cases fl2 with
          | ret r =>
            obtain ⟨rfl, h', tk, rfl, q⟩ := hr2
            repeat (any_goals (first | assumption | wp_step))
            exact fin _ _ q
          | _ => exact hr2.elim
    | _ => exact hr.elim
end
end Pz
end
section
set_option Elab.async false
set_option linter.all false
set_option maxRecDepth 100000
set_option maxHeartbeats 3200000
/-! Pz: sorting, plain. -/
namespace Pz
open PySem
section
variable {α : Type} [DecidableEq α]
theorem mem_dd {x : α} : ∀ {l : List α}, x ∈ dd l ↔ x ∈ l
  | [] => Iff.rfl
  | y :: l => by
    unfold dd
    split
    · rename_i h
      rw [mem_dd, List.mem_cons]
      exact ⟨.inr, fun z => z.elim (fun e => e ▸ h) id⟩
    · rw [List.mem_cons, List.mem_cons, mem_dd]
theorem nodup_dd : ∀ (l : List α), (dd l).Nodup
  | [] => List.nodup_nil
  | y :: l => by
    unfold dd
    split
    · exact nodup_dd l
    · rename_i h
      exact List.nodup_cons.mpr ⟨fun z => h (mem_dd.mp z), nodup_dd l⟩
theorem nodup_le : ∀ {l m : List α}, l.Nodup → (∀ x ∈ l, x ∈ m) → l.length ≤ m.length
  | [], _, _, _ => Nat.zero_le _
  | x :: l, m, n, s => by
    have h := s x List.mem_cons_self
    obtain ⟨n1, n2⟩ := List.nodup_cons.mp n
    have := nodup_le (m := m.erase x) n2 fun y hy => (List.mem_erase_of_ne (fun (e : y = x) => n1 (by rw [← e]; exact hy))).mpr (s y (List.mem_cons_of_mem _ hy))
    have e := List.length_erase_of_mem h
    have p : 0 < m.length := List.length_pos_of_mem h
    simp only [List.length_cons]
    omega
end
section
variable {α : Type} {f : α → Int}
theorem mem_insBy {x y : α} : ∀ {l : List α}, y ∈ insBy f x l ↔ y = x ∨ y ∈ l
  | [] => by simp [insBy]
  | z :: l => by
    unfold insBy
    split
    · simp
    · rw [List.mem_cons, mem_insBy, List.mem_cons]
      constructor
      · rintro (h | h | h) <;> simp [h]
      · rintro (h | h | h) <;> simp [h]
theorem mem_sortBy {y : α} : ∀ {l : List α}, y ∈ sortBy f l ↔ y ∈ l
  | [] => Iff.rfl
  | x :: l => by
    unfold sortBy
    rw [mem_insBy, mem_sortBy, List.mem_cons]
/-- f parts the items -/
def Parts (f : α → Int) (l : List α) : Prop := ∀ x ∈ l, ∀ y ∈ l, f x = f y → x = y
theorem pw_insBy {x : α} : ∀ {l : List α}, x ∉ l → Parts f (x :: l) → l.Pairwise (fun a b => f a < f b) → (insBy f x l).Pairwise fun a b => f a < f b
  | [], _, _, _ => by simp [insBy]
  | y :: l, n, p, h => by
    obtain ⟨h1, h2⟩ := List.pairwise_cons.mp h
    have ne : f x ≠ f y := fun e => n (by rw [p x List.mem_cons_self y (List.mem_cons_of_mem _ List.mem_cons_self) e]; exact List.mem_cons_self)
    unfold insBy
    split
    · rename_i le
      have lt : f x < f y := by omega
      exact List.pairwise_cons.mpr ⟨fun z hz => by
        rcases List.mem_cons.mp hz with rfl | hz
        · exact lt
        · exact Int.lt_trans lt (h1 z hz), h⟩
    · rename_i le
      refine List.pairwise_cons.mpr ⟨fun z hz => ?_, pw_insBy (fun z => n (List.mem_cons_of_mem _ z)) (fun a ha b hb => ?_) h2⟩
      · rcases mem_insBy.mp hz with rfl | hz
        · omega
        · exact h1 z hz
      · refine p a ?_ b ?_
        · rcases List.mem_cons.mp ha with rfl | ha
          · exact List.mem_cons_self
          · exact List.mem_cons_of_mem _ (List.mem_cons_of_mem _ ha)
        · rcases List.mem_cons.mp hb with rfl | hb
          · exact List.mem_cons_self
          · exact List.mem_cons_of_mem _ (List.mem_cons_of_mem _ hb)
theorem pw_sortBy : ∀ {l : List α}, l.Nodup → Parts f l → (sortBy f l).Pairwise fun a b => f a < f b
  | [], _, _ => List.Pairwise.nil
  | x :: l, n, p => by
    obtain ⟨n1, n2⟩ := List.nodup_cons.mp n
    have p2 : Parts f l := fun a ha b hb => p a (List.mem_cons_of_mem _ ha) b (List.mem_cons_of_mem _ hb)
    refine pw_insBy (fun z => n1 (mem_sortBy.mp z)) (fun a ha b hb => ?_) (pw_sortBy n2 p2)
    refine p a ?_ b ?_
    · rcases List.mem_cons.mp ha with rfl | ha
      · exact List.mem_cons_self
      · exact List.mem_cons_of_mem _ (mem_sortBy.mp ha)
    · rcases List.mem_cons.mp hb with rfl | hb
      · exact List.mem_cons_self
      · exact List.mem_cons_of_mem _ (mem_sortBy.mp hb)
/-- strictly rising rows of the same items are the same -/
theorem pw_uniq : ∀ {l m : List α}, l.Pairwise (fun a b => f a < f b) → m.Pairwise (fun a b => f a < f b) → (∀ x, x ∈ l ↔ x ∈ m) → l = m
  | [], [], _, _, _ => rfl
  | [], y :: m, _, _, h => by have := (h y).mpr List.mem_cons_self; cases this
  | x :: l, [], _, _, h => by have := (h x).mp List.mem_cons_self; cases this
  | x :: l, y :: m, h1, h2, h => by
    obtain ⟨a1, a2⟩ := List.pairwise_cons.mp h1
    obtain ⟨b1, b2⟩ := List.pairwise_cons.mp h2
    have e : x = y := by
      rcases List.mem_cons.mp ((h x).mp List.mem_cons_self) with e | hx
      · exact e
      · rcases List.mem_cons.mp ((h y).mpr List.mem_cons_self) with e | hy
        · exact e.symm
        · have := b1 x hx
          have := a1 y hy
          omega
    subst e
    refine congrArg (x :: ·) (pw_uniq a2 b2 fun z => ⟨fun hz => ?_, fun hz => ?_⟩)
    · rcases List.mem_cons.mp ((h z).mp (List.mem_cons_of_mem _ hz)) with e | w
      · subst e; have := a1 z hz; omega
      · exact w
    · rcases List.mem_cons.mp ((h z).mpr (List.mem_cons_of_mem _ hz)) with e | w
      · subst e; have := b1 z hz; omega
      · exact w
end
end Pz
end
section
set_option Elab.async false
set_option linter.all false
set_option maxRecDepth 100000
set_option maxHeartbeats 3200000
/-! Pz: sorted(set(xs)). -/
namespace Pz
open PySem PySem.Spec PyProof.Rows L2
theorem codeB_eq : ∀ q : List Int, codeB q = TS.code 64 q
  | [] => rfl
  | d :: r => by
    show d * 64 ^ r.length + codeB r = d * 64 ^ r.length + TS.code 64 r
    rw [codeB_eq r]
theorem code_inj : ∀ {a b : List Int}, a.length = b.length → TS.Bd 64 a → TS.Bd 64 b → TS.code 64 a = TS.code 64 b → a = b
  | [], [], _, _, _, _ => rfl
  | [], _ :: _, h, _, _, _ => by cases h
  | _ :: _, [], h, _, _, _ => by cases h
  | x :: a, y :: b, hl, h1, h2, e => by
    have l : a.length = b.length := by simpa using hl
    have exy : x = y := by
      rcases Int.lt_trichotomy x y with c | c | c
      · have := TS.code_lt l h1.tail h2.tail c; omega
      · exact c
      · have := TS.code_lt l.symm h2.tail h1.tail c; omega
    subst exy
    have : TS.code 64 a = TS.code 64 b := by
      have e2 : x * 64 ^ a.length + TS.code 64 a = x * 64 ^ b.length + TS.code 64 b := e
      rw [l] at e2
      exact Int.add_left_cancel e2
    rw [code_inj l h1.tail h2.tail this]
/-- what is put in: whole numbers -/
structure Src1 (vs : List V) (out : List V → Prop) (is : List Int) : Prop where
  e : vs = is.map V.int
  few : (dd is).length < 63
  many : is.length < 4000
  k : out ((sortBy id (dd is)).map V.int)
/-- rows of them -/
structure Src2 (K : PySem.W.Frag) (H : Hp) (vs : List V) (out : List V → Prop) (ps : List (Addr × List Int)) (d : Nat) : Prop where
  e : vs = ps.map fun p => V.ref p.1
  sq : ∀ p ∈ ps, SqT K H p.1 (p.2.map V.int)
  d1 : 1 ≤ d
  bd : ∀ p ∈ ps, p.2.length = d ∧ TS.Bd 64 p.2
  few : (dd (ps.map (·.2))).length < 63
  k : ∀ L : List (Addr × List Int), (∀ p ∈ L, p ∈ ps) → L.map (·.2) = sortBy codeB (dd (ps.map (·.2))) → out (L.map fun p => V.ref p.1)
section
variable {M : Md} {X : Cx} {m : Mp} {H : Hp}
theorem rows_at : ∀ {xs : List PV} {vs : List V} {ks : List (List Int)}, RepL M m H xs vs → rowsK xs = some ks →
    ∃ ps : List (Addr × List Int), vs = ps.map (fun p => V.ref p.1) ∧ ps.map (·.2) = ks ∧ ∀ p ∈ ps, SqT M.K H p.1 (p.2.map V.int) ∧ Rep M m H (.ktup (p.2.map .int)) (.ref p.1)
  | _, _, ks, .nil, e => by simp [rowsK] at e; subst e; exact ⟨[], rfl, rfl, by simp⟩
  | _, _, ks, .cons (x := x) r t, e => by
    unfold rowsK at e
    split at e
    · rename_i e1; cases e1
    · rename_i ys rr e1
      cases e1
      split at e
      · rename_i is js e2 e3
        cases e
        obtain ⟨ps, h1, h2, h3⟩ := rows_at t e3
        cases r with
        | ktup ka l rl =>
          have ev := rl.ints e2
          have ex : ys = is.map .int := by
            clear h1 h2 h3 rl ev l ka e3 t
            revert is
            induction ys with
            | nil => intro is e; simp [intsOf] at e; subst e; rfl
            | cons y ys ih =>
              intro is e
              unfold intsOf at e
              split at e
              · rename_i z; cases z
              · rename_i i zs z
                cases z
                split at e
                · rename_i is' e2; cases e; rw [ih _ e2]; rfl
                · cases e
              · cases e
          refine ⟨(_, is) :: ps, by rw [h1]; rfl, by rw [← h2]; rfl, fun p hp => ?_⟩
          rcases List.mem_cons.mp hp with rfl | hp
          · refine ⟨ev ▸ ka.sq, ?_⟩
            show Rep M m H (.ktup (is.map .int)) _
            rw [← ex]
            exact .ktup ka l rl
          · exact h3 p hp
      · cases e
    · cases e
theorem rows_rep : ∀ {L : List (Addr × List Int)}, (∀ p ∈ L, Rep M m H (.ktup (p.2.map .int)) (.ref p.1)) → RepL M m H ((L.map (·.2)).map fun q => .ktup (q.map .int)) (L.map fun p => V.ref p.1)
  | [], _ => .nil
  | p :: L, h => .cons (h p List.mem_cons_self) (rows_rep fun q hq => h q (List.mem_cons_of_mem _ hq))
theorem ints_rep : ∀ (is : List Int), RepL M m H (is.map .int) (is.map V.int)
  | [] => .nil
  | i :: is => .cons (.int i) (ints_rep is)
end
section
variable {M : Md} {X : Cx} {W : WX} {c : Cfg} {a : Expr} {a' : E} {p p2 q pos : Pos}
/-- what is wanted of the items -/
def Two (K : PySem.W.Frag) (H : Hp) (l : Addr) (out : List V → Prop) : Prop := ∃ vs, (SqL K H l vs ∨ SqT K H l vs) ∧ ((∃ is, Src1 vs out is) ∨ ∃ ps d, Src2 K H vs out ps d)
/-- the new list, behind the set -/
theorem sort_end {pins : List (Addr × Obj)} {σ : St'} {H : Hp} {s s' : Shared} {Q : VK} {ws : List V} {p0 : Addr} {out : Array Value} {c0 : Nat} (I : Inv X pins σ H s) (o : ∀ b u, s.heap.get? b = some u → s'.heap.get? b = some u) (hp : s.heap.objs.size ≤ p0) (g : s'.gens = s.gens) (ho : s'.os = s.os)
    (hg : s'.heap.get? p0 = some (seqObj "list" out c0)) (hv : Vals ws out.toList) (hl : ws.length ≤ sizeLine) (hq : ∀ r, H r = none → Q (.ref r) (L2.upd H r (.lst ws))) : EP X pins σ Q (.ref p0) s' := by
  have hn : H p0 = none := I.hok.fresh hp
  have J : Inv X pins σ (L2.upd H p0 (.lst ws)) { s with heap := s'.heap, gens := s'.gens, drawn := s'.drawn, toks := s'.toks } :=
    I.call (ch := []) (Un.laid o hp hn) (I.hok.laid o hp ⟨hl, out.toList, c0, hv, hg⟩) (by rw [g]; exact I.bare) (fun _ z => nomatch z)
  have e : s' = { s with heap := s'.heap, gens := s'.gens, drawn := s'.drawn, toks := s'.toks } := by
    obtain ⟨h1, g1, d1, t1, o1⟩ := s'
    cases (show o1 = s.os from ho)
    rfl
  rw [e]
  exact ⟨.ref p0, _, J, rfl, hq p0 hn⟩
theorem sort_ints {pins : List (Addr × Obj)} {σ : St'} {H : Hp} {s : Shared} {Q : VK} {vs : List V} {is : List Int} {S : Addr} {n : Nat} (hc : X.calm = true) (I : Inv X pins σ H s) (x : Src1 vs (fun ws => ∀ r, H r = none → Q (.ref r) (L2.upd H r (.lst ws))) is) (R : SetR X.w s.heap S (fun j => decide (j ∈ is)) n) :
    wpAny (model X.prog X.w) X.A (call (.builtin "sorted") [.ref S]) (EP X pins σ Q) X.xe s := by
  have nlt : n < 64 := by
    obtain ⟨o, es, ep, t, ho, hex, hd, g, nd, hm, hb, hf, hn, _⟩ := id R
    have := nodup_le nd (m := dd is) fun k hk => mem_dd.mpr (of_decide_eq_true ((hm k).mpr hk))
    rw [List.length_map, Array.length_toList, hn] at this
    have := x.few
    omega
  refine sorted_set R (I.ok.hd hc) nlt fun s' p0 out c0 ns o g ho hp hg hi hs hm hl => ?_
  have e : ns = sortBy id (dd is) := pw_uniq (f := id) hs (pw_sortBy (nodup_dd _) fun a _ b _ e => e) fun z => by rw [hm, mem_sortBy, mem_dd, decide_eq_true_eq]
  refine sort_end I o hp g ho hg (vals_of_ints hi) ?_ (e ▸ x.k)
  rw [List.length_map, hl, sizeLine_eq]; omega
theorem sort_rows {pins : List (Addr × Obj)} {σ : St'} {H : Hp} {s : Shared} {Q : VK} {vs : List V} {ps : List (Addr × List Int)} {d : Nat} {S : Addr} {h0 : Heap} (hc : X.calm = true) (I : Inv X pins σ H s) (x : Src2 M.K H vs (fun ws => ∀ r, H r = none → Q (.ref r) (L2.upd H r (.lst ws))) ps d)
    (md : Mid X.prog X.w h0 S ps ps.length s.heap) : wpAny (model X.prog X.w) X.A (call (.builtin "sorted") [.ref S]) (EP X pins σ Q) X.xe s := by
  obtain ⟨L, es, ep, t, R, G⟩ := md.set
  have sub : ∀ p ∈ L, p ∈ ps := fun p hp => List.mem_of_mem_take (G.sub p hp)
  refine sorted_setT R (I.ok.hd hc) (d := d) (B := 64) x.d1 (fun p hp => x.bd p (sub p hp)) fun s' p0 out c0 L' o g ho hp hg hout pm pw => ?_
  have sub' : ∀ p ∈ L', p ∈ ps := fun p hp => sub p (pm.mem_iff.mp hp)
  have nd : (L'.map (·.2)).Nodup := (pm.map (·.2)).nodup_iff.mpr R.nd
  have few : L'.length < 64 := by rw [pm.length_eq]; exact R.few
  have inj : Parts codeB (dd (ps.map (·.2))) := fun a ha b hb e => by
    obtain ⟨pa, ha1, rfl⟩ := List.mem_map.mp (mem_dd.mp ha)
    obtain ⟨pb, hb1, rfl⟩ := List.mem_map.mp (mem_dd.mp hb)
    rw [codeB_eq, codeB_eq] at e
    obtain ⟨l1, b1⟩ := x.bd pa ha1
    obtain ⟨l2, b2⟩ := x.bd pb hb1
    exact code_inj (l1.trans l2.symm) b1 b2 e
  have pw2 : (L'.map (·.2)).Pairwise fun a b => codeB a < codeB b := by
    have h1 : (L'.map (·.2)).Pairwise fun a b => codeB a ≤ codeB b := List.pairwise_map.mpr (pw.imp fun {a b} h => by rw [codeB_eq, codeB_eq]; exact h)
    have h2 : (L'.map (·.2)).Pairwise fun a b => a ≠ b ∧ (a ∈ L'.map (·.2) ∧ b ∈ L'.map (·.2)) := by
      refine (List.Pairwise.and_mem.mp nd).imp fun {a b} ⟨ha, hb, ne⟩ => ⟨ne, ha, hb⟩
    refine (h1.and h2).imp fun {a b} ⟨le, ne, ha, hb⟩ => ?_
    have up : ∀ {z}, z ∈ L'.map (·.2) → z ∈ dd (ps.map (·.2)) := fun {z} hz => by
      obtain ⟨pz, hz1, rfl⟩ := List.mem_map.mp hz
      exact mem_dd.mpr (List.mem_map.mpr ⟨pz, sub' pz hz1, rfl⟩)
    have ne2 : codeB a ≠ codeB b := fun e => ne (inj a (up ha) b (up hb) e)
    omega
  have e : L'.map (·.2) = sortBy codeB (dd (ps.map (·.2))) := pw_uniq pw2 (pw_sortBy (nodup_dd _) inj) fun z => by
    rw [mem_sortBy, mem_dd]
    refine ⟨fun hz => ?_, fun hz => ?_⟩
    · obtain ⟨pz, hz1, rfl⟩ := List.mem_map.mp hz
      exact List.mem_map.mpr ⟨pz, sub' pz hz1, rfl⟩
    · obtain ⟨pz, hz1, rfl⟩ := List.mem_map.mp hz
      have := G.all pz (by rw [List.take_length]; exact hz1)
      exact ((pm.map (·.2)).mem_iff).mpr this
  refine sort_end I o hp g ho hg (by rw [hout]; exact vals_of_refs L') ?_ (x.k L' sub' e)
  rw [List.length_map, sizeLine_eq]; omega
theorem set_run {pins : List (Addr × Obj)} {σ : St'} {H : Hp} {s : Shared} {Q : VK} {l : Addr} (g : Gc M X) (I : Inv X pins σ H s) (x : Two M.K H l fun ws => ∀ r, H r = none → Q (.ref r) (L2.upd H r (.lst ws)))
    {Q2 : Value → Shared → Prop} (k : ∀ (S : Addr) (h' : Heap) (tk : Nat), wpAny (model X.prog X.w) X.A (call (.builtin "sorted") [.ref S]) (EP X pins σ Q) X.xe { s with heap := h', toks := tk } → Q2 (.ref S) { s with heap := h', toks := tk }) :
    wpAny (model X.prog X.w) X.A (call (.type "set") [.ref l]) Q2 X.xe s := by
  have hd := I.ok.hd g.calm
  have un : X.A.units + 3 < cLine := by have := g.un; omega
  have newS : s.heap.get? s.heap.objs.size = none := by
    cases e : s.heap.get? s.heap.objs.size with
    | none => rfl
    | some o => exact absurd (Heap.lt_size e) (Nat.lt_irrefl _)
  obtain ⟨vs, sq, hx⟩ := x
  -- whatever is filled in
  have main : ∀ {Φ : Heap → Prop} {items : Array Value}, ((s.heap.IsList l items) ∨ (s.heap.IsTuple l items)) → Fill X.prog X.w s.heap s.heap.objs.size items (X.A.units + 3) Φ → (∀ (h' : Heap) (tk : Nat), Φ h' → Q2 (.ref s.heap.objs.size) { s with heap := h', toks := tk }) →
      wpAny (model X.prog X.w) X.A (call (.type "set") [.ref l]) Q2 X.xe s := fun {Φ items} o f fin => o.elim (fun z => set_lst hd z f fin) fun z => set_tup hd z f fin
  have raw : ∃ its : List Value, Vals vs its ∧ ((s.heap.IsList l its.toArray) ∨ (s.heap.IsTuple l its.toArray)) := by
    rw [← g.K] at sq
    rcases sq with sq | sq
    · obtain ⟨its, r, pl, _⟩ := I.list sq
      exact ⟨its, r, .inl pl.isList⟩
    · obtain ⟨its, r, pl, _⟩ := I.tuple sq
      exact ⟨its, r, .inr pl⟩
  obtain ⟨its, r, o⟩ := raw
  rcases hx with ⟨is, x1⟩ | ⟨ps, d, x2⟩
  · have ei := x1.e
    subst ei
    refine main o (fill_ints (ns := is) (by simpa using Vals.ints r) (by have := x1.many; unfold scanBound; omega) newS) fun h' tk ⟨old, n, R⟩ => ?_
    have I2 : Inv X pins σ H { s with heap := h', toks := tk } := I.kept old
    exact k _ h' tk (sort_ints g.calm I2 x1 R)
  · have ep := x2.e
    subst ep
    have ei : its = ps.map fun p => Value.ref p.1 := refs_of_vals r
    refine main o (fill_rows (ks := ps) (by simpa using ei) (fun p hp => I.isT (by rw [g.K]; exact x2.sq p hp)) (fun L nd sub => ?_) newS un) fun h' tk md => ?_
    · have := nodup_le nd (m := dd (ps.map (·.2))) fun z hz => mem_dd.mpr (sub z hz)
      have := x2.few
      omega
    · have I2 : Inv X pins σ H { s with heap := h', toks := tk } := I.kept md.old
      exact k _ h' tk (sort_rows (M := M) g.calm I2 x2 md)
theorem s_srs (g : Gc M X) (hg : Gl X "sorted") (hg2 : Gl X "set") (ha : PE X a (tE M c W a')) (hs : isStar a = false) : PE X (.Call (.Name "sorted" p) [.Call (.Name "set" p2) [a] [] q] [] pos) (tF M c W (.srs a')) := by
  refine ⟨fun pins s σ H Q I ⟨ρ, S, m, re, rs, h⟩ => ?_⟩
  simp only [F.den] at h
  refine Call_ (ld_blt I hg (mem_blt g.toGd (by decide +kernel)) PyProof.Rows.boot_sorted ?_)
  refine PyProof.Rows.callWith_builtin1 (PyProof.Rows.args_cons ?_ rfl) rfl rfl
  refine Call_ (ld_blt I hg2 (mem_blt g.toGd (by decide +kernel)) PyProof.Rows.boot_set ?_)
  refine PyProof.Rows.callWith_type1 (PyProof.Rows.args_cons (thn (ha.run pins s σ H (fun u H1 => ∃ l, u = V.ref l ∧ Two M.K H1 l fun ws => ∀ r, H1 r = none → Q (.ref r) (L2.upd H1 r (.lst ws))) I ⟨ρ, S, m, re, rs, h.bind fun x S1 m1 H1 u e1 x1 rs1 r1 p1 => ?_⟩) fun v s1 ⟨x, H1, I1, r1, q1⟩ => PyProof.Rows.args_nil ?_) (starEach_cons hs)) (starEach_cons hs) rfl
  · split at p1
    case h_2 => exact False.elim p1
    rename_i xs e2
    obtain ⟨ys, e3, p2⟩ := p1.ofO
    obtain ⟨l, vs, rfl, sq, hl, rl⟩ := r1.seqOf rs1 e2
    refine ⟨l, rfl, vs, sq, ?_⟩
    unfold srsOf at e3
    split at e3
    · rename_i is e4
      split at e3
      · rename_i hb
        cases e3
        refine .inl ⟨is, rl.ints e4, hb.1, hb.2, fun r hr => p2.ok0 rs1 (ints_rep _) ?_ r hr⟩
        have : (sortBy id (dd is)).length ≤ (dd is).length := nodup_le ((pw_sortBy (f := id) (nodup_dd is) fun a _ b _ e => e).imp fun {a b} (h : id a < id b) => by intro e; subst e; exact Int.lt_irrefl _ h) fun z hz => mem_sortBy.mp hz
        rw [List.length_map]; show _ ≤ 16777216; omega
      · cases e3
    · split at e3
      · rename_i k ks e4
        split at e3
        · rename_i hb
          cases e3
          obtain ⟨ps, e5, e6, e7⟩ := rows_at rl e4
          refine .inr ⟨ps, k.length, e5, fun p hp => (e7 p hp).1, hb.1, fun p hp => ?_, by rw [e6]; exact hb.2.2, fun L sub eL r hr => ?_⟩
          · exact hb.2.1 p.2 (by rw [← e6]; exact List.mem_map.mpr ⟨p, hp, rfl⟩)
          · refine p2.ok0 rs1 ?_ ?_ r hr
            · rw [← e6, ← eL]
              exact rows_rep fun p hp => (e7 p (sub p hp)).2
            · have hL : L.length = (sortBy codeB (dd (ps.map (·.2)))).length := by rw [← eL, List.length_map]
              have inj : Parts codeB (dd (ps.map (·.2))) := fun a ha b hb2 e => by
                have h1 := hb.2.1 a (by rw [← e6]; exact mem_dd.mp ha)
                have h2 := hb.2.1 b (by rw [← e6]; exact mem_dd.mp hb2)
                rw [codeB_eq, codeB_eq] at e
                exact code_inj (h1.1.trans h2.1.symm) h1.2 h2.2 e
              have : (sortBy codeB (dd (ps.map (·.2)))).length ≤ (dd (ps.map (·.2))).length := nodup_le ((pw_sortBy (f := codeB) (nodup_dd _) inj).imp fun {a b} (h : codeB a < codeB b) => by intro e; subst e; exact Int.lt_irrefl _ h) fun z hz => mem_sortBy.mp hz
              have := hb.2.2
              rw [← e6] at this
              rw [List.length_map]; show _ ≤ 16777216; omega
        · cases e3
      · cases e3
  · obtain ⟨l, rfl, q1⟩ := q1
    cases r1
    refine set_run g I1 q1 fun S' h' tk z => PyProof.Rows.args_nil ?_
    exact z
end
end Pz
end
section
set_option Elab.async false
set_option linter.all false
set_option maxRecDepth 100000
/-! Pz: the compact syntax is checked against the text. -/
namespace Pz
open PySem PySem.Spec PyProof.Rows L2
/-- what is known of a place in the text: the slots' names, the scope, the names whose cells are new; hot: in a def that tells an error -/
structure Sx where
  N : List Str
  sc : Scope
  fn : Str → Bool
  hot : Bool := false
def Sx.blk (s : Sx) (scope : Scope) : Sx := { N := s.N, sc := relS scope s.sc, fn := fun x => scope.names.lookup x == some .cell, hot := s.hot }
/-- the program, the module's values, the own errors' classes' names that are asked for -/
structure Pt where
  P : Prog
  G : List (Str × PV)
  C : List Str
  /-- the classes that are caught, the defs that tell errors -/
  T : List Str := []
  H : List Str := []
def dbg (x : Str) : Bool := (x == ("__debug__" : Str)) || (x == ("__classdict__" : Str))
def gl (s : Sx) (x : Str) : Bool := decide (s.sc.names.lookup x = some .globalImplicit) && !dbg x
def vis (s : Sx) (x : Str) : Bool := match s.sc.names.lookup x with
  | some .local => true
  | some .cell => true
  | some .free => true
  | _ => false
def varOk (s : Sx) (i : Nat) (x : Str) : Bool := decide (s.N[i]? = some x) && (vis s x && !dbg x)
def locOk (s : Sx) (i : Nat) (x : Str) : Bool := decide (s.N[i]? = some x) && (match s.sc.names.lookup x with
  | some .local => true
  | some .cell => s.fn x
  | _ => false)
def chkC : PV → Expr → Bool
  | .int i, .Constant (.int j) _ _ => decide (i = j)
  | .bl i, .Constant (.bool j) _ _ => decide (i = j)
  | .non, .Constant .none _ _ => true
  | .str x, .Constant (.str y) _ _ => decide (x = y) && decide (x.length ≤ lim)
  | _, _ => false
def isSlice : Expr → Bool
  | .Slice .. => true
  | _ => false
def isSet : Expr → Bool
  | .Set .. => true
  | _ => false
def biName : Bi → Option Str
  | .len => some "len"
  | .abs => some "abs"
  | .int => some "int"
  | .all => some "all"
  | .any => some "any"
  | .sum => some "sum"
  | .tuple => some "tuple"
  | .str => none
def biHot : Bi → Bool
  | .all => false
  | .any => false
  | .sum => false
  | _ => true
def ownOf (s : Sx) (own : List Nat) : List (Str × Nat) := own.filterMap fun i => (s.N[i]?).map fun x => (x, i)
def compOk (s : Sx) (scope : Scope) (own : List Nat) (tg : Tg) : Bool := blkC s.N s.sc scope (ownOf s own) && (decide ((ownOf s own).map (·.2) = own) && tg.names.all fun i => own.contains i)
/-- n values are written, ds are the defaults that fill up -/
def callOk (P : Prog) (f : Str) (n : Nat) (ds : List PV) : Bool := match P.defs.lookup f with
  | some d => decide (d.dfl.length + n - d.params ≤ d.dfl.length) && PV.same.sameL ds (d.dfl.drop (d.dfl.length + n - d.params))
  | none => false
def keysOk : List Str → List (Option Expr) → Bool
  | [], [] => true
  | k :: ks, some (.Constant (.str x) _ _) :: r => decide (k = x) && (decide (k.length ≤ lim) && keysOk ks r)
  | _, _ => false
mutual
def chkE (p : Pt) (s : Sx) : E → Expr → Bool
  | .var i, e => (match e with
    | .Name x _ => varOk s i x
    | _ => false)
  | .con v, e => chkC v e
  | .glo x v, e => (match e with
    | .Name y _ => decide (x = y) && (gl s x && p.G.any fun q => decide (q.1 = x) && PV.same q.2 v)
    | _ => false)
  | .tup es, e => (match e with
    | .Tuple xs _ _ => decide (es.len ≤ 1000) && chkEs p s es xs
    | _ => false)
  | .ktup es, e => (match e with
    | .Tuple xs _ _ => decide (es.len ≤ 1000) && chkEs p s es xs
    | _ => false)
  | .ro f, e => chkF p s f e
  | .mk f, e => chkF p s f e
  | .bin op a b, e => (match e with
    | .BinOp x o y _ => decide (bopOf o = some op) && (chkE p s a x && chkE p s b y)
    | _ => false)
  | .neg a, e => (match e with
    | .UnaryOp .USub x _ => chkE p s a x
    | _ => false)
  | .cmp op a b, e => (match e with
    | .Compare x [o] [y] _ => decide (copOf o = some op) && (!behindInMarks o y && (chkE p s a x && chkE p s b y))
    | _ => false)
  | .chain o1 o2 a b d, e => (match e with
    | .Compare x [q1, q2] [y, z] _ => decide (copOf q1 = some o1) && (decide (copOf q2 = some o2) && (!lastMarks [q1, q2] [y, z] && (chkE p s a x && (chkE p s b y && chkE p s d z))))
    | _ => false)
  | .isN a, e => (match e with
    | .Compare x [.Is] [.Constant .none _ _] _ => chkE p s a x
    | _ => false)
  | .notN a, e => (match e with
    | .Compare x [.IsNot] [.Constant .none _ _] _ => chkE p s a x
    | _ => false)
  | .and a b, e => (match e with
    | .BoolOp .And [x, y] _ => chkE p s a x && chkE p s b y
    | .BoolOp .And (x :: y :: z :: rest) q => chkE p s a x && chkE p s b (.BoolOp .And (y :: z :: rest) q)
    | _ => false)
  | .or a b, e => (match e with
    | .BoolOp .Or [x, y] _ => chkE p s a x && chkE p s b y
    | .BoolOp .Or (x :: y :: z :: rest) q => chkE p s a x && chkE p s b (.BoolOp .Or (y :: z :: rest) q)
    | _ => false)
  | .not a, e => (match e with
    | .UnaryOp .Not x _ => chkE p s a x
    | _ => false)
  | .ite d a b, e => (match e with
    | .IfExp x y z _ => chkE p s d x && (chkE p s a y && chkE p s b z)
    | _ => false)
  | .idx a i, e => (match e with
    | .Subscript x y _ => !isSlice y && (chkE p s a x && chkE p s i y)
    | _ => false)
  | .slc a lo hi, e => (match e with
    | .Subscript x (.Slice l h none _) _ => chkE p s a x && (chkEo p s lo l && chkEo p s hi h)
    | _ => false)
  | .rev a, e => (match e with
    | .Subscript x (.Slice none none (some (.UnaryOp .USub (.Constant (.int 1) _ _) _)) _) _ => chkE p s a x
    | _ => false)
  | .bi f (.cons a .nil), e => (match e with
    | .Call (.Name x _) [y] [] _ => decide (biName f = some x) && (gl s x && ((!s.hot || biHot f) && (!isStar y && chkE p s a y)))
    | _ => false)
  | .bi _ _, _ => false
  | .inst a t, e => (match e with
    | .Call (.Name x _) [y, .Name tn _] [] _ => decide (x = "isinstance") && (decide (tn = Str.ofString t.name) && (gl s x && (gl s tn && (!isStar y && chkE p s a y))))
    | _ => false)
  | .call f es ds, e => (match e with
    | .Call (.Name x _) xs [] _ => decide (x = f) && (gl s x && (!s.hot && (callOk p.P f xs.length ds && chkEs p s es xs)))
    | _ => false)
  | .callK f es ds, e => (match e with
    | .Call (.Name x _) xs [] _ => decide (x = f) && (gl s x && (!s.hot && (callOk p.P f xs.length ds && chkEs p s es xs)))
    | _ => false)
  | .callV (.var i) es, e => (match e with
    | .Call (.Name x _) xs [] _ => varOk s i x && (!s.hot && chkEs p s es xs)
    | _ => false)
  | .callV _ _, _ => false
  | .meth o m es, e => (match e with
    | .Call (.Attribute x mn ap) xs [] q => decide (mn = m) && (!s.hot && (!nullCall x && (decide (xs.length < 30) && ((ap.endLine == q.line) && (chkE p s o x && chkEs p s es xs)))))
    | _ => false)
  | .make C es, e => (match e with
    | .Call (.Name x _) (y :: ys) [] _ => decide (x = C) && (gl s x && (!s.hot && ((p.P.meths.lookup (C, ("__init__" : Str))).isSome && chkEs p s es (y :: ys))))
    | _ => false)
  | .fld o f, e => (match e with
    | .Attribute x f' _ => decide (f' = f) && (!nullCall x && chkE p s o x)
    | _ => false)
  | .app o a, e => (match e with
    | .Call (.Attribute x mn ap) [y] [] q => decide (mn = "append") && (!nullCall x && (!isStar y && ((ap.endLine == q.line) && (chkE p s o x && chkE p s a y))))
    | _ => false)
  | .ext o a, e => (match e with
    | .Call (.Attribute x mn ap) [y] [] q => decide (mn = "extend") && (!nullCall x && (!isStar y && ((ap.endLine == q.line) && (chkE p s o x && chkE p s a y))))
    | _ => false)
  | .ixo o a, e => (match e with
    | .Call (.Attribute x mn ap) [y] [] q => decide (mn = "index") && (!nullCall x && (!isStar y && ((ap.endLine == q.line) && (chkE p s o x && chkE p s a y))))
    | _ => false)
  | .dcomp t k v tg it own, e => (match e with
    | .DictComp kx vx [⟨tx, iter, [], z⟩] scope _ => decide (z = 0) && (compOk s scope own tg && (!s.hot && (chkTg p (s.blk scope) tg tx && (chkIt p s it tx iter && (chkE p (s.blk scope) k kx && (chkE p (s.blk scope) v vx && !isSet iter))))))
    | _ => false)
  | .ddisp ks es, e => (match e with
    | .Dict keys xs _ => keysOk ks keys && (decide (ks.length = es.len) && (decide (keys.length ≤ 15) && (!keys.isEmpty && (decide ks.Nodup && chkEs p s es xs))))
    | _ => false)
  | .xfld o f, e => (match e with
    | .Attribute x f' _ => decide (f' = f) && (s.hot && (!nullCall x && (decide (f ∈ p.P.fld.map (·.2)) && chkE p s o x)))
    | _ => false)
  | .instE a cl, e => (match e with
    | .Call (.Name x _) [y, .Name tn _] [] _ => decide (x = "isinstance") && (decide (tn = cl) && (s.hot && (decide (cl ∈ p.C) && (gl s x && (gl s tn && (!isStar y && chkE p s a y))))))
    | _ => false)
  | .cntB o b, e => (match e with
    | .Call (.Attribute x mn ap) [.Constant (.bool b') _ _] [] q => decide (mn = "count") && (decide (b' = b) && (!nullCall x && ((ap.endLine == q.line) && chkE p s o x)))
    | _ => false)
  | .ixB o b, e => (match e with
    | .Call (.Attribute x mn ap) [.Constant (.bool b') _ _] [] q => decide (mn = "index") && (decide (b' = b) && (!nullCall x && ((ap.endLine == q.line) && chkE p s o x)))
    | _ => false)
  | .str1 a, e => (match e with
    | .Call (.Name x _) [y] [] _ => decide (x = "str") && (gl s x && (!isStar y && chkE p s a y))
    | _ => false)
def chkEs (p : Pt) (s : Sx) : Es → List Expr → Bool
  | .nil, xs => xs.isEmpty
  | .cons e es, xs => (match xs with
    | x :: xs => !isStar x && (chkE p s e x && chkEs p s es xs)
    | [] => false)
def chkEo (p : Pt) (s : Sx) : Eo → Option Expr → Bool
  | .none, x => x.isNone
  | .some e, x => (match x with
    | some x => chkE p s e x
    | none => false)
def chkIf (p : Pt) (s : Sx) : Eo → List Expr → Bool
  | .none, xs => xs.isEmpty
  | .some e, xs => (match xs with
    | [x] => chkE p s e x
    | _ => false)
def chkF (p : Pt) (s : Sx) : F → Expr → Bool
  | .disp es, e => (match e with
    | .List xs _ => decide (es.len ≤ 1000) && chkEs p s es xs
    | _ => false)
  | .comp e0 tg it cond own, e => (match e with
    | .ListComp elt [⟨tx, iter, ifs, z⟩] scope _ => decide (z = 0) && (compOk s scope own tg && (!s.hot && (chkTg p (s.blk scope) tg tx && (chkIt p s it tx iter && (chkIf p (s.blk scope) cond ifs && (chkE p (s.blk scope) e0 elt && !isSet iter))))))
    | _ => false)
  | .lst a, e => (match e with
    | .Call (.Name x _) [y] [] _ => decide (x = "list") && (gl s x && (!isStar y && chkE p s a y))
    | _ => false)
  | .add a b, e => (match e with
    | .BinOp x .Add y _ => chkE p s a x && chkE p s b y
    | _ => false)
  | .srs a, e => (match e with
    | .Call (.Name x _) [.Call (.Name y _) [z] [] _] [] _ => decide (x = "sorted") && (decide (y = "set") && (gl s x && (gl s y && (!s.hot && (!isStar z && chkE p s a z)))))
    | _ => false)
def chkIt (p : Pt) (s : Sx) : It → Expr → Expr → Bool
  | .seq a, _, e => chkE p s a e
  | .rng1 a, _, e => (match e with
    | .Call (.Name x _) [y] [] _ => decide (x = "range") && (gl s x && (!isStar y && chkE p s a y))
    | _ => false)
  | .rng2 a b, _, e => (match e with
    | .Call (.Name x _) [y, z] [] _ => decide (x = "range") && (gl s x && (!isStar y && (!isStar z && (chkE p s a y && chkE p s b z))))
    | _ => false)
  | .rngD a b, _, e => (match e with
    | .Call (.Name x _) [y, z, .UnaryOp .USub (.Constant (.int 1) _ _) _] [] _ => decide (x = "range") && (gl s x && (!isStar y && (!isStar z && (chkE p s a y && chkE p s b z))))
    | _ => false)
  | .enm a, t, e => (match t, e with
    | .Tuple _ _ _, .Call (.Name x _) [y] [] _ => decide (x = "enumerate") && (gl s x && (!isStar y && chkE p s a y))
    | _, _ => false)
  | .zip a b, t, e => (match t, e with
    | .Tuple _ _ _, .Call (.Name x _) [y, z] [] _ => decide (x = "zip") && (gl s x && (!isStar y && (!isStar z && (chkE p s a y && chkE p s b z))))
    | _, _ => false)
def chkTg (p : Pt) (s : Sx) : Tg → Expr → Bool
  | .nm i, e => (match e with
    | .Name x _ => locOk s i x
    | _ => false)
  | .tup ts, e => (match e with
    | .Tuple xs _ _ => !s.hot && chkTgs p s ts xs
    | _ => false)
  | .fld o f, e => (match e with
    | .Attribute x f' _ => decide (f' = f) && chkE p s o x
    | _ => false)
  | .sub o i, e => (match e with
    | .Subscript x y _ => !isSlice y && (chkE p s o x && chkE p s i y)
    | _ => false)
def chkTgs (p : Pt) (s : Sx) : Tgs → List Expr → Bool
  | .nil, xs => xs.isEmpty
  | .cons t ts, xs => (match xs with
    | x :: xs => !isStar x && (chkTg p s t x && chkTgs p s ts xs)
    | [] => false)
end
end Pz
end
section
set_option Elab.async false
set_option linter.all false
set_option maxRecDepth 100000
set_option maxHeartbeats 4000000
/-! Pz: what is checked holds: expressions. -/
namespace Pz
open PySem PySem.Spec PyProof.Rows L2
def dfltOf (P : Prog) (f : Str) : List PV := match P.defs.lookup f with
  | some d => d.dfl
  | none => []
/-- what the module says -/
structure Fx (M : Md) (p : Pt) (prog : Program) (c : Cfg) : Prop where
  glo : ∀ x v, (x, v) ∈ p.G → GloOk M x v
  fns : ∀ f d, p.P.defs.lookup f = some d → ∃ a, M.mg f = some (.ref a) ∧ PySem.W.keepIn M.K (.ref a) = true
  at_ : AttrOk M c
  has : ∀ C m, c.has C m = (p.P.meths.lookup (C, m)).isSome
structure CtxE (M : Md) (p : Pt) (X : Cx) (s : Sx) (W : WX) (c : Cfg) (k : Nat) : Prop where
  N : X.N = s.N
  sc : X.env.scope = s.sc
  fn : X.fn = s.fn
  g : Gd M X
  calm : s.hot = false → X.calm = true
  calls : s.hot = false → Calls M X W c (dfltOf p.P) k
  fx : Fx M p X.prog c
  hotx : s.hot = true → ∃ a C dd y, HotOk M X a C dd y ∧ ErrC M.K C ∧ (∀ cl ∈ p.C, ∃ Cl, M.mg cl = some (.ref Cl) ∧ PySem.W.kitOne M.K (.ref C) (.ref Cl) = some (decide (cl ∈ y :: c.sub y))) ∧ (∀ f ∈ p.P.fld.map (·.2), PySem.W.findIn M.K (.ref C) f = some none) ∧ ∀ y, M.fld y = c.fld y
section
variable {M : Md} {p : Pt} {X : Cx} {s : Sx} {W : WX} {c : Cfg} {k : Nat}
theorem CtxE.gc (h : CtxE M p X s W c k) (n : s.hot = false) : Gc M X := ⟨h.g, h.calm n⟩
theorem dbg_no {x : Str} (h : dbg x = false) : (x == ("__debug__" : Str)) = false ∧ (x == ("__classdict__" : Str)) = false := Bool.or_eq_false_iff.mp h
theorem CtxE.gl (h : CtxE M p X s W c k) {x : Str} (e : gl s x = true) : Gl X x ∧ (x == ("__debug__" : Str)) = false := by
  unfold Pz.gl at e
  simp only [Bool.and_eq_true, decide_eq_true_eq, Bool.not_eq_true'] at e
  refine ⟨?_, (dbg_no e.2).1⟩
  show X.env.scope.names.lookup x = _
  rw [h.sc]; exact e.1
theorem CtxE.vis (h : CtxE M p X s W c k) {x : Str} (e : Pz.vis s x = true) : Vis X.env.scope x := by
  unfold Pz.vis at e
  unfold Vis
  rw [h.sc]
  split at e
  · rename_i q; exact .inl q
  · rename_i q; exact .inr (.inl q)
  · rename_i q; exact .inr (.inr q)
  · cases e
theorem CtxE.var (h : CtxE M p X s W c k) {i : Nat} {x : Str} (e : varOk s i x = true) : X.N[i]? = some x ∧ Vis X.env.scope x ∧ (x == ("__debug__" : Str)) = false ∧ (x == ("__classdict__" : Str)) = false := by
  unfold varOk at e
  simp only [Bool.and_eq_true, decide_eq_true_eq, Bool.not_eq_true'] at e
  exact ⟨by rw [h.N]; exact e.1, h.vis e.2.1, dbg_no e.2.2⟩
theorem CtxE.loc (h : CtxE M p X s W c k) {i : Nat} {x : Str} (e : locOk s i x = true) : X.N[i]? = some x ∧ L2.Loc X.env.scope x ∧ (X.fn x = true ∨ X.env.scope.names.lookup x = some .local) := by
  unfold locOk at e
  simp only [Bool.and_eq_true, decide_eq_true_eq] at e
  obtain ⟨e1, e2⟩ := e
  refine ⟨by rw [h.N]; exact e1, ?_⟩
  unfold L2.Loc
  rw [h.sc, h.fn]
  split at e2
  · rename_i q; exact ⟨.inl q, .inr q⟩
  · rename_i q; exact ⟨.inr q, .inl e2⟩
  · cases e2
theorem CtxE.blk (h : CtxE M p X s W c k) (n : s.hot = false) {st : Shared} {H : Hp} {scope : Scope} {cl : List (Str × Addr)} {C : Addr} {fp : List Addr} : CtxE M p (X.blk st H scope (compEnvC scope cl C X.env) fp) (s.blk scope) WF c k where
  N := h.N
  sc := by
    show relS scope X.env.scope = relS scope s.sc
    rw [h.sc]
  fn := rfl
  g := h.g.blk
  calm := fun _ => h.calm n
  calls := fun _ => let cc := h.calls n; ⟨cc.room, fun σ => pass_no σ, cc.fn, cc.mt, cc.mke⟩
  fx := h.fx
  hotx := fun e => by have : s.hot = true := e; rw [n] at this; cases this
/-! ### rows -/
theorem PEs.pa : ∀ {xs : List Expr} {es : Es}, PEs M X c W xs es → (∀ x ∈ xs, isStar x = false) → PA X xs (tEs M c W es)
  | _, _, .nil, _ => s_nil
  | _, _, .cons h t, n => s_cons h (PEs.pa t fun x hx => n x (List.mem_cons_of_mem _ hx)) (starEach_cons (n _ List.mem_cons_self))
theorem PEs.len : ∀ {xs : List Expr} {es : Es}, PEs M X c W xs es → xs.length = es.len
  | _, _, .nil => rfl
  | _, _, .cons _ t => by simp [Es.len, t.len]
theorem Es.den_len : ∀ {es : Es} {ρ : Env} {S : Store} {vs : List PV} {S1 : Store}, es.den c ρ S = .ok vs S1 → vs.length = es.len
  | .nil, ρ, S, vs, S1, h => by simp only [Es.den] at h; cases h; rfl
  | .cons e es, ρ, S, vs, S1, h => by
    simp only [Es.den] at h
    obtain ⟨v, S2, h1, h⟩ := R.bind_ok_iff h
    obtain ⟨ws, S3, h2, h⟩ := R.bind_ok_iff h
    cases h
    simp [Es.len, Es.den_len h2]
theorem Tgs.den_ok : ∀ {ts : Tgs} {xs : List PV} {ρ : Env} {S : Store} {ρ1 : Env} {S1 : Store}, ts.den c xs ρ S = .ok ρ1 S1 → xs.length = ts.len
  | .nil, xs, ρ, S, ρ1, S1, h => by
    simp only [Tgs.den] at h
    split at h
    · rfl
    · cases h
  | .cons t ts, xs, ρ, S, ρ1, S1, h => by
    simp only [Tgs.den] at h
    split at h
    · split at h
      · split at h
        · rename_i e
          simp [Tgs.len, Tgs.den_ok e]
        · cases h
      · cases h
    · cases h
theorem Tgs.den_exc : ∀ {ts : Tgs} {xs : List PV} {ρ : Env} {S : Store} {x v} {S1 : Store}, ts.den c xs ρ S ≠ .exc x v S1
  | .nil, xs, ρ, S, x, v, S1, h => by
    simp only [Tgs.den] at h
    split at h <;> cases h
  | .cons t ts, xs, ρ, S, x, v, S1, h => by
    simp only [Tgs.den] at h
    split at h
    · split at h
      · split at h <;> cases h
      · cases h
    · cases h
theorem notSet {e : Expr} (h : isSet e = false) {env : PySem.Env} : ∀ x, foldedSetIterable e env x = pure x := by
  intro x
  cases e <;> first | rfl | cases h
theorem plainIx {e : Expr} (h : isSlice e = false) : PlainIx e := by
  intro o i
  cases e <;> first | rfl | cases h
theorem assign_sub {a b : Expr} {q : Pos} {env : PySem.Env} (h : isSlice b = false) : ∀ v, assign (.Subscript a b q) env v = (do
      let ov ← holding [v] (eval a env)
      let iv ← holding [v, ov] (eval b env)
      standAt q
      holding [v, ov, iv] (setItem ov iv v)
      release [v, ov, iv] []) := by
  intro v
  cases b <;> first | rfl | cases h
theorem few_of {q : Pos} {env : PySem.Env} : ∀ {xs : List Expr}, (∀ x ∈ xs, isStar x = false) → (backTo q (starEach xs env)).all (fun x => !x.1) = true
  | [], _ => rfl
  | a :: xs, h => by
    rw [starEach_cons (h a List.mem_cons_self)]
    show (true && (backTo q (starEach xs env)).all _) = true
    rw [few_of fun x hx => h x (List.mem_cons_of_mem _ hx)]; rfl
theorem form_of {q : Pos} {env : PySem.Env} {xs : List Expr} (h : ∀ x ∈ xs, isStar x = false) (l : xs.length < 30) : methodCallForm xs.length (backTo q (starEach xs env)) [] = true := by
  have := few_of (q := q) (env := env) h
  unfold methodCallForm
  simp [this, l]
theorem pt_pw {op : PySem.BoolOp} {vs : List Expr} {q : Pos} {t : TT} (h : PT X (.BoolOp op vs q) t) : PW X (.BoolOp op vs q) t := ⟨fun wh pins st σ H Q I w => h.run pins st σ H Q I w⟩
theorem keys_at : ∀ {ks : List Str} {keys : List (Option Expr)}, keysOk ks keys = true → keys.length = ks.length ∧ keys.all (·.isSome) = true ∧ ∀ (i : Nat) (k : Str), ks[i]? = some k → ∃ j q, keys[i]? = some (some (.Constant (.str k) j q)) ∧ k.length ≤ lim
  | [], [], _ => ⟨rfl, rfl, fun i k h => by simp at h⟩
  | [], _ :: _, h => by cases h
  | _ :: _, [], h => by cases h
  | k :: ks, y :: keys, h => by
    unfold keysOk at h
    split at h
    · rename_i e1 e2; cases e1
    · rename_i k' ks' x j q r e1 e2
      cases e1
      cases e2
      simp only [Bool.and_eq_true, decide_eq_true_eq] at h
      obtain ⟨h1, h2, h3⟩ := h
      obtain ⟨g1, g2, g3⟩ := keys_at h3
      subst h1
      refine ⟨by simp [g1], by simpa using g2, fun i k0 e => ?_⟩
      cases i with
      | zero => simp at e; subst e; exact ⟨j, q, rfl, h2⟩
      | succ i => exact g3 i k0 (by simpa using e)
    · cases h
end
end Pz
end
section
set_option Elab.async false
set_option linter.all false
set_option maxRecDepth 100000
set_option maxHeartbeats 8000000
/-! Pz: what is checked holds. -/
namespace Pz
open PySem PySem.Spec PyProof.Rows L2
section
variable {M : Md} {p : Pt} {c : Cfg}
/-- a value and a test -/
def Both (M : Md) (X : Cx) (c : Cfg) (W : WX) (e' : E) (e : Expr) : Prop := PE X e (tE M c W e') ∧ PT X e (tT M c W e')
theorem both_of {X : Cx} {W : WX} {e : Expr} {e' : E} (g : Gd M X) (h : PE X e (tE M c W e')) (he : ∀ whole, isTrue e X.env whole = (do let v ← whole; standAt e.pos; holding [v] (PySem.truthy v))) : Both M X c W e' e := ⟨h, s_test g h he⟩
theorem ixC {X : Cx} {s : Sx} {W : WX} {k : Nat} (h : CtxE M p X s W c k) {v : PV} {e : Expr} (e1 : chkC v e = true) : Both M X c W (.con v) e := by
  unfold chkC at e1
  split at e1
  · simp only [decide_eq_true_eq] at e1; subst e1; exact both_of h.g s_int fun _ => rfl
  · simp only [decide_eq_true_eq] at e1; subst e1; exact both_of h.g s_bl fun _ => rfl
  · exact both_of h.g s_non fun _ => rfl
  · simp only [Bool.and_eq_true, decide_eq_true_eq] at e1; obtain ⟨e1, e2⟩ := e1; subst e1; exact both_of h.g (s_str e2) fun _ => rfl
  · cases e1
theorem own_of {s : Sx} {X : Cx} {W : WX} {k : Nat} (h : CtxE M p X s W c k) {scope : Scope} {own : List Nat} {tg : Tg} (e : compOk s scope own tg = true) : BlkOk X.N X.env.scope scope (ownOf s own) ∧ (ownOf s own).map (·.2) = own ∧ ∀ i ∈ tg.names, i ∈ own := by
  unfold compOk at e
  simp only [Bool.and_eq_true, decide_eq_true_eq, List.all_eq_true] at e
  obtain ⟨e1, e2, e3⟩ := e
  refine ⟨blkOk_by (by rw [h.N, h.sc]; exact e1), e2, fun i hi => ?_⟩
  have := e3 i hi
  simpa using this
theorem callOk_of {P : Prog} {f : Str} {n : Nat} {ds : List PV} (e : callOk P f n ds = true) : (∃ d, P.defs.lookup f = some d) ∧ ∃ j, j ≤ (dfltOf P f).length ∧ ds = (dfltOf P f).drop j := by
  unfold callOk at e
  unfold dfltOf
  split at e
  · rename_i d ed
    simp only [Bool.and_eq_true, decide_eq_true_eq] at e
    rw [ed]
    exact ⟨⟨d, rfl⟩, _, e.1, sameL_eq e.2⟩
  · cases e
theorem nStar {x : Expr} (h : (!isStar x) = true) : isStar x = false := by simpa using h
theorem nHot {s : Sx} (h : (!s.hot) = true) : s.hot = false := by simpa using h
mutual
theorem chkE_ok : ∀ (e' : E) {s : Sx} {e : Expr} {X : Cx} {W : WX} {k : Nat}, CtxE M p X s W c k → chkE p s e' e = true → Both M X c W e' e
  | .var i, s, e, X, W, k, h, q => by
    unfold chkE at q
    split at q
    · obtain ⟨h1, h2, h3, h4⟩ := h.var q
      exact both_of h.g (s_var h1 h2 h3 h4) fun _ => rfl
    · cases q
  | .con v, s, e, X, W, k, h, q => by
    unfold chkE at q
    exact ixC h q
  | .glo x v, s, e, X, W, k, h, q => by
    unfold chkE at q
    split at q
    · simp only [Bool.and_eq_true, decide_eq_true_eq, List.any_eq_true] at q
      obtain ⟨rfl, q1, ⟨x2, v2⟩, q2, q3, q4⟩ := q
      simp only at q3 q4
      subst q3
      have := same_eq q4
      subst this
      obtain ⟨g1, g2⟩ := h.gl q1
      exact both_of h.g (s_glo h.g g1 (h.fx.glo _ _ q2) g2) fun _ => rfl
    · cases q
  | .tup es, s, e, X, W, k, h, q => by
    unfold chkE at q
    split at q
    · simp only [Bool.and_eq_true, decide_eq_true_eq] at q
      obtain ⟨h1, h2⟩ := chkEs_ok es h q.2
      exact both_of h.g (s_tup (h1.pa h2) (Nat.le_trans q.1 (by decide)) fun _ _ _ _ => Es.den_len) fun _ => rfl
    · cases q
  | .ktup es, s, e, X, W, k, h, q => by
    unfold chkE at q
    split at q
    · simp only [Bool.and_eq_true, decide_eq_true_eq] at q
      obtain ⟨h1, h2⟩ := chkEs_ok es h q.2
      exact both_of h.g (s_ktup (h1.pa h2) (Nat.le_trans q.1 (by decide)) fun _ _ _ _ => Es.den_len) fun _ => rfl
    · cases q
  | .ro f, s, e, X, W, k, h, q => by
    unfold chkE at q
    obtain ⟨h1, h2⟩ := chkF_ok f h q
    exact both_of h.g (s_ro h1) (h2 _)
  | .mk f, s, e, X, W, k, h, q => by
    unfold chkE at q
    obtain ⟨h1, h2⟩ := chkF_ok f h q
    exact both_of h.g (s_mk h1) (h2 _)
  | .bin op a b, s, e, X, W, k, h, q => by
    unfold chkE at q
    split at q
    · simp only [Bool.and_eq_true, decide_eq_true_eq] at q
      exact both_of h.g (s_bin h.g q.1 (chkE_ok a h q.2.1).1 (chkE_ok b h q.2.2).1) fun _ => rfl
    · cases q
  | .neg a, s, e, X, W, k, h, q => by
    unfold chkE at q
    split at q
    · exact both_of h.g (s_neg (chkE_ok a h q).1) fun _ => rfl
    · cases q
  | .cmp op a b, s, e, X, W, k, h, q => by
    unfold chkE at q
    split at q
    · simp only [Bool.and_eq_true, decide_eq_true_eq, Bool.not_eq_true'] at q
      exact ⟨s_cmp h.g q.1 (chkE_ok a h q.2.2.1).1 (chkE_ok b h q.2.2.2).1 q.2.1, s_cmpT h.g q.1 (chkE_ok a h q.2.2.1).1 (chkE_ok b h q.2.2.2).1 q.2.1⟩
    · cases q
  | .chain o1 o2 a b d, s, e, X, W, k, h, q => by
    unfold chkE at q
    split at q
    · simp only [Bool.and_eq_true, decide_eq_true_eq, Bool.not_eq_true'] at q
      obtain ⟨q1, q2, q3, q4, q5, q6⟩ := q
      exact ⟨s_chain h.g q1 q2 (chkE_ok a h q4).1 (chkE_ok b h q5).1 (chkE_ok d h q6).1 q3, s_chainT h.g q1 q2 (chkE_ok a h q4).1 (chkE_ok b h q5).1 (chkE_ok d h q6).1 q3⟩
    · cases q
  | .isN a, s, e, X, W, k, h, q => by
    unfold chkE at q
    split at q
    · exact ⟨s_isN (chkE_ok a h q).1, s_isNT (chkE_ok a h q).1⟩
    · cases q
  | .notN a, s, e, X, W, k, h, q => by
    unfold chkE at q
    split at q
    · exact ⟨s_notN (chkE_ok a h q).1, s_notNT (chkE_ok a h q).1⟩
    · cases q
  | .and a b, s, e, X, W, k, h, q => by
    unfold chkE at q
    split at q
    · simp only [Bool.and_eq_true] at q
      have h1 := chkE_ok a h q.1
      have h2 := chkE_ok b h q.2
      exact ⟨s_and h.g h1.1 (pe_one h2.1), (w_and h1.2 (w_and1 h2.2)).pt⟩
    · simp only [Bool.and_eq_true] at q
      have h1 := chkE_ok a h q.1
      have h2 := chkE_ok b h q.2
      exact ⟨s_and h.g h1.1 h2.1, (w_and h1.2 (pt_pw h2.2)).pt⟩
    · cases q
  | .or a b, s, e, X, W, k, h, q => by
    unfold chkE at q
    split at q
    · simp only [Bool.and_eq_true] at q
      have h1 := chkE_ok a h q.1
      have h2 := chkE_ok b h q.2
      exact ⟨s_or h.g h1.1 (pe_one h2.1), (w_or h1.2 (w_or1 h2.2)).pt⟩
    · simp only [Bool.and_eq_true] at q
      have h1 := chkE_ok a h q.1
      have h2 := chkE_ok b h q.2
      exact ⟨s_or h.g h1.1 h2.1, (w_or h1.2 (pt_pw h2.2)).pt⟩
    · cases q
  | .not a, s, e, X, W, k, h, q => by
    unfold chkE at q
    split at q
    · exact ⟨s_not (chkE_ok a h q).1 h.g, s_notT (chkE_ok a h q).2⟩
    · cases q
  | .ite d a b, s, e, X, W, k, h, q => by
    unfold chkE at q
    split at q
    · simp only [Bool.and_eq_true] at q
      have h0 := chkE_ok d h q.1
      have h1 := chkE_ok a h q.2.1
      have h2 := chkE_ok b h q.2.2
      exact ⟨s_ite h0.2 h1.1 h2.1, s_iteT h0.2 h1.2 h2.2⟩
    · cases q
  | .idx a i, s, e, X, W, k, h, q => by
    unfold chkE at q
    split at q
    · simp only [Bool.and_eq_true, Bool.not_eq_true'] at q
      exact both_of h.g (s_idx h.g (chkE_ok a h q.2.1).1 (chkE_ok i h q.2.2).1 (plainIx q.1)) fun _ => rfl
    · cases q
  | .slc a lo hi, s, e, X, W, k, h, q => by
    unfold chkE at q
    split at q
    · simp only [Bool.and_eq_true] at q
      exact both_of h.g (s_slc h.g (chkE_ok a h q.1).1 (chkEo_ok lo h q.2.1) (chkEo_ok hi h q.2.2)) fun _ => rfl
    · cases q
  | .rev a, s, e, X, W, k, h, q => by
    unfold chkE at q
    split at q
    · exact both_of h.g (s_rev h.g (chkE_ok a h q).1) fun _ => rfl
    · cases q
  | .bi f (.cons a .nil), s, e, X, W, k, h, q => by
    unfold chkE at q
    split at q
    · simp only [Bool.and_eq_true, decide_eq_true_eq] at q
      obtain ⟨q1, q2, q3, q4, q5⟩ := q
      obtain ⟨g1, g2⟩ := h.gl q2
      have h1 := chkE_ok a h q5
      have hs := nStar q4
      have ha := s_cons h1.1 s_nil (starEach_cons hs)
      cases f <;> simp [biName] at q1 <;> subst q1
      · exact both_of h.g (s_len h.g g1 ha hs) fun _ => rfl
      · exact both_of h.g (s_abs h.g g1 ha hs) fun _ => rfl
      · exact both_of h.g (s_intC h.g g1 ha hs) fun _ => rfl
      · have n : s.hot = false := by simpa [biHot] using q3
        exact both_of h.g (s_all (h.gc n) g1 ha hs) fun _ => rfl
      · have n : s.hot = false := by simpa [biHot] using q3
        exact both_of h.g (s_any (h.gc n) g1 ha hs) fun _ => rfl
      · have n : s.hot = false := by simpa [biHot] using q3
        exact both_of h.g (s_sum (h.gc n) g1 ha hs) fun _ => rfl
      · exact both_of h.g (s_tupleC h.g g1 ha hs) fun _ => rfl
    · cases q
  | .bi f .nil, s, e, X, W, k, h, q => by unfold chkE at q; cases q
  | .bi f (.cons _ (.cons _ _)), s, e, X, W, k, h, q => by unfold chkE at q; cases q
  | .inst a t, s, e, X, W, k, h, q => by
    unfold chkE at q
    split at q
    · simp only [Bool.and_eq_true, decide_eq_true_eq] at q
      obtain ⟨rfl, rfl, q1, q2, q3, q4⟩ := q
      exact both_of h.g (s_inst h.g rfl (h.gl q1).1 (h.gl q2).1 (chkE_ok a h q4).1 (nStar q3)) fun _ => rfl
    · cases q
  | .call f es ds, s, e, X, W, k, h, q => by
    unfold chkE at q
    split at q
    · simp only [Bool.and_eq_true, decide_eq_true_eq] at q
      obtain ⟨rfl, q1, q2, q3, q4⟩ := q
      obtain ⟨h1, h2⟩ := chkEs_ok es h q4
      obtain ⟨⟨d, ed⟩, j, hj, rfl⟩ := callOk_of q3
      obtain ⟨a, ea, ka⟩ := h.fx.fns _ _ ed
      refine both_of h.g (s_call h.g (h.calls (nHot q2)) (h1.pa h2) h2 (fun e => ?_) (h.gl q1).1 (h.gl q1).2 hj (by rw [h.g.mg]; exact ea) (by rw [h.g.K]; exact ka)) fun _ => rfl
      subst e
      cases h1; rfl
    · cases q
  | .callK f es ds, s, e, X, W, k, h, q => by
    unfold chkE at q
    split at q
    · simp only [Bool.and_eq_true, decide_eq_true_eq] at q
      obtain ⟨rfl, q1, q2, q3, q4⟩ := q
      obtain ⟨h1, h2⟩ := chkEs_ok es h q4
      obtain ⟨⟨d, ed⟩, j, hj, rfl⟩ := callOk_of q3
      obtain ⟨a, ea, ka⟩ := h.fx.fns _ _ ed
      refine both_of h.g (s_callK h.g (h.calls (nHot q2)) (h1.pa h2) h2 (fun e => ?_) (h.gl q1).1 (h.gl q1).2 hj (by rw [h.g.mg]; exact ea) (by rw [h.g.K]; exact ka)) fun _ => rfl
      subst e
      cases h1; rfl
    · cases q
  | .callV a es, s, e, X, W, k, h, q => by
    cases a with
    | var i =>
      unfold chkE at q
      split at q
      · simp only [Bool.and_eq_true] at q
        obtain ⟨q1, q2, q3⟩ := q
        obtain ⟨h1, h2⟩ := chkEs_ok es h q3
        obtain ⟨g1, g2, g3, g4⟩ := h.var q1
        refine both_of h.g (s_callV h.g (h.calls (nHot q2)) (h1.pa h2) h2 (fun e => ?_) g1 g2 g3 g4) fun _ => rfl
        subst e
        cases h1; rfl
      · cases q
    | _ => unfold chkE at q; cases q
  | .meth o m es, s, e, X, W, k, h, q => by
    unfold chkE at q
    split at q
    · rename_i x mn ap xs q0
      simp only [Bool.and_eq_true, decide_eq_true_eq, Bool.not_eq_true'] at q
      obtain ⟨rfl, q1, q2, q3, q4, q5, q6⟩ := q
      obtain ⟨h1, h2⟩ := chkEs_ok es h q6
      refine both_of h.g (s_meth h.g (h.calls q1) (chkE_ok o h q5).1 (h1.pa h2) h2 (fun e => ?_) (pl := do return (← importBound x X.env).getD true) ?_) fun _ => rfl
      · subst e
        cases h1; rfl
      · rw [eval_meth (form_of h2 q3) q4, base_of q2]; rfl
    · cases q
  | .make C es, s, e, X, W, k, h, q => by
    unfold chkE at q
    split at q
    · simp only [Bool.and_eq_true, decide_eq_true_eq] at q
      obtain ⟨rfl, q1, q2, q3, q4⟩ := q
      obtain ⟨h1, h2⟩ := chkEs_ok es h q4
      exact both_of h.g (s_make h.g (h.calls (nHot q2)) (h1.pa h2) h2 (h.gl q1).1 (h.gl q1).2 (by rw [h.fx.has]; exact q3)) fun _ => rfl
    · cases q
  | .fld o f, s, e, X, W, k, h, q => by
    unfold chkE at q
    split at q
    · simp only [Bool.and_eq_true, decide_eq_true_eq, Bool.not_eq_true'] at q
      obtain ⟨rfl, q1, q2⟩ := q
      exact both_of h.g (s_fld h.g (chkE_ok o h q2).1 (base_of q1)) fun _ => rfl
    · cases q
  | .app o a, s, e, X, W, k, h, q => by
    unfold chkE at q
    split at q
    · simp only [Bool.and_eq_true, decide_eq_true_eq, Bool.not_eq_true'] at q
      obtain ⟨rfl, q1, q2, q3, q4, q5⟩ := q
      exact both_of h.g (s_app (chkE_ok o h q4).1 (chkE_ok a h q5).1 q2 q1 q3) fun _ => rfl
    · cases q
  | .ext o a, s, e, X, W, k, h, q => by
    unfold chkE at q
    split at q
    · simp only [Bool.and_eq_true, decide_eq_true_eq, Bool.not_eq_true'] at q
      obtain ⟨rfl, q1, q2, q3, q4, q5⟩ := q
      exact both_of h.g (s_ext (chkE_ok o h q4).1 (chkE_ok a h q5).1 q2 q1 q3) fun _ => rfl
    · cases q
  | .ixo o a, s, e, X, W, k, h, q => by
    unfold chkE at q
    split at q
    · simp only [Bool.and_eq_true, decide_eq_true_eq, Bool.not_eq_true'] at q
      obtain ⟨rfl, q1, q2, q3, q4, q5⟩ := q
      exact both_of h.g (s_ixo h.g (chkE_ok o h q4).1 (chkE_ok a h q5).1 q2 q1 q3) fun _ => rfl
    · cases q
  | .dcomp t k' v tg it own, s, e, X, W, k, h, q => by
    unfold chkE at q
    split at q
    · rename_i kx vx tx iter z scope ps
      simp only [Bool.and_eq_true, decide_eq_true_eq] at q
      obtain ⟨rfl, q1, q2, q3, q4, q5, q6, q7⟩ := q
      have n := nHot q2
      obtain ⟨b1, b2, b3⟩ := own_of h q1
      have := s_dcomp (pos := ps) (h.gc n) (t := t) (own := ownOf s own) (chkIt_ok it h q4) b1 (by rw [b2]; exact b3) (fun st H C cl fp => chkTg_ok tg (h.blk n) q3) (fun st H C cl fp => (chkE_ok k' (h.blk n) q5).1) (fun st H C cl fp => (chkE_ok v (h.blk n) q6).1) (notSet (by simpa using q7))
      rw [b2] at this
      exact both_of h.g this fun _ => rfl
    · cases q
  | .ddisp ks es, s, e, X, W, k, h, q => by
    unfold chkE at q
    split at q
    · simp only [Bool.and_eq_true, decide_eq_true_eq, Bool.not_eq_true'] at q
      obtain ⟨q1, q2, q3, q4, q5, q6⟩ := q
      obtain ⟨h1, h2⟩ := chkEs_ok es h q6
      obtain ⟨k1, k2, k3⟩ := keys_at q1
      refine both_of h.g (s_ddisp h1 (by rw [k1, q2, h1.len]) (by rw [q2, h1.len]) q2 (fun _ _ _ _ => Es.den_len) k3 k2 (fun z => by rw [z] at q4; cases q4) q3 q5) fun _ => rfl
    · cases q
  | .xfld o f, s, e, X, W, k, h, q => by
    unfold chkE at q
    split at q
    · simp only [Bool.and_eq_true, decide_eq_true_eq, Bool.not_eq_true'] at q
      obtain ⟨rfl, q1, q2, q3, q4⟩ := q
      obtain ⟨a, C, dd, y, t1, t2, t3, t4, t5⟩ := h.hotx q1
      exact both_of h.g (s_xfld h.g t1 t2 (t4 _ q3) t5 (chkE_ok o h q4).1 q2) fun _ => rfl
    · cases q
  | .instE a cl, s, e, X, W, k, h, q => by
    unfold chkE at q
    split at q
    · simp only [Bool.and_eq_true, decide_eq_true_eq] at q
      obtain ⟨rfl, rfl, q1, q2, q3, q4, q5, q6⟩ := q
      obtain ⟨a0, C, dd, y, t1, t2, t3, t4, t5⟩ := h.hotx q1
      obtain ⟨Cl, u1, u2⟩ := t3 _ q2
      exact both_of h.g (s_instE h.g t1 t2 (h.gl q3).1 (h.gl q4).1 (h.gl q4).2 u1 u2 (chkE_ok a h q6).1 (nStar q5)) fun _ => rfl
    · cases q
  | .cntB o b, s, e, X, W, k, h, q => by
    unfold chkE at q
    split at q
    · simp only [Bool.and_eq_true, decide_eq_true_eq, Bool.not_eq_true'] at q
      obtain ⟨rfl, rfl, q1, q2, q3⟩ := q
      exact both_of h.g (s_cntB h.g (chkE_ok o h q3).1 q1 q2) fun _ => rfl
    · cases q
  | .ixB o b, s, e, X, W, k, h, q => by
    unfold chkE at q
    split at q
    · simp only [Bool.and_eq_true, decide_eq_true_eq, Bool.not_eq_true'] at q
      obtain ⟨rfl, rfl, q1, q2, q3⟩ := q
      exact both_of h.g (s_ixB h.g (chkE_ok o h q3).1 q1 q2) fun _ => rfl
    · cases q
  | .str1 a, s, e, X, W, k, h, q => by
    unfold chkE at q
    split at q
    · simp only [Bool.and_eq_true, decide_eq_true_eq] at q
      obtain ⟨rfl, q1, q2, q3⟩ := q
      exact both_of h.g (s_str1 h.g (h.gl q1).1 (chkE_ok a h q3).1 (nStar q2)) fun _ => rfl
    · cases q
theorem chkEs_ok : ∀ (es : Es) {s : Sx} {xs : List Expr} {X : Cx} {W : WX} {k : Nat}, CtxE M p X s W c k → chkEs p s es xs = true → PEs M X c W xs es ∧ ∀ x ∈ xs, isStar x = false
  | .nil, s, xs, X, W, k, h, q => by
    unfold chkEs at q
    cases xs with
    | nil => exact ⟨.nil, by simp⟩
    | cons _ _ => cases q
  | .cons e es, s, xs, X, W, k, h, q => by
    unfold chkEs at q
    split at q
    · simp only [Bool.and_eq_true] at q
      obtain ⟨q1, q2, q3⟩ := q
      obtain ⟨h1, h2⟩ := chkEs_ok es h q3
      refine ⟨.cons (chkE_ok e h q2).1 h1, fun x hx => ?_⟩
      rcases List.mem_cons.mp hx with z | z
      · rw [z]; exact nStar q1
      · exact h2 x z
    · cases q
theorem chkEo_ok : ∀ (eo : Eo) {s : Sx} {x : Option Expr} {X : Cx} {W : WX} {k : Nat}, CtxE M p X s W c k → chkEo p s eo x = true → L2.PO X x (tEo M c W eo)
  | .none, s, x, X, W, k, h, q => by
    unfold chkEo at q
    cases x with
    | none => exact s_none
    | some _ => cases q
  | .some e, s, x, X, W, k, h, q => by
    unfold chkEo at q
    split at q
    · exact s_some (chkE_ok e h q).1
    · cases q
theorem chkIf_ok : ∀ (eo : Eo) {s : Sx} {xs : List Expr} {X : Cx} {W : WX} {k : Nat}, CtxE M p X s W c k → chkIf p s eo xs = true → PTs X xs (tTo M c W eo)
  | .none, s, xs, X, W, k, h, q => by
    unfold chkIf at q
    cases xs with
    | nil => exact pts_no
    | cons _ _ => cases q
  | .some e, s, xs, X, W, k, h, q => by
    unfold chkIf at q
    split at q
    · exact pts_yes (chkE_ok e h q).2
    · cases q
theorem chkF_ok : ∀ (f : F) {s : Sx} {e : Expr} {X : Cx} {W : WX} {k : Nat}, CtxE M p X s W c k → chkF p s f e = true → PE X e (tF M c W f) ∧ ∀ env whole, isTrue e env whole = (do let v ← whole; standAt e.pos; holding [v] (PySem.truthy v))
  | .disp es, s, e, X, W, k, h, q => by
    unfold chkF at q
    split at q
    · simp only [Bool.and_eq_true, decide_eq_true_eq] at q
      obtain ⟨h1, h2⟩ := chkEs_ok es h q.2
      exact ⟨s_disp (h1.pa h2) (Nat.le_trans q.1 (by decide)) fun _ _ _ _ => Es.den_len, fun _ _ => rfl⟩
    · cases q
  | .comp e0 tg it cond own, s, e, X, W, k, h, q => by
    unfold chkF at q
    split at q
    · rename_i elt tx iter ifs z scope ps
      simp only [Bool.and_eq_true, decide_eq_true_eq] at q
      obtain ⟨rfl, q1, q2, q3, q4, q5, q6, q7⟩ := q
      have n := nHot q2
      obtain ⟨b1, b2, b3⟩ := own_of h q1
      have := s_comp (pos := ps) (h.gc n) (own := ownOf s own) (chkIt_ok it h q4) b1 (by rw [b2]; exact b3) (fun st H C cl fp => chkTg_ok tg (h.blk n) q3) (fun st H C cl fp => chkIf_ok cond (h.blk n) q5) (fun st H C cl fp => (chkE_ok e0 (h.blk n) q6).1) (notSet (by simpa using q7))
      rw [b2] at this
      exact ⟨this, fun _ _ => rfl⟩
    · cases q
  | .lst a, s, e, X, W, k, h, q => by
    unfold chkF at q
    split at q
    · simp only [Bool.and_eq_true, decide_eq_true_eq] at q
      obtain ⟨rfl, q1, q2, q3⟩ := q
      exact ⟨s_lst h.g (h.gl q1).1 (s_cons (chkE_ok a h q3).1 s_nil (starEach_cons (nStar q2))) (nStar q2), fun _ _ => rfl⟩
    · cases q
  | .add a b, s, e, X, W, k, h, q => by
    unfold chkF at q
    split at q
    · simp only [Bool.and_eq_true] at q
      exact ⟨s_fadd (chkE_ok a h q.1).1 (chkE_ok b h q.2).1, fun _ _ => rfl⟩
    · cases q
  | .srs a, s, e, X, W, k, h, q => by
    unfold chkF at q
    split at q
    · simp only [Bool.and_eq_true, decide_eq_true_eq] at q
      obtain ⟨rfl, rfl, q1, q2, q3, q4, q5⟩ := q
      exact ⟨s_srs (h.gc (nHot q3)) (h.gl q1).1 (h.gl q2).1 (chkE_ok a h q5).1 (nStar q4), fun _ _ => rfl⟩
    · cases q
theorem chkIt_ok : ∀ (it : It) {s : Sx} {t e : Expr} {X : Cx} {W : WX} {k : Nat}, CtxE M p X s W c k → chkIt p s it t e = true → PI X t e (tI M c W it)
  | .seq a, s, t, e, X, W, k, h, q => by
    unfold chkIt at q
    exact s_iSeq h.g (chkE_ok a h q).1
  | .rng1 a, s, t, e, X, W, k, h, q => by
    unfold chkIt at q
    split at q
    · simp only [Bool.and_eq_true, decide_eq_true_eq] at q
      obtain ⟨rfl, q1, q2, q3⟩ := q
      exact s_iRng1 h.g (h.gl q1).1 (s_cons (chkE_ok a h q3).1 s_nil (starEach_cons (nStar q2))) (nStar q2)
    · cases q
  | .rng2 a b, s, t, e, X, W, k, h, q => by
    unfold chkIt at q
    split at q
    · simp only [Bool.and_eq_true, decide_eq_true_eq] at q
      obtain ⟨rfl, q1, q2, q3, q4, q5⟩ := q
      exact s_iRng2 h.g (h.gl q1).1 (s_cons (chkE_ok a h q4).1 (s_cons (chkE_ok b h q5).1 s_nil (starEach_cons (nStar q3))) (starEach_cons (nStar q2))) (nStar q2) (nStar q3)
    · cases q
  | .rngD a b, s, t, e, X, W, k, h, q => by
    unfold chkIt at q
    split at q
    · simp only [Bool.and_eq_true, decide_eq_true_eq] at q
      obtain ⟨rfl, q1, q2, q3, q4, q5⟩ := q
      exact s_iRngD h.g (h.gl q1).1 (s_cons (chkE_ok a h q4).1 (s_cons (chkE_ok b h q5).1 (s_cons (s_neg s_int) s_nil (starEach_cons rfl)) (starEach_cons (nStar q3))) (starEach_cons (nStar q2))) (nStar q2) (nStar q3) rfl
    · cases q
  | .enm a, s, t, e, X, W, k, h, q => by
    unfold chkIt at q
    split at q
    · simp only [Bool.and_eq_true, decide_eq_true_eq] at q
      obtain ⟨rfl, q1, q2, q3⟩ := q
      exact s_iEnm h.g (h.gl q1).1 (s_cons (chkE_ok a h q3).1 s_nil (starEach_cons (nStar q2))) (nStar q2)
    · cases q
  | .zip a b, s, t, e, X, W, k, h, q => by
    unfold chkIt at q
    split at q
    · simp only [Bool.and_eq_true, decide_eq_true_eq] at q
      obtain ⟨rfl, q1, q2, q3, q4, q5⟩ := q
      exact s_iZip h.g (h.gl q1).1 (s_cons (chkE_ok a h q4).1 (s_cons (chkE_ok b h q5).1 s_nil (starEach_cons (nStar q3))) (starEach_cons (nStar q2))) (nStar q2) (nStar q3)
    · cases q
theorem chkTg_ok : ∀ (t : Tg) {s : Sx} {e : Expr} {X : Cx} {W : WX} {k : Nat}, CtxE M p X s W c k → chkTg p s t e = true → PG X e (tG M c W t)
  | .nm i, s, e, X, W, k, h, q => by
    unfold chkTg at q
    split at q
    · obtain ⟨h1, h2, h3⟩ := h.loc q
      exact s_tnm h.g h1 h2 h3
    · cases q
  | .tup ts, s, e, X, W, k, h, q => by
    unfold chkTg at q
    split at q
    · simp only [Bool.and_eq_true] at q
      obtain ⟨h1, h2, h3⟩ := chkTgs_ok ts h q.2
      exact s_ttup (h.gc (nHot q.1)) h1 h2 (fun xs ρ S ρ1 S1 e => by rw [h3]; exact Tgs.den_ok e) (fun xs ρ S x v S1 e => absurd e Tgs.den_exc)
    · cases q
  | .fld o f, s, e, X, W, k, h, q => by
    unfold chkTg at q
    split at q
    · simp only [Bool.and_eq_true, decide_eq_true_eq] at q
      obtain ⟨rfl, q1⟩ := q
      exact s_tfld h.g h.fx.at_ (chkE_ok o h q1).1
    · cases q
  | .sub o i, s, e, X, W, k, h, q => by
    unfold chkTg at q
    split at q
    · simp only [Bool.and_eq_true, Bool.not_eq_true'] at q
      exact s_tsub h.g (chkE_ok o h q.2.1).1 (chkE_ok i h q.2.2).1 (assign_sub q.1)
    · cases q
theorem chkTgs_ok : ∀ (ts : Tgs) {s : Sx} {xs : List Expr} {X : Cx} {W : WX} {k : Nat}, CtxE M p X s W c k → chkTgs p s ts xs = true → PGs X xs (tGs M c W ts) ∧ (∀ x ∈ xs, isStar x = false) ∧ xs.length = ts.len
  | .nil, s, xs, X, W, k, h, q => by
    unfold chkTgs at q
    cases xs with
    | nil => exact ⟨s_tgnil, by simp, rfl⟩
    | cons _ _ => cases q
  | .cons t ts, s, xs, X, W, k, h, q => by
    unfold chkTgs at q
    split at q
    · simp only [Bool.and_eq_true] at q
      obtain ⟨q1, q2, q3⟩ := q
      obtain ⟨h1, h2, h3⟩ := chkTgs_ok ts h q3
      refine ⟨s_tgcons (chkTg_ok t h q2) h1 (nStar q1), fun x hx => ?_, by simp [Tgs.len, h3]⟩
      rcases List.mem_cons.mp hx with z | z
      · rw [z]; exact nStar q1
      · exact h2 x z
    · cases q
end
end
end Pz
end
section
set_option Elab.async false
set_option linter.all false
set_option maxRecDepth 100000
set_option maxHeartbeats 8000000
/-! Pz: statements are checked. -/
namespace Pz
open PySem PySem.Spec PyProof.Rows L2
def isComp : Expr → Bool
  | .ListComp .. => true
  | .SetComp .. => true
  | .DictComp .. => true
  | _ => false
def noSwap (s : Sx) (e tg : Expr) : Bool := !isComp e || (match tg with
  | .Name t _ => decide (s.sc.names.lookup t ≠ some .local)
  | _ => true)
def parN (s : Sx) (line : Nat) (ts : List Expr) : List Str := ts.filterMap fun
  | .Name id pos => if (s.sc.names.lookup id == some .local && pos.line == line) = true then some id else none
  | _ => none
def swP (s : Sx) (tg e : Expr) : Option (Option (List Str)) := match tg, e with
  | .Tuple ts _ _, .Tuple vs _ _ =>
    if (!(ts.length == 2 || ts.length == 3) || vs.length != ts.length) = true then some none
    else if (vs.any isStar) = true then some none
    else if ((parN s ((ts.head?.map (·.pos.line)).getD 0) ts).length != ts.length || (parN s ((ts.head?.map (·.pos.line)).getD 0) ts).eraseDups.length != (parN s ((ts.head?.map (·.pos.line)).getD 0) ts).length) = true then some none
    else if vs.all (foldedForSure 8) = true then some none
    else if vs.all (constantsAlone 8) = true then none
    else some (some (parN s ((ts.head?.map (·.pos.line)).getD 0) ts))
  | .Tuple .., _ => some none
  | .List .., _ => none
  | _, _ => some none
/-- name = [..] on one line -/
def lcOk (s : Sx) (i : Nat) (y : Str) (py : Pos) (scope : Scope) (q : Pos) : Bool := decide (s.N[i]? = some y) && (decide (s.sc.names.lookup y = some .local) && ((py.line == q.line) && !(scope.names.any fun (n, k) => n == y && (k == .local || k == .cell))))
def chkLc (p : Pt) (s : Sx) (i : Nat) (e0 : E) (y : Str) (py : Pos) (x : Expr) : Bool := match x with
  | .ListComp elt gs scope q => lcOk s i y py scope q && (match e0 with
    | .mk (.comp a b c d o) => chkF p s (.comp a b c d o) (.ListComp elt gs scope q)
    | .ro (.comp a b c d o) => chkF p s (.comp a b c d o) (.ListComp elt gs scope q)
    | _ => false)
  | _ => false
def augOk : Operator → Bop → Bool
  | .Add, .add => true
  | .Sub, .sub => true
  | _, _ => false
def parOk2 (p : Pt) (s : Sx) (i j : Nat) (x y : Str) (tg v : Expr) : Bool := decide (swP s tg v = some (some [x, y])) && (decide (s.N[i]? = some x) && (decide (s.N[j]? = some y) && (decide (i ≠ j) && (decide (s.sc.names.lookup x = some .local) && decide (s.sc.names.lookup y = some .local)))))
mutual
def chkS (p : Pt) (s : Sx) : St → Stmt → Bool
  | .expr e, x => (match x with
    | .Expr y _ => !isComp y && chkE p s e y
    | _ => false)
  | .asg t e, x => (match x with
    | .Assign [tg] y _ => (noSwap s y tg && (decide (swP s tg y = some none) && (!isStar tg && (chkE p s e y && chkTg p s t tg)))) || (match t, tg with
      | .nm i, .Name z pz => chkLc p s i e z pz y
      | _, _ => false)
    | _ => false)
  | .par is es, x => (match x with
    | .Assign [.Tuple [.Name x1 a1, .Name x2 a2] ka pa] (.Tuple [v1, v2] kb pb) _ => (match is with
      | [i, j] => !s.hot && (parOk2 p s i j x1 x2 (.Tuple [.Name x1 a1, .Name x2 a2] ka pa) (.Tuple [v1, v2] kb pb) && chkEs p s es [v1, v2])
      | _ => false)
    | .Assign [.Tuple [.Name x1 a1, .Name x2 a2, .Name x3 a3] ka pa] (.Tuple [v1, v2, v3] kb pb) _ => (match is with
      | [i, j, l] => !s.hot && (decide (swP s (.Tuple [.Name x1 a1, .Name x2 a2, .Name x3 a3] ka pa) (.Tuple [v1, v2, v3] kb pb) = some (some [x1, x2, x3])) && (decide (s.N[i]? = some x1) && (decide (s.N[j]? = some x2) && (decide (s.N[l]? = some x3) && (decide (i ≠ j ∧ i ≠ l ∧ j ≠ l) && (decide (s.sc.names.lookup x1 = some .local) && (decide (s.sc.names.lookup x2 = some .local) && (decide (s.sc.names.lookup x3 = some .local) && chkEs p s es [v1, v2, v3]))))))))
      | _ => false)
    | _ => false)
  | .aug i op e, x => (match x with
    | .AugAssign (.Name y _) o z _ => augOk o op && (locOk s i y && chkE p s e z)
    | _ => false)
  | .ite c a b, x => (match x with
    | .If d y z _ => chkE p s c d && (chkSs p s a y && chkSs p s b z)
    | _ => false)
  | .fo t it b, x => (match x with
    | .For tg iter body [] _ => !s.hot && (!isSet iter && (chkIt p s it tg iter && (chkTg p s t tg && chkSs p s b body)))
    | _ => false)
  | .wh c b, x => (match x with
    | .While d body [] _ => chkE p s c d && chkSs p s b body
    | _ => false)
  | .ret e, x => (match x with
    | .Return (some y) _ => chkE p s e y
    | _ => false)
  | .retN, x => (match x with
    | .Return none _ => true
    | _ => false)
  | .rse cl e, x => (match x with
    | .Raise (some (.Call (.Name y _) [a] [] _)) none _ => decide (y = cl) && (gl s y && (!isStar a && (!s.hot && ((p.P.fld.lookup cl).isSome && chkE p s e a))))
    | _ => false)
  | .pass, x => (match x with
    | .Pass _ => true
    | _ => false)
  | .brk, x => (match x with
    | .Break _ => true
    | _ => false)
  | .cont, x => (match x with
    | .Continue _ => true
    | _ => false)
  | .try_ b cl h i, x => (match x with
    | .Try body [.ExceptHandler (some (.Name y _)) (some n) [.Return (some (.Call (.Name g _) [.Name n2 _] [] _)) _] _] [] [] _ =>
      decide (y = cl) && (decide (g = h) && (decide (n2 = n) && (gl s y && (gl s g && (decide (s.N[i]? = some n) && (decide (s.sc.names.lookup n = some .local) && (!dbg n && (!s.hot && (decide (cl ∈ p.T) && (decide (h ∈ p.H) && chkSs p s b body))))))))))
    | _ => false)
def chkSs (p : Pt) (s : Sx) : Sts → List Stmt → Bool
  | .nil, xs => xs.isEmpty
  | .cons st r, xs => (match xs with
    | x :: xs => chkS p s st x && chkSs p s r xs
    | [] => false)
end
structure CtxS (M : Md) (p : Pt) (X : Cx) (s : Sx) (W : WX) (c : Cfg) (k : Nat) : Prop extends CtxE M p X s W c k where
  own : PassesOwn (model X.prog X.w) X.A X.env X.xe
  tk : L2N.Takes X W
  stk : X.stack = X.env :: X.outer
  frm : X.env.frame = some X.env.locals
  knd : X.env.scope.kind = .function
  err : ∀ x f, p.P.fld.lookup x = some f → ∃ C fI, M.mg x = some (.ref C) ∧ ErrTxt X.prog M.K M.mg C fI f ∧ M.fld x = f
  cat : ∀ x ∈ p.T, ∃ C0, M.mg x = some (.ref C0) ∧ ∀ y C, y ∈ c.errs → M.mg y = some (.ref C) → PySem.W.exmOne M.K (.ref C) (.ref C0) = some (decide (x ∈ y :: c.sub y))
  hnd : s.hot = false → ∀ h ∈ p.H, HotAtH M X.prog X.w X.base k c h
section
variable {M : Md} {p : Pt} {c : Cfg} {X : Cx} {s : Sx} {W : WX} {k : Nat}
theorem CtxS.tr (h : CtxS M p X s W c k) {W' : WX} {pn : List (Addr × Obj)} {xe : Value → Shared → Prop} (n : s.hot = false) (tk : L2N.Takes (X.tr pn xe) W') (own : PassesOwn (model X.prog X.w) X.A X.env xe) : CtxS M p (X.tr pn xe) s W' c k where
  N := h.N
  sc := h.sc
  fn := h.fn
  g := ⟨h.g.blt, h.g.K, h.g.mg, h.g.nd, h.g.un⟩
  calm := h.calm
  calls := fun _ => let cc := h.calls n; ⟨cc.room, fun σ => L2N.passAt tk σ, cc.fn, cc.mt, cc.mke⟩
  fx := h.fx
  hotx := fun e => by rw [n] at e; cases e
  own := own
  tk := tk
  stk := h.stk
  frm := h.frm
  knd := h.knd
  err := h.err
  cat := h.cat
  hnd := h.hnd
theorem notComp {e : Expr} (h : isComp e = false) {t : Option Expr} {l : Nat} {env : PySem.Env} : swapsWith e t l env = pure false := by
  cases e <;> first | rfl | cases h
theorem noSwap_of (h : CtxS M p X s W c k) {e tg : Expr} {l : Nat} (q : noSwap s e tg = true) : swapsWith e (some tg) l X.env = pure false := by
  unfold noSwap at q
  rcases Bool.or_eq_true_iff.mp q with z | z
  · exact notComp (by simpa using z)
  · cases hc : isComp e with
    | false => exact notComp hc
    | true =>
      cases tg with
      | Name t pt =>
        have z' : s.sc.names.lookup t ≠ some .local := of_decide_eq_true z
        have e1 : (X.env.kindOf t == some NameKind.local) = false := by
          rw [beq_eq_false_iff_ne]
          show X.env.scope.names.lookup t ≠ _
          rw [h.sc]; exact z'
        cases e <;> first
          | rfl
          | (unfold swapsWith; simp only [e1, Bool.and_false, Bool.false_and])
      | _ => cases e <;> rfl
theorem parN_of (h : CtxS M p X s W c k) (l : Nat) (ts : List Expr) : (ts.filterMap fun
    | .Name id pos => if X.env.kindOf id == some .local && pos.line == l then some id else none
    | _ => none) = parN s l ts := by
  unfold parN
  congr 1
  funext e
  cases e with
  | Name id pos =>
    have : X.env.kindOf id = s.sc.names.lookup id := by
      show X.env.scope.names.lookup id = _
      rw [h.sc]
    simp only [this]
  | _ => rfl
theorem anyStar : ∀ (vs : List Expr), (vs.any fun | .Starred .. => true | _ => false) = vs.any isStar := by
  intro vs
  congr 1
theorem swP_of (h : CtxS M p X s W c k) {tg e : Expr} {r : Option (List Str)} (q : swP s tg e = some r) : swappedStores [tg] e X.env = pure r := by
  have hb : X.env.blockKind = .function := by unfold Env.blockKind; rw [h.knd]; rfl
  unfold swP at q
  split at q
  · rename_i ts kt pt vs kv pv
    unfold swappedStores
    simp only [pure_bind, bind_pure_comp, hb, bne_self_eq_false, Bool.or_false]
    have eN : ∀ (f : Expr → Option Str) (l : Nat), (∀ e, f e = match e with | .Name id pos => if (X.env.kindOf id == some .local && pos.line == l) = true then some id else none | _ => none) → ts.filterMap f = parN s l ts := by
      intro f l hf
      rw [← parN_of h l ts]
      congr 1
      funext e
      rw [hf e]
    have eS : ∀ f : Expr → Bool, (∀ e, f e = isStar e) → vs.any f = vs.any isStar := fun f hf => by
      congr 1
      funext e
      exact hf e
    rw [eN _ _ (fun e => by cases e <;> rfl), eS _ (fun e => by cases e <;> rfl)]
    split at q
    · rename_i c1
      cases q
      rw [if_pos c1]
    · rename_i c1
      rw [if_neg c1]
      split at q
      · rename_i c2
        cases q
        rw [if_pos c2]
      · rename_i c2
        rw [if_neg c2]
        split at q
        · rename_i c3
          cases q
          rw [if_pos c3]
        · rename_i c3
          rw [if_neg c3]
          split at q
          · rename_i c4
            cases q
            rw [if_pos c4]
          · rename_i c4
            rw [if_neg c4]
            split at q
            · cases q
            · rename_i c5
              cases q
              rw [if_neg c5]
  · rename_i ts kt pt hne
    cases q
    cases e <;> first | rfl | (exfalso; exact hne _ _ _ rfl)
  · cases q
  · rename_i h1 h2
    cases q
    cases tg <;> first | rfl | exact (h1 _ _ rfl).elim | (cases e <;> first | rfl | exact (h2 _ _ _ _ _ _ rfl rfl).elim)
end
end Pz
end
section
set_option Elab.async false
set_option linter.all false
set_option maxRecDepth 100000
set_option maxHeartbeats 8000000
/-! Pz: what is checked holds: statements. -/
namespace Pz
open PySem PySem.Spec PyProof.Rows L2
section
variable {M : Md} {p : Pt} {c : Cfg}
theorem chkF_lc {X : Cx} {s : Sx} {W : WX} {k : Nat} (h : CtxE M p X s W c k) {e0 : E} {tg : Tg} {it : It} {cond : Eo} {own : List Nat} {elt : Expr} {gs : List Comprehension} {scope : Scope} {ps : Pos} (q : chkF p s (.comp e0 tg it cond own) (.ListComp elt gs scope ps) = true) :
    s.hot = false ∧ ∃ tx iter ifs own', gs = [⟨tx, iter, ifs, 0⟩] ∧ LcP M X c W elt tx iter ifs scope own' e0 tg it cond ∧ own'.map (·.2) = own := by
  unfold chkF at q
  split at q
  · rename_i elt2 tx iter ifs z scope2 ps2 heq
    simp only [Bool.and_eq_true, decide_eq_true_eq] at q
    obtain ⟨rfl, q1, q2, q3, q4, q5, q6, q7⟩ := q
    have n := nHot q2
    cases heq
    obtain ⟨b1, b2, b3⟩ := own_of h q1
    exact ⟨n, tx, iter, ifs, ownOf s own, rfl, ⟨chkIt_ok it h q4, b1, by rw [b2]; exact b3, fun st H C cl fp => chkTg_ok tg (h.blk n) q3, fun st H C cl fp => chkIf_ok cond (h.blk n) q5, fun st H C cl fp => (chkE_ok e0 (h.blk n) q6).1, notSet (by simpa using q7)⟩, b2⟩
  · cases q
theorem chkLc_ok {X : Cx} {s : Sx} {W : WX} {k : Nat} (h : CtxS M p X s W c k) {i : Nat} {e0 : E} {y : Str} {py ps : Pos} {x : Expr} (q : chkLc p s i e0 y py x = true) : PS X (.Assign [.Name y py] x ps) (tS M c W (.asg (.nm i) e0)) := by
  unfold chkLc at q
  split at q
  · rename_i elt gs scope q0
    simp only [Bool.and_eq_true] at q
    obtain ⟨q1, q2⟩ := q
    unfold lcOk at q1
    simp only [Bool.and_eq_true, decide_eq_true_eq, Bool.not_eq_true'] at q1
    obtain ⟨l1, l2, l3, l4⟩ := q1
    have hyl : X.env.scope.names.lookup y = some .local := by rw [h.sc]; exact l2
    split at q2
    · rename_i a b cc d o
      obtain ⟨n, tx, iter, ifs, own', rfl, L, rfl⟩ := chkF_lc h.toCtxE q2
      exact s_setLc (mk := true) (h.toCtxE.gc n) L (by rw [h.N]; exact l1) hyl (sw_true h.knd hyl l3 l4)
    · rename_i a b cc d o
      obtain ⟨n, tx, iter, ifs, own', rfl, L, rfl⟩ := chkF_lc h.toCtxE q2
      exact s_setLc (mk := false) (h.toCtxE.gc n) L (by rw [h.N]; exact l1) hyl (sw_true h.knd hyl l3 l4)
    · cases q2
  · cases q
theorem len_of {xs : List Expr} {es : Es} {X : Cx} {W : WX} (h : PEs M X c W xs es) {n : Nat} (l : xs.length = n) : ∀ (ρ : Env) S vs S1, es.den c ρ S = .ok vs S1 → vs.length = n := fun _ _ _ _ e => by rw [Es.den_len e, ← h.len, l]
mutual
theorem chkS_ok : ∀ (st : St) {s : Sx} {x : Stmt} {X : Cx} {W : WX} {k : Nat}, CtxS M p X s W c k → chkS p s st x = true → PS X x (tS M c W st)
  | .expr e, s, x, X, W, k, h, q => by
    unfold chkS at q
    split at q
    · simp only [Bool.and_eq_true, Bool.not_eq_true'] at q
      exact s_expr (chkE_ok e h.toCtxE q.2).1 (notComp q.1)
    · cases q
  | .asg t e, s, x, X, W, k, h, q => by
    unfold chkS at q
    split at q
    · rcases Bool.or_eq_true_iff.mp q with q | q
      · simp only [Bool.and_eq_true, decide_eq_true_eq, Bool.not_eq_true'] at q
        obtain ⟨q1, q2, q3, q4, q5⟩ := q
        exact s_asg (chkE_ok e h.toCtxE q4).1 (chkTg_ok t h.toCtxE q5) (noSwap_of h q1) (swP_of h q2) q3
      · split at q
        · exact chkLc_ok h q
        · cases q
    · cases q
  | .par is es, s, x, X, W, k, h, q => by
    unfold chkS at q
    split at q
    · split at q
      · rename_i i j
        simp only [Bool.and_eq_true] at q
        obtain ⟨q1, q2, q3⟩ := q
        unfold parOk2 at q2
        simp only [Bool.and_eq_true, decide_eq_true_eq] at q2
        obtain ⟨r1, r2, r3, r4, r5, r6⟩ := q2
        obtain ⟨h1, h2⟩ := chkEs_ok es h.toCtxE q3
        exact s_par (h.toCtxE.gc (nHot q1)) (by rw [h.N]; exact r2) (by rw [h.N]; exact r3) r4 (by rw [h.sc]; exact r5) (by rw [h.sc]; exact r6) (h1.pa h2) (swP_of h r1) (len_of h1 rfl)
      · cases q
    · split at q
      · rename_i i j l
        simp only [Bool.and_eq_true, decide_eq_true_eq] at q
        obtain ⟨q1, r1, r2, r3, r4, ⟨r5, r6, r7⟩, r8, r9, r10, q3⟩ := q
        obtain ⟨h1, h2⟩ := chkEs_ok es h.toCtxE q3
        exact s_par3 (h.toCtxE.gc (nHot q1)) (by rw [h.N]; exact r2) (by rw [h.N]; exact r3) (by rw [h.N]; exact r4) r5 r6 r7 (by rw [h.sc]; exact r8) (by rw [h.sc]; exact r9) (by rw [h.sc]; exact r10) (h1.pa h2) (swP_of h r1) (len_of h1 rfl)
      · cases q
    · cases q
  | .aug i op e, s, x, X, W, k, h, q => by
    unfold chkS at q
    split at q
    · rename_i y py o z ps
      simp only [Bool.and_eq_true] at q
      obtain ⟨q1, q2, q3⟩ := q
      obtain ⟨h1, h2, h3⟩ := h.toCtxE.loc q2
      refine s_aug h.g ?_ h1 h2 (chkE_ok e h.toCtxE q3).1 h3
      unfold augOk at q1
      split at q1
      · exact .inl ⟨rfl, rfl⟩
      · exact .inr ⟨rfl, rfl⟩
      · cases q1
    · cases q
  | .ite d a b, s, x, X, W, k, h, q => by
    unfold chkS at q
    split at q
    · simp only [Bool.and_eq_true] at q
      exact s_if (chkE_ok d h.toCtxE q.1).2 (chkSs_ok a h q.2.1) (chkSs_ok b h q.2.2)
    · cases q
  | .fo t it b, s, x, X, W, k, h, q => by
    unfold chkS at q
    split at q
    · simp only [Bool.and_eq_true] at q
      obtain ⟨q1, q2, q3, q4, q5⟩ := q
      exact s_for (h.toCtxE.gc (nHot q1)) h.own (chkIt_ok it h.toCtxE q3) (chkTg_ok t h.toCtxE q4) (chkSs_ok b h q5) (notSet (by simpa using q2))
    · cases q
  | .wh d b, s, x, X, W, k, h, q => by
    unfold chkS at q
    split at q
    · simp only [Bool.and_eq_true] at q
      exact s_wh h.own (chkE_ok d h.toCtxE q.1).2 (chkSs_ok b h q.2)
    · cases q
  | .ret e, s, x, X, W, k, h, q => by
    unfold chkS at q
    split at q
    · exact s_ret (chkE_ok e h.toCtxE q).1
    · cases q
  | .retN, s, x, X, W, k, h, q => by
    unfold chkS at q
    split at q
    · exact s_retN
    · cases q
  | .rse cl e, s, x, X, W, k, h, q => by
    unfold chkS at q
    split at q
    · simp only [Bool.and_eq_true, decide_eq_true_eq] at q
      obtain ⟨rfl, q1, q2, q3, q4, q5⟩ := q
      obtain ⟨f, ef⟩ := Option.isSome_iff_exists.mp q4
      obtain ⟨C, fI, m1, T, m2⟩ := h.err _ f ef
      have n := nHot q3
      rw [← h.g.K, ← h.g.mg, ← m2] at T
      exact s_rse (h.toCtxE.gc n) h.tk T m1 (h.calls n).room (chkE_ok e h.toCtxE q5).1 (h.toCtxE.gl q1).1 (h.toCtxE.gl q1).2 (nStar q2)
    · cases q
  | .pass, s, x, X, W, k, h, q => by
    unfold chkS at q
    split at q
    · exact s_pass
    · cases q
  | .brk, s, x, X, W, k, h, q => by
    unfold chkS at q
    split at q
    · exact s_brk
    · cases q
  | .cont, s, x, X, W, k, h, q => by
    unfold chkS at q
    split at q
    · exact s_cnt
    · cases q
  | .try_ b cl hd i, s, x, X, W, k, h, q => by
    unfold chkS at q
    split at q
    · simp only [Bool.and_eq_true, decide_eq_true_eq, Bool.not_eq_true'] at q
      obtain ⟨rfl, rfl, rfl, q1, q2, q3, q4, q5, q6, q7, q8, q9⟩ := q
      obtain ⟨C0, m1, m2⟩ := h.cat _ q7
      have d := dbg_no q5
      exact s_try (h.toCtxE.gc q6) h.stk h.frm (by rw [h.N]; exact q3) (by show X.env.scope.names.lookup _ = _; rw [h.sc]; exact q4) (h.toCtxE.gl q1).1 (h.toCtxE.gl q1).2 m1 h.tk
        (fun W' pn xe tk own => chkSs_ok b (h.tr q6 tk own) q9) m2 (h.calls q6).room (h.hnd q6 _ q8) (h.toCtxE.gl q2).1 (h.toCtxE.gl q2).2 d.1 d.2
    · cases q
theorem chkSs_ok : ∀ (st : Sts) {s : Sx} {xs : List Stmt} {X : Cx} {W : WX} {k : Nat}, CtxS M p X s W c k → chkSs p s st xs = true → PSs X xs (tSs M c W st)
  | .nil, s, xs, X, W, k, h, q => by
    unfold chkSs at q
    cases xs with
    | nil => exact s_nilS
    | cons _ _ => cases q
  | .cons st r, s, xs, X, W, k, h, q => by
    unfold chkSs at q
    split at q
    · simp only [Bool.and_eq_true] at q
      exact s_consS (chkS_ok st h q.1) (chkSs_ok r h q.2)
    · cases q
end
end
end Pz
end
section
set_option Elab.async false
set_option linter.all false
set_option maxRecDepth 100000
set_option maxHeartbeats 8000000
/-! Pz: every def holds its promise, level by level. -/
namespace Pz
open PySem PySem.Spec PyProof.Rows L2 L2H
/-- a def of the text that is checked -/
structure RowOk (M : Md) (p : Pt) (hot : Bool) (d : Def) (a : Addr) : Prop where
  ex : ∃ (name qual : Str) (params : Arguments) (body : List Stmt) (scope : Scope) (dvs : List V) (kws : List (Str × V)) (fd : FuncData) (N ps : List Str), FunD M.K name qual params body scope dvs kws a fd ∧ FnScope N ps scope ∧ N.length = d.slots ∧ ps.length = d.params ∧
    chkSs p { N := N, sc := scope, fn := fun _ => true, hot := hot } d.body body = true ∧ ∀ j, j ≤ d.dfl.length → ∃ dvs dsv, Binds M.K fd ps dsv ∧ Vals dvs dsv ∧ ∀ m H, RepL M m H (d.dfl.drop j) dvs
/-- what the module's written part says -/
structure Mx (M : Md) (p : Pt) (prog : Program) : Prop where
  hot : M.hot = none
  blt : ∀ x ∈ bltNames, M.mg x = none
  glo : ∀ x v, (x, v) ∈ p.G → GloOk M x v
  fns : ∀ f d, p.P.defs.lookup f = some d → ∃ a, M.mg f = some (.ref a) ∧ (PySem.W.keepIn M.K (.ref a) = true ∧ (d.hot = false → RowOk M p false d a))
  mts : ∀ C m d, p.P.meths.lookup (C, m) = some d → ∃ Ca f, M.mg C = some (.ref Ca) ∧ Cls M.K Ca ∧ Meth M.K Ca m f ∧ RowOk M p false d f
  mks : ∀ C d, p.P.meths.lookup (C, ("__init__" : Str)) = some d → ∃ Ca f, M.mg C = some (.ref Ca) ∧ Cls M.K Ca ∧ L2.Mk M.K Ca f ∧ RowOk M p false d f
  at_ : ∀ (cl f : Str) (C : Addr), M.mg cl = some (.ref C) → f ∈ (p.P.attrs.lookup cl).getD [] → NoAttr M.K C f
  err : ∀ x f, p.P.fld.lookup x = some f → ∃ C fI, M.mg x = some (.ref C) ∧ ErrTxt prog M.K M.mg C fI f
  fld : ∀ x, M.fld x = (p.P.fld.lookup x).getD ""
  cat : ∀ x ∈ p.T, ∃ C0, M.mg x = some (.ref C0) ∧ ∀ y C, y ∈ p.P.fld.map (·.1) → M.mg y = some (.ref C) → PySem.W.exmOne M.K (.ref C) (.ref C0) = some (decide (x ∈ y :: (p.P.sub.lookup y).getD []))
  hnd : ∀ h ∈ p.H, ∃ d a, p.P.defs.lookup h = some d ∧ d.params = 1 ∧ d.dfl = [] ∧ M.mg h = some (.ref a) ∧ RowOk M p true d a
  erc : ∀ y C, y ∈ p.P.fld.map (·.1) → M.mg y = some (.ref C) → ErrC M.K C ∧ (∀ cl ∈ p.C, ∃ Cl, M.mg cl = some (.ref Cl) ∧ PySem.W.kitOne M.K (.ref C) (.ref Cl) = some (decide (cl ∈ y :: (p.P.sub.lookup y).getD []))) ∧ ∀ f ∈ p.P.fld.map (·.2), PySem.W.findIn M.K (.ref C) f = some none
section
variable {M : Md} {p : Pt} {prog : Program} {w : World} {base : Heap}
theorem start_rep {m : Mp} {H : Hp} {xs : List PV} {vs : List V} {N : List Str} {d : Def} (r : RepL M m H xs vs) (hN : N.length = d.slots) (hp : xs.length = d.params) : RepE M m H (xs.map some ++ List.replicate (d.slots - d.params) none) (L2.start N vs) := by
  have hl := r.length
  refine ⟨by simp [L2.start, hl, hN, ← hp], fun i x e => ?_⟩
  unfold L2.start
  by_cases hi : i < xs.length
  · rw [List.getElem?_append_left (by simpa using hi), List.getElem?_map] at e
    obtain ⟨y, ey, e2⟩ := Option.map_eq_some_iff.mp e
    cases e2
    obtain ⟨v, hv, rv⟩ := r.get ey
    exact ⟨v, by rw [List.getElem?_append_left (by rw [List.length_map, ← hl]; exact hi), List.getElem?_map, hv]; rfl, rv⟩
  · rw [List.getElem?_append_right (by simpa using Nat.le_of_not_lt hi), List.getElem?_replicate] at e
    split at e <;> cases e
/-- a def that can't be called -/
theorem fn_out {f : Addr} {fd : FuncData} {ps : List Str} {k : Nat} {run : List PV → Store → R PV} (h : ∀ vs S, run vs S = .out) : FnOk prog w M.K M.mg base (L2N.CX prog w) k f fd ps (spF M run ps.length) := by
  refine ⟨fun vs H Q E q => q.1, fun A outer s H args us vs Q E _ _ _ _ q => ?_⟩
  obtain ⟨_, xs, S, m, _, _, p⟩ := q
  rw [h] at p
  exact False.elim p
/-- .. as it stands -/
theorem RowOk.at {d : Def} {a : Addr} (r : RowOk M p false d a) {k : Nat} {run : List PV → Store → R PV} (hrun : ∀ vs S, run vs S ≠ .out → vs.length = d.params)
    (h : ∀ (fd : FuncData) (N ps : List Str) (name qual : Str) (params : Arguments) (body : List Stmt) (scope : Scope) (dvs : List V) (kws : List (Str × V)), FunD M.K name qual params body scope dvs kws a fd → FnScope N ps scope → N.length = d.slots → ps.length = d.params → chkSs p { N := N, sc := scope, fn := fun _ => true, hot := false } d.body body = true →
      FnOk prog w M.K M.mg base (L2N.CX prog w) k a fd ps (spF M run ps.length)) : FnAt M prog w base k run d.dfl a := by
  obtain ⟨name, qual, params, body, scope, dvs, kws, fd, N, ps, F, S, l1, l2, q, b⟩ := r.ex
  exact ⟨fd, ps, F.kp, h fd N ps name qual params body scope dvs kws F S l1 l2 q, fun vs S e => by rw [l2]; exact hrun vs S e, b⟩
theorem run_len {d : Def} {c : Cfg} {vs : List PV} {S : Store} (h : d.run c vs S ≠ .out) : vs.length = d.params := by
  unfold Def.run at h
  split at h
  · assumption
  · exact absurd rfl h
theorem cfg_call0 {P : Prog} {f : Str} {vs S} : (cfg P 0).call f vs S = .out := rfl
theorem cfg_callS {P : Prog} {n : Nat} {f : Str} {vs S} : (cfg P (n + 1)).call f vs S = match P.defs.lookup f with | some d => if d.hot = true then .out else d.run (cfg P n) vs S | none => .out := by
  cases n <;> rfl
theorem cfg_methS {P : Prog} {n : Nat} {C f : Str} {vs S} : (cfg P (n + 1)).meth C f vs S = match P.meths.lookup (C, f) with | some d => d.run (cfg P n) vs S | none => .out := by
  cases n <;> rfl
theorem cfg_rest {P : Prog} (n : Nat) : (cfg P n).sub = (fun x => (P.sub.lookup x).getD []) ∧ (cfg P n).attrs = (fun x => (P.attrs.lookup x).getD []) ∧ (cfg P n).fld = (fun x => (P.fld.lookup x).getD "") ∧ (cfg P n).has = (fun C m => (P.meths.lookup (C, m)).isSome) ∧ (cfg P n).errs = P.fld.map (·.1) ∧ (cfg P n).hot = hotP P := by
  match n with
  | 0 => exact ⟨rfl, rfl, rfl, rfl, rfl, rfl⟩
  | 1 => exact ⟨rfl, rfl, rfl, rfl, rfl, rfl⟩
  | n + 2 => exact ⟨rfl, rfl, rfl, rfl, rfl, rfl⟩
/-- a def that tells an error -/
theorem hot_at (mx : Mx M p prog) (n k : Nat) {h : Str} (hh : h ∈ p.H) : HotAtH M prog w base k (cfg p.P n) h := by
  obtain ⟨d, a, ed, np, nd, ea, r⟩ := mx.hnd h hh
  obtain ⟨name, qual, params, body, scope, dvs, kws, fd, N, ps, F, S, l1, l2, q, b⟩ := r.ex
  obtain ⟨dvs0, dsv, b1, b2, b3⟩ := b 0 (Nat.zero_le _)
  have e0 : dvs0 = [] := by
    have := b3 ⟨[], []⟩ (fun _ => none)
    rw [nd] at this
    cases this; rfl
  subst e0
  cases b2
  refine ⟨a, fd, ps, ea, F.kp, b1, ?_⟩
  obtain ⟨oc, od, dV, kV, doc, pm, an, cdv, ct, osl, rfl, lk, hcd, _, _⟩ := F.ex
  refine fnE_of lk hcd S (fun q vs H Q E ⟨e, _⟩ => by rw [e, l2, np]; rfl) fun A outer s H vs Q E q0 hot un hsp => ?_
  obtain ⟨rfl, ⟨y, v, C, dd, u, m, w0, hy, hc, hd, hm, hx, rv, hw, hQ⟩, hdata⟩ := hsp
  rw [(cfg_rest n).2.2.2.2.1] at hy
  rw [(cfg_rest n).2.2.2.2.2] at hw
  unfold hotP at hw
  rw [ed] at hw
  dsimp only at hw
  split at hw
  case isFalse => cases hw
  rename_i htop
  obtain ⟨t1, t2, t3⟩ := mx.erc y C hy hm
  refine ⟨tSs (M.heat q0.1 C dd y) (cfg0 p.P) WF d.body, chkSs_ok d.body (k := 0) ?_ q, ?_⟩
  · exact {
      N := rfl, sc := rfl, fn := rfl
      g := ⟨mx.blt, rfl, rfl, S.nd, un⟩
      calm := fun z => by cases z
      calls := fun z => by cases z
      fx := ⟨fun x v hx => by
          obtain ⟨w1, u1, g1, g2, g3⟩ := mx.glo x v hx
          exact ⟨w1, u1, g1, g2, fun m H => (g3 m H).heat mx.hot _ _ _ _⟩, fun f d e => let ⟨a, e1, e2, _⟩ := mx.fns f d e; ⟨a, e1, e2⟩, fun cl f C e1 e2 => mx.at_ cl f C e1 e2, fun C m => rfl⟩
      hotx := fun _ => ⟨q0.1, C, dd, y, ⟨rfl, q0.2, List.mem_cons_self, hc, hd, hdata⟩, t1, t2, t3, mx.fld⟩
      own := passes_of rfl
      tk := fun u s' ⟨_, _, _, _, _, _, _, _, _, _, _, _, _, _, _, _, z⟩ => z.elim
      stk := rfl, frm := rfl, knd := S.kind
      err := fun x f e => let ⟨C, fI, e1, e2⟩ := mx.err x f e; ⟨C, fI, e1, e2, by show M.fld x = f; rw [mx.fld, e]; rfl⟩
      cat := mx.cat
      hnd := fun z => by cases z }
  · -- the reading
    have m0 : RepS (M.heat q0.1 C dd y) ⟨[], []⟩ H [] := ⟨List.nodup_nil, rfl, by simp, by simp⟩
    have cut0 : Cut 0 ⟨[], []⟩ m := ⟨fun j b _ l => absurd l (Nat.not_lt_zero _), fun a _ => ⟨by simp, by simp⟩⟩
    have rv0 : Rep M ⟨[], []⟩ H v u := rv.trim cut0 (Nat.le_of_eq htop)
    have rE : RepL (M.heat q0.1 C dd y) ⟨[], []⟩ H [.exn y v] [.ref q0.1] := .cons (.exn rfl hm hx ⟨by simp, by simp⟩ (rv0.heat mx.hot _ _ _ _)) .nil
    refine ⟨[PV.exn y v].map some ++ List.replicate (d.slots - d.params) none, [], ⟨[], []⟩, start_rep rE l1 np.symm, m0, ?_⟩
    unfold Def.run at hw
    rw [if_pos (show [PV.exn y v].length = d.params from np.symm)] at hw
    cases ed2 : d.body.den (cfg0 p.P) ([PV.exn y v].map some ++ List.replicate (d.slots - d.params) none) [] with
    | rt v2 ρ2 S2 =>
      rw [ed2] at hw
      dsimp only at hw
      split at hw
      · rename_i x2 S3 heq
        cases hw
        cases heq
        intro m' H' u2 ex rs2 r2
        cases r2
        exact hQ H' fun b o e => ex.keep b o e (by simp)
      · cases hw
    | nx ρ2 S2 => rw [ed2] at hw; cases hw
    | exc x2 v2 ρ2 S2 => rw [ed2] at hw; cases hw
    | bk ρ2 S2 => rw [ed2] at hw; cases hw
    | ct ρ2 S2 => rw [ed2] at hw; cases hw
    | out => rw [ed2] at hw; cases hw
theorem FnAt.nil {k : Nat} {run : List PV → Store → R PV} {dfl : List PV} {a : Addr} (h : FnAt M prog w base k run dfl a) : FnAt M prog w base k run [] a := by
  obtain ⟨fd, ps, h1, h2, h3, h4⟩ := h.ex
  refine ⟨fd, ps, h1, h2, h3, fun j hj => ?_⟩
  obtain ⟨dvs, dsv, b1, b2, b3⟩ := h4 dfl.length (Nat.le_refl _)
  refine ⟨dvs, dsv, b1, b2, fun m H => ?_⟩
  have := b3 m H
  rw [List.drop_length] at this
  rw [List.drop_nil]
  exact this
theorem RowOk.out {d : Def} {a : Addr} (r : RowOk M p false d a) {k : Nat} {run : List PV → Store → R PV} (h : ∀ vs S, run vs S = .out) : FnAt M prog w base k run d.dfl a :=
  r.at (fun vs S e => absurd (h vs S) e) fun _ _ _ _ _ _ _ _ _ _ _ _ _ _ _ => fn_out h
theorem level_at (mx : Mx M p prog) (n : Nat) (ih : ∀ m, m < n → ∀ (d : Def) (a : Addr), RowOk M p false d a → FnAt M prog w base (m + 1) (d.run (cfg p.P m)) d.dfl a) {d : Def} {a : Addr} {fd : FuncData} {N ps : List Str} {name qual : Str} {params : Arguments} {body : List Stmt} {scope : Scope} {dvs : List V} {kws : List (Str × V)}
    (F : FunD M.K name qual params body scope dvs kws a fd) (S : FnScope N ps scope) (l1 : N.length = d.slots) (l2 : ps.length = d.params) (q : chkSs p { N := N, sc := scope, fn := fun _ => true, hot := false } d.body body = true) : FnOk prog w M.K M.mg base (L2N.CX prog w) (n + 1) a fd ps (spF M (d.run (cfg p.P n)) ps.length) := by
  refine F.ok S (fun vs H Q E h => h.1) fun cdv A outer s H vs Q E hr hsp => ?_
  have tk : L2N.Takes (cxOf (L2N.CX prog w) prog w M.K M.mg base N qual scope a cdv A outer s H E) (fun cls d _ H => E cls d H) := L2N.takes_of rfl rfl rfl rfl
  obtain ⟨c1, c2, c3, c4, c5, c6⟩ := cfg_rest (P := p.P) n
  refine ⟨tSs M (cfg p.P n) (fun cls d _ H => E cls d H) d.body, chkSs_ok d.body (k := n) ?_ q, ?_⟩
  · exact {
      N := rfl, sc := rfl, fn := rfl
      g := ⟨mx.blt, rfl, rfl, S.nd, by have := hr.un; show (A.deeper (envOfC qual scope s.heap.objs.size a cdv)).units + 70 < cLine; omega⟩
      calm := fun _ => rfl
      calls := fun _ => {
        room := hr
        pass := fun σ => L2N.passAt tk σ
        fn := fun f ⟨vs, S, ne⟩ => by
          cases n with
          | zero => exact absurd cfg_call0 ne
          | succ m =>
            rw [cfg_callS] at ne
            cases el : p.P.defs.lookup f with
            | none => rw [el] at ne; exact absurd rfl ne
            | some d' =>
              rw [el] at ne
              cases hh : d'.hot with
              | true =>
                exact absurd (show (if d'.hot = true then R.out else d'.run (cfg p.P m) vs S) = .out by rw [hh, if_pos rfl]) ne
              | false =>
                obtain ⟨a', e1, e2, e3⟩ := mx.fns f d' el
                refine ⟨a', e1, ?_⟩
                have := ih m (Nat.lt_succ_self _) d' a' (e3 hh)
                have er : (cfg p.P (m + 1)).call f = d'.run (cfg p.P m) := by
                  funext vs S
                  rw [cfg_callS, el]
                  show (if d'.hot = true then R.out else d'.run (cfg p.P m) vs S) = _
                  rw [hh, if_neg Bool.false_ne_true]
                have ed : dfltOf p.P f = d'.dfl := by unfold dfltOf; rw [el]
                rw [er, ed]
                exact this
        mt := fun C m hm => by
          rw [c4] at hm
          obtain ⟨d', el⟩ := Option.isSome_iff_exists.mp hm
          obtain ⟨Ca, f, e1, e2, e3, r'⟩ := mx.mts C m d' el
          refine ⟨Ca, f, e1, e2, e3, ?_⟩
          cases n with
          | zero => exact (r'.out fun _ _ => rfl).nil
          | succ j =>
            have er : (cfg p.P (j + 1)).meth C m = d'.run (cfg p.P j) := by
              funext vs S
              rw [cfg_methS, el]
            rw [er]
            exact (ih j (Nat.lt_succ_self _) d' f r').nil
        mke := fun C hmk hm => by
          rw [c4] at hm
          obtain ⟨d', el⟩ := Option.isSome_iff_exists.mp hm
          obtain ⟨Ca, f, e1, e2, e3, r'⟩ := mx.mks C d' el
          match n with
          | 0 => cases hmk
          | 1 => exact ⟨Ca, f, 0, Nat.le_refl _, e1, e2, e3, (r'.out fun _ _ => rfl).nil⟩
          | j + 2 =>
            refine ⟨Ca, f, j + 1, Nat.le_refl _, e1, e2, e3, ?_⟩
            have er : (cfg p.P (j + 2)).init C = d'.run (cfg p.P j) := by
              funext vs S
              show (match p.P.meths.lookup (C, ("__init__" : Str)) with | some d => d.run (cfg p.P j) vs S | none => .out) = _
              rw [el]
            rw [er]
            exact (ih j (by omega) d' f r').nil }
      fx := ⟨mx.glo, fun f d e => let ⟨a, e1, e2, _⟩ := mx.fns f d e; ⟨a, e1, e2⟩, fun cl f C e1 e2 => mx.at_ cl f C e1 (by rw [c2] at e2; exact e2), fun C m => by rw [c4]⟩
      hotx := fun z => by cases z
      own := passes_of rfl
      tk := tk
      stk := rfl, frm := rfl, knd := S.kind
      err := fun x f e => let ⟨C, fI, e1, e2⟩ := mx.err x f e; ⟨C, fI, e1, e2, by rw [mx.fld, e]; rfl⟩
      cat := fun x hx => let ⟨C0, e1, e2⟩ := mx.cat x hx; ⟨C0, e1, fun y C hy hm => by rw [c1]; rw [c5] at hy; exact e2 y C hy hm⟩
      hnd := fun _ h hh => hot_at mx n n hh }
  · obtain ⟨hl, xs, S0, m, rl, rs, p1⟩ := hsp
    have hx : xs.length = d.params := by rw [rl.length, hl, l2]
    refine ⟨xs.map some ++ List.replicate (d.slots - d.params) none, S0, m, start_rep rl l1 hx, rs, ?_⟩
    unfold Def.run at p1
    rw [if_pos hx] at p1
    cases ed : d.body.den (cfg p.P n) (xs.map some ++ List.replicate (d.slots - d.params) none) S0 with
    | nx ρ S1 => rw [ed] at p1; exact fun m' H' σ x s _ => p1 m' H' .non x s .non
    | rt v ρ S1 => rw [ed] at p1; exact fun m' H' u x s r => p1 m' H' u x s r
    | exc cl v ρ S1 => rw [ed] at p1; exact fun m' H' σ cls d x s _ ex => p1 m' H' cls d x s ex
    | bk ρ S1 => rw [ed] at p1; exact False.elim p1
    | ct ρ S1 => rw [ed] at p1; exact False.elim p1
    | out => rw [ed] at p1; exact False.elim p1
theorem level (mx : Mx M p prog) : ∀ (n : Nat) (d : Def) (a : Addr), RowOk M p false d a → FnAt M prog w base (n + 1) (d.run (cfg p.P n)) d.dfl a := by
  intro n
  induction n using Nat.strongRecOn with
  | _ n ih =>
    intro d a r
    exact r.at (fun _ _ => run_len) fun fd N ps name qual params body scope dvs kws F S l1 l2 q => level_at mx n ih F S l1 l2 q
end
end Pz
end
section
set_option Elab.async false
set_option linter.all false
set_option maxRecDepth 100000
set_option maxHeartbeats 3200000
/-! Pz: the head's facts, the end. -/
namespace Pz
open PySem PySem.Spec PyProof.Rows L2
/-! ### what is written -/
structure HRow where
  at_ : Str × Option Str
  qual : Str
  st : Stmt
  N : List Str
  ps : List Str
  d : Def
def dvOf : PV → Option He.Dv
  | .non => some .non
  | .bl b => some (.bl b)
  | .int i => some (.int i)
  | .str x => if x.length ≤ lim then some (.str x) else none
  | _ => none
def dvsOf : List PV → List He.Dv
  | [] => []
  | v :: vs => (dvOf v).getD .non :: dvsOf vs
def HRow.nm (r : HRow) : Str := r.at_.2.getD r.at_.1
def HRow.dd (r : HRow) : He.DefD := ⟨r.at_, r.nm, r.qual, defArgs r.st, defBody r.st, defScope r.st, dvsOf r.d.dfl, []⟩
def scopeB (N ps : List Str) (sc : Scope) : Bool := (match sc.kind with | .function => true | _ => false) && (!sc.isCoroutine && (!sc.isGenerator && (decide N.Nodup && (decide (N.take ps.length = ps) && ((ps.all fun x => decide (sc.names.lookup x = some .local) || decide (sc.names.lookup x = some .cell)) && sc.names.all fun y => decide (y.2 ≠ .free))))))
theorem scopeB_ok {N ps : List Str} {sc : Scope} (h : scopeB N ps sc = true) : FnScope N ps sc := by
  unfold scopeB at h
  simp only [Bool.and_eq_true, Bool.not_eq_true', decide_eq_true_eq, List.all_eq_true, Bool.or_eq_true] at h
  obtain ⟨h1, h2, h3, h4, h5, h6, h7⟩ := h
  refine ⟨?_, h2, h3, h4, h5, h6, h7⟩
  cases e : sc.kind with
  | function => rfl
  | _ => rw [e] at h1; cases h1
def HRow.okB (p : Pt) (r : HRow) : Bool := scopeB r.N r.ps (defScope r.st) && (decide (r.N.length = r.d.slots) && (decide (r.ps.length = r.d.params) && ((r.d.dfl.all fun v => (dvOf v).isSome) &&
  chkSs p { N := r.N, sc := defScope r.st, fn := fun _ => true, hot := r.d.hot } r.d.body (defBody r.st))))
/-- how its parameters are bound -/
def HRow.Bind (r : HRow) : Prop := ∀ (K : PySem.W.Frag) (f : Addr) (fd : FuncData), FunD K r.nm r.qual (defArgs r.st) (defBody r.st) (defScope r.st) (r.dd.dvs K) [] f fd → ∀ j, j ≤ r.d.dfl.length → ∃ ds, Vals ((r.dd.dvs K).drop j) ds ∧ Binds K fd r.ps ds
theorem dvsOf_len : ∀ vs : List PV, (dvsOf vs).length = vs.length
  | [] => rfl
  | v :: vs => congrArg Nat.succ (dvsOf_len vs)
theorem HRow.bind0 {r : HRow} (h0 : r.d.dfl = []) (h : ∀ (kV doc pm : Value) (an : Option Addr) (cdv ct : Value) (us : List Value), us.length = r.ps.length → bindArgs (PySem.W.fnOf r.nm r.qual (defArgs r.st) (defBody r.st) (defScope r.st) .none kV doc pm an cdv ct) ⟨us, []⟩ = pure (r.ps.zip us)) : r.Bind := by
  intro K f fd F j hj
  have e : r.dd.dvs K = [] := by
    show (dvsOf r.d.dfl).map _ = []
    rw [h0]; rfl
  rw [e] at F ⊢
  exact ⟨[], by cases j <;> exact .nil, F.bindsN h⟩
/-- the def's defaults behind the first j fill up -/
def HRow.BindAt (r : HRow) (j : Nat) : Prop := ∃ n, n + (r.d.dfl.length - j) = r.ps.length ∧ ∀ (T : Addr) (kV doc pm : Value) (an : Option Addr) (cdv ct : Value) (us its : List Value), us.length = n → its.length = r.d.dfl.length →
  ∃ k, bindArgs (PySem.W.fnOf r.nm r.qual (defArgs r.st) (defBody r.st) (defScope r.st) (.ref T) kV doc pm an cdv ct) ⟨us, []⟩ = seqItems? (.ref T) >>= k ∧ k (some its.toArray) = pure (r.ps.zip (us ++ its.drop j))
theorem HRow.bind1 {r : HRow} (h0 : r.d.dfl ≠ []) (h : ∀ j, j ≤ r.d.dfl.length → r.BindAt j) : r.Bind := by
  intro K f fd F j hj
  obtain ⟨n, hn, hb⟩ := h j hj
  have l : (r.dd.dvs K).length = r.d.dfl.length := by
    show ((dvsOf r.d.dfl).map _).length = _
    rw [List.length_map, dvsOf_len]
  refine F.binds1 n j (fun e => h0 ?_) (by rw [l]; exact hn) fun T kV doc pm an cdv ct us its l1 l2 => hb T kV doc pm an cdv ct us its l1 (l2.trans l)
  rw [e] at l
  exact List.length_eq_zero_iff.mp l.symm
inductive AllB : List HRow → Prop
  | nil : AllB []
  | cons {r : HRow} {rs : List HRow} : r.Bind → AllB rs → AllB (r :: rs)
theorem AllB.get : ∀ {rs : List HRow}, AllB rs → ∀ r ∈ rs, r.Bind
  | _, .nil, r, h => by cases h
  | _, .cons a t, r, h => by
    rcases List.mem_cons.mp h with rfl | h
    · exact a
    · exact t.get r h
theorem rep_dvs {M : Md} {m : Mp} {H : Hp} {K : PySem.W.Frag} : ∀ {vs : List PV}, (vs.all fun v => (dvOf v).isSome) = true → RepL M m H vs ((dvsOf vs).map (He.Dv.v K))
  | [], _ => .nil
  | v :: vs, h => by
    simp only [List.all_cons, Bool.and_eq_true] at h
    refine .cons ?_ (rep_dvs h.2)
    have h1 := h.1
    cases v with
    | non => exact .non
    | bl b => exact .bl b
    | int i => exact .int i
    | str x =>
      have h2 : (if x.length ≤ lim then some (He.Dv.str x) else none).isSome = true := h1
      show Rep M m H (.str x) (He.Dv.v K ((if x.length ≤ lim then some (He.Dv.str x) else none).getD .non))
      by_cases l : x.length ≤ lim
      · rw [if_pos l]
        exact .str l
      · rw [if_neg l] at h2; cases h2
    | _ => cases h1
theorem RepL.dropL {M : Md} {m : Mp} {H : Hp} {xs : List PV} {vs : List V} (n : Nat) (h : RepL M m H xs vs) : RepL M m H (xs.drop n) (vs.drop n) := h.drop n
theorem HRow.row {M : Md} {p : Pt} {r : HRow} {fd : FuncData} {a : Addr} (hb : r.okB p = true) (hd : r.Bind) (F : FunD M.K r.nm r.qual (defArgs r.st) (defBody r.st) (defScope r.st) (r.dd.dvs M.K) [] a fd) : RowOk M p r.d.hot r.d a := by
  unfold HRow.okB at hb
  simp only [Bool.and_eq_true, decide_eq_true_eq] at hb
  obtain ⟨h1, h2, h3, h4, h5⟩ := hb
  refine ⟨⟨r.nm, r.qual, defArgs r.st, defBody r.st, defScope r.st, _, [], fd, r.N, r.ps, F, scopeB_ok h1, h2, h3, h5, fun j hj => ?_⟩⟩
  obtain ⟨ds, v, b⟩ := hd _ _ _ F j hj
  exact ⟨_, ds, b, v, fun m H => (rep_dvs h4).drop j⟩
/-! ### own errors -/
structure ERow where
  cl : Str
  fld : Str
  qual : Str
  params : Arguments
  body : List Stmt
  scope : Scope
abbrev FnU : Type := Option (Str × Str × Arguments × FuncBody × Scope × Addr × Value × Addr)
def fnU (K : PySem.W.Frag) (x : Str) : FnU := match K.lookup (He.ma K (He.ga K x) "__init__") with
  | some ⟨_, _, .func fd, _⟩ => some (fd.name, fd.qualname, fd.params, fd.body, fd.scope, fd.globals, fd.defaults, fd.builtins)
  | _ => none
def ERow.val (e : ERow) : FnU := some ("__init__", e.qual, e.params, .stmts e.body, e.scope, mainGlobals, .none, builtinsNs)
/-- what the text says of it -/
structure ERow.Ok (e : ERow) : Prop where
  ex : ∃ (text : Str) (j : Nat) (p0 p1 p2 p3 p4 p5 p6 p7 p8 p9 : Pos) (ar : Arg), e.body = errBody e.fld text j p0 p1 p2 p3 p4 p5 p6 p7 p8 p9 ∧ (e.params.posonlyargs ++ e.params.args).head? = some ar ∧ ar.arg = "self" ∧
    (∀ (kV doc pm : Value) (an : Option Addr) (cdv ct : Value) (cc : Addr) (s : Shared) (x : Addr) (v : Value), BindsTo s (PySem.W.ksFn "__init__" e.qual e.params e.body e.scope .none kV doc pm an cdv ct cc) ⟨[.ref x, v], []⟩ (errB x e.fld v)) ∧ (p2.endLine == p4.line) = true
  sc : ((e.scope.names.all fun y => decide (y.2 ≠ .cell)) && (decide (e.scope.names.lookup ("self" : Str) = some .local) && (decide (e.scope.names.lookup e.fld = some .local) && (decide (e.scope.names.lookup ("super" : Str) = some .globalImplicit) && (decide (e.scope.names.lookup ("__class__" : Str) = some .free) &&
    (!e.scope.isCoroutine && (!e.scope.isGenerator && ((match e.scope.kind with | .function => true | _ => false) && (!(e.fld == ("self" : Str)) && (!(e.fld == ("__debug__" : Str)) && !(e.fld == ("__class__" : Str))))))))))) ) = true
/-- the class's object -/
def ecB (K : PySem.W.Frag) (C : Addr) : Bool := match K.lookup C with
  | some ⟨.type "type", _, .cls ⟨_, _, .ref C' :: bm, _, _, hd, _, _, _, _, del⟩, ⟨[_, _, _, _, some (.builtin n), _]⟩⟩ => decide (C' = C) && (HandSPX.refsVE bm && (hd && (!del && decide (n = "ValueError.__new__"))))
  | _ => false
theorem ecB_ok {K : PySem.W.Frag} {C : Addr} (h : ecB K C = true) : ∃ nm q N bs bm sn sub ab col dd k0 k1 k2 k3 k5, K.lookup C = some (excClassObj nm q C N bs bm true sn sub ab col dd k0 k1 k2 k3 k5 "ValueError.__new__") ∧ HandSPX.refsVE bm = true := by
  unfold ecB at h
  split at h
  · rename_i dd nm bs C' bm N q hd sn sub ab col del k0 k1 k2 k3 n k5 e
    simp only [Bool.and_eq_true, decide_eq_true_eq, Bool.not_eq_true'] at h
    obtain ⟨rfl, h1, rfl, rfl, rfl⟩ := h
    exact ⟨nm, q, N, bs, bm, sn, sub, ab, col, dd, k0, k1, k2, k3, k5, e, h1⟩
  · cases h
/-- its __init__'s closure and code -/
def eiB (K : PySem.W.Frag) (file : Str) (e : ERow) (C fI : Addr) : Bool := match K.lookup fI with
  | some ⟨_, _, .func fd, _⟩ => (match fd.closure, fd.code with
    | [(y, cc)], .ref cda => decide (y = "__class__") && (PySem.W.codeIn K (.ref cda) e.qual && ((match K.lookup cda with
      | some ⟨_, _, .fields vs, _⟩ => (match (vs[2]? : Option Value) with
        | some (.str f _) => file == f
        | _ => false)
      | _ => false) && (match K.lookup cc with
      | some ⟨_, _, .cell (some (.ref C')), _⟩ => decide (C' = C)
      | _ => false)))
    | _, _ => false)
  | _ => false
def errB1 (K : PySem.W.Frag) (file : Str) (e : ERow) (C fI : Addr) : Bool :=
  ecB K C && (He.eqO (PySem.W.findIn K (.ref C) "__setattr__") (some (some (.builtin "object.__setattr__"))) && (He.eqO (PySem.W.findIn K (.ref C) "__getattribute__") (some (some (.builtin "BaseException.__getattribute__"))) && (He.eqO (PySem.W.findIn K (.ref C) "__getattr__") (some none) &&
  (He.eqO (PySem.W.findIn K (.ref C) e.fld) (some none) && (He.eqO (PySem.W.findIn K (.ref C) "__init__") (some (some (.ref fI))) && (decide (PySem.W.typeIn K (.ref fI) = some (.type "function")) && (PySem.W.keepIn K (.ref C) && (decide (PySem.W.subIn K (.ref C) (.type "BaseException") = some true) &&
  (decide (PySem.W.typeIn K (.ref C) = some (.type "type")) && (PySem.W.hasDictIn K C && (He.eqO (PySem.W.ks_superIn K C C "__init__") (some (some (.builtin "ValueError.__init__"))) && (decide (PySem.W.subIn K (.ref C) (.type "ValueError") = some true) && (decide (PySem.W.mroIn K C (.ref C) = some true) &&
  (He.eqO (PySem.W.nsIn K cStatics "thirdparty.any") (some none) && eiB K file e C fI))))))))))))))
theorem errTxt_of {prog : Program} {K : PySem.W.Frag} {mg : Str → Option Value} {e : ERow} (ok : e.Ok) (hu : fnU K e.cl = e.val) (h : errB1 K prog.main.file e (He.ga K e.cl) (He.ma K (He.ga K e.cl) "__init__") = true) (su : mg "super" = none) (top : (prog.main.scope.names.lookup ("super" : Str)).isSome = false) :
    ErrTxt prog K mg (He.ga K e.cl) (He.ma K (He.ga K e.cl) "__init__") e.fld := by
  unfold errB1 at h
  simp only [Bool.and_eq_true, decide_eq_true_eq] at h
  obtain ⟨h1, h2, h3, h4, h5, h6, h7, h8, h9, h10, h11, h12, h13, h14, h15, h16⟩ := h
  refine { cls := ecB_ok h1, sa := He.eqO_ok h2, ga := He.eqO_ok h3, gg := He.eqO_ok h4, noN := He.eqO_ok h5, iC := He.eqO_ok h6, tC := h7, kC := h8, exC := h9, tyC := h10, hdC := h11, sup := He.eqO_ok h12, sb := h13, mr := h14, op := He.eqO_ok h15, su := su, top := top, fn := ?_ }
  obtain ⟨text, j, p0, p1, p2, p3, p4, p5, p6, p7, p8, p9, ar, b1, b2, b3, b4, b5⟩ := ok.ex
  have sc := ok.sc
  simp only [Bool.and_eq_true, Bool.not_eq_true', decide_eq_true_eq, List.all_eq_true] at sc
  obtain ⟨s1, s2, s3, s4, s5, s6, s7, s8, s9, s10, s11⟩ := sc
  unfold eiB at h16
  split at h16
  case h_2 => cases h16
  rename_i oc od fd osl lk
  unfold fnU at hu
  rw [lk] at hu
  obtain ⟨n1, n2, n3, n4, n5, n6, n7, n8, n9, n10, n11, n12, n13, n14, n15⟩ := fd
  dsimp only at hu h16
  split at h16
  case h_2 => cases h16
  rename_i y cc cda
  unfold ERow.val at hu
  simp only [Option.some.injEq, Prod.mk.injEq] at hu
  obtain ⟨u1, u2, u3, u4, u5, u6, u7, u8⟩ := hu
  subst u1 u2 u3 u4 u5 u6 u7 u8
  simp only [Bool.and_eq_true, decide_eq_true_eq] at h16
  obtain ⟨rfl, c1, c2, c3⟩ := h16
  split at c2
  case h_2 => cases c2
  rename_i ccl cdd vs ccs lc
  split at c2
  case h_2 => cases c2
  rename_i file tf ev
  split at c3
  case h_2 => cases c3
  rename_i cl cld C' csl lcc
  have eC : C' = _ := of_decide_eq_true c3
  subst eC
  have kd : e.scope.kind = .function := by
    cases ek : e.scope.kind with
    | function => rfl
    | _ => rw [ek] at s8; cases s8
  rw [b1] at lk b4
  exact ⟨oc, od, e.qual, e.params, text, j, p0, p1, p2, p3, p4, p5, p6, p7, p8, p9, e.scope, n9, n10, n11, n12, cda, cc, n14, osl, ar, ccl, cl, cdd, cld, vs, ccs, csl, file, tf, lk, c1, b2, b3, lc, ev, c2, lcc, fun s x v => b4 n9 n10 n11 n12 (.ref cda) n14 cc s x v, s1, s2, s3, s4, s5, s6, s7, kd, s9, s10, s11, b5⟩
/-! ### all -/
structure Hd where
  p : Pt
  fs : List HRow
  ms : List HRow
  es : List ERow
  file : Str
def ecls (K : PySem.W.Frag) (C : Addr) : Bool := He.eqO (PySem.W.findIn K (.ref C) "__class__") (some (some (.builtin "object.__class__"))) && (He.eqO (PySem.W.specialIn K (.builtin "object.__class__") "__get__") (some (some (.builtin "getset_descriptor.__get__"))) && (decide (PySem.W.takesIn K (.builtin "object.__class__") = some true) && decide (PySem.W.mroIn K C (.type "object") = some true)))
def gloB (K : PySem.W.Frag) (x : Str) : PV → Bool
  | .int i => (He.Fa.int x i).ok K
  | .str z => (He.Fa.str x z).ok K && decide (z.length ≤ lim)
  | .fn f => decide (f = x) && ((He.Fa.glo x).ok K && PySem.W.keepIn K (.ref (He.ga K x)))
  | .wtup vs => (He.Fa.glo x).ok K && ((vs.all fun v => (dvOf v).isSome) && (decide (vs.length ≤ lim) && He.tupB K x (dvsOf vs)))
  | _ => false
def Hd.b (h : Hd) (K : PySem.W.Frag) : Bool :=
  ((bltNames.all fun x => (He.Fa.free x).ok K) && (He.Fa.free "super").ok K) && ((h.p.G.all fun q => gloB K q.1 q.2) && ((h.fs.all fun r => (He.Fa.glo r.at_.1).ok K && r.dd.ok K) && ((h.ms.all fun r => (He.Fa.glo r.at_.1).ok K && ((He.Fa.cls r.at_.1).ok K && ((He.Fa.meth r.at_.1 r.nm).ok K && ((He.Fa.mkr r.at_.1).ok K && r.dd.ok K)))) &&
  ((h.p.P.attrs.all fun q => (He.Fa.glo q.1).ok K && q.2.all fun f => (He.Fa.noat q.1 f).ok K) && ((h.es.all fun e => (He.Fa.glo e.cl).ok K && (errB1 K h.file e (He.ga K e.cl) (He.ma K (He.ga K e.cl) "__init__") && (ecls K (He.ga K e.cl) &&
    ((h.p.T.all fun x => decide (PySem.W.exmOne K (.ref (He.ga K e.cl)) (.ref (He.ga K x)) = some (decide (x ∈ e.cl :: (h.p.P.sub.lookup e.cl).getD [])))) && ((h.p.C.all fun x => decide (PySem.W.kitOne K (.ref (He.ga K e.cl)) (.ref (He.ga K x)) = some (decide (x ∈ e.cl :: (h.p.P.sub.lookup e.cl).getD [])))) &&
      h.p.P.fld.all fun q => He.eqO (PySem.W.findIn K (.ref (He.ga K e.cl)) q.2) (some none)))))) && (h.p.T ++ h.p.C).all fun x => (He.Fa.glo x).ok K)))))
/-- what is static -/
structure Hd.Ok (h : Hd) (prog : Program) : Prop where
  rows : ((h.fs ++ h.ms).all fun r => r.okB h.p) = true
  bf : AllB h.fs
  bm : AllB h.ms
  er : ∀ e ∈ h.es, e.Ok
  defs : h.p.P.defs = h.fs.map fun r => (r.at_.1, r.d)
  meths : h.p.P.meths = h.ms.map fun r => ((r.at_.1, r.nm), r.d)
  fld : h.p.P.fld = h.es.map fun e => (e.cl, e.fld)
  form : ((h.fs.all fun r => decide (r.at_.2 = none)) && ((h.ms.all fun r => decide (r.at_.2.isSome = true) && decide (r.d.hot = false)) && h.p.H.all fun x => match h.p.P.defs.lookup x with | some d => decide (d.params = 1) && (decide (d.dfl.length = 0) && d.hot) | none => false)) = true
  file : h.file = prog.main.file
  top : (prog.main.scope.names.lookup ("super" : Str)).isSome = false
def Hd.md (h : Hd) (K : PySem.W.Frag) (mg : Str → Option Value) : Md := { K := K, mg := mg, fld := fun x => (h.p.P.fld.lookup x).getD "" }
abbrev AlP : Type := Bool × (List He.FnW × List FnU)
def Hd.obs (h : Hd) (K : PySem.W.Frag) : AlP := (h.b K, ((h.fs ++ h.ms).map fun r => He.fnW K r.dd.at_, h.es.map fun e => fnU K e.cl))
def Hd.val (h : Hd) : AlP := (true, ((h.fs ++ h.ms).map fun r => r.dd.val, h.es.map fun e => e.val))
def asP (g : Addr → Option Obj) : Nat → List Addr
  | 0 => [mainGlobals]
  | n + 1 => He.growD g (asP g n)
def kP (g : Addr → Option Obj) (n : Nat) : PySem.W.Frag := He.frT g (asP g n ++ [cStatics])
def Hd.hook (h : Hd) (n : Nat) : PySem.W.Hook where
  α := AlP
  obs := fun s => h.obs (kP s.heap.get? n)
  val := fun _ => h.val
  says := fun _ hp => ∃ K : PySem.W.Frag, K.In hp ∧ h.obs K = h.val
  of := fun _ s e => ⟨kP s.heap.get? n, He.frT_in, e⟩
  keeps := fun _ _ _ ⟨K, hK, c⟩ k => ⟨K, PySem.W.Frag.In.keeps hK k, c⟩
theorem Hd.obs_eq {h : Hd} {n : Nat} {g : Addr → Option Obj} {s : Shared} (e : ∀ a, g a = s.heap.get? a) : h.obs (kP g n) = (h.hook n).obs s := by
  have e2 : g = s.heap.get? := funext e
  rw [e2]; rfl
theorem mapEq {α β : Type} {f g : α → β} : ∀ {l : List α}, l.map f = l.map g → ∀ x ∈ l, f x = g x
  | [], _, x, h => by cases h
  | y :: l, e, x, h => by
    simp only [List.map_cons, List.cons.injEq] at e
    rcases List.mem_cons.mp h with rfl | h
    · exact e.1
    · exact mapEq e.2 x h
theorem lookupMap {α β γ : Type} [BEq α] [LawfulBEq α] {f : γ → α} {g : γ → β} {a : α} {b : β} : ∀ {l : List γ}, (l.map fun r => (f r, g r)).lookup a = some b → ∃ r ∈ l, f r = a ∧ g r = b
  | [], h => by cases h
  | r :: l, h => by
    have h2 : (match a == f r with | true => some (g r) | false => (l.map fun r => (f r, g r)).lookup a) = some b := h
    cases q : (a == f r) with
    | true =>
      rw [q] at h2
      exact ⟨r, List.mem_cons_self, (beq_iff_eq.mp q).symm, Option.some.inj h2⟩
    | false =>
      rw [q] at h2
      obtain ⟨r', h3, h4⟩ := lookupMap h2
      exact ⟨r', List.mem_cons_of_mem _ h3, h4⟩
theorem lookupMem {α β : Type} [BEq α] [LawfulBEq α] {a : α} {b : β} {l : List (α × β)} (h : l.lookup a = some b) : (a, b) ∈ l := by
  have e : l = l.map fun r => (r.1, r.2) := by simp
  rw [e] at h
  obtain ⟨r, h1, h2, h3⟩ := lookupMap h
  rw [← h2, ← h3]; exact h1
theorem Hd.mx {h : Hd} {prog : Program} {K : PySem.W.Frag} {hp : Heap} {mg : Str → Option Value} (ok : h.Ok prog) (X : K.In hp) (G : hp.Ns mainGlobals mg) (c : h.obs K = h.val) : Mx (h.md K mg) h.p prog := by
  have cb : h.b K = true := congrArg (·.1) c
  have c1 : ((h.fs ++ h.ms).map fun r => He.fnW K r.dd.at_) = (h.fs ++ h.ms).map fun r => r.dd.val := congrArg (·.2.1) c
  have c2 : (h.es.map fun e => fnU K e.cl) = h.es.map fun e => e.val := congrArg (·.2.2) c
  have fw := mapEq c1
  have fu := mapEq c2
  unfold Hd.b at cb
  simp only [Bool.and_eq_true, List.all_eq_true, decide_eq_true_eq] at cb
  obtain ⟨⟨b1, b2⟩, b3, b4, b5, b6, b7, b8⟩ := cb
  have rows := ok.rows
  simp only [List.all_eq_true] at rows
  have form := ok.form
  simp only [Bool.and_eq_true, List.all_eq_true, decide_eq_true_eq] at form
  obtain ⟨f1, f2, f3⟩ := form
  have glo : ∀ {x : Str}, (He.Fa.glo x).ok K = true → mg x = some (.ref (He.ga K x)) := fun c => He.glo_ok X G c
  have fnRow : ∀ r ∈ h.fs, mg r.at_.1 = some (.ref (He.ga K r.at_.1)) ∧ PySem.W.keepIn K (.ref (He.ga K r.at_.1)) = true ∧ RowOk (h.md K mg) h.p r.d.hot r.d (He.ga K r.at_.1) := fun r hr => by
    obtain ⟨g1, g2⟩ := b4 r hr
    obtain ⟨fd, F⟩ := He.DefD.funD (fw r (List.mem_append_left _ hr)) g2
    have e : He.fAd K r.at_ = He.ga K r.at_.1 := by unfold He.fAd; rw [f1 r hr]
    have F' : FunD K r.nm r.qual (defArgs r.st) (defBody r.st) (defScope r.st) (r.dd.dvs K) [] (He.ga K r.at_.1) fd := by
      rw [← e]; exact F
    exact ⟨glo g1, F'.kp, HRow.row (M := h.md K mg) (rows r (List.mem_append_left _ hr)) (ok.bf.get r hr) F'⟩
  have mtRow : ∀ r ∈ h.ms, mg r.at_.1 = some (.ref (He.ga K r.at_.1)) ∧ Cls K (He.ga K r.at_.1) ∧ Meth K (He.ga K r.at_.1) r.nm (He.ma K (He.ga K r.at_.1) r.nm) ∧ (He.Fa.mkr r.at_.1).ok K = true ∧ RowOk (h.md K mg) h.p false r.d (He.ma K (He.ga K r.at_.1) r.nm) := fun r hr => by
    obtain ⟨g1, g2, g3, g4, g5⟩ := b5 r hr
    obtain ⟨k1, k2⟩ := f2 r hr
    obtain ⟨fd, F⟩ := He.DefD.funD (fw r (List.mem_append_right _ hr)) g5
    obtain ⟨m, em⟩ := Option.isSome_iff_exists.mp k1
    have en : r.nm = m := by unfold HRow.nm; rw [em]; rfl
    have e : He.fAd K r.at_ = He.ma K (He.ga K r.at_.1) r.nm := by unfold He.fAd; rw [em, en]
    have F' : FunD K r.nm r.qual (defArgs r.st) (defBody r.st) (defScope r.st) (r.dd.dvs K) [] (He.ma K (He.ga K r.at_.1) r.nm) fd := by
      rw [← e]; exact F
    have ro := HRow.row (M := h.md K mg) (rows r (List.mem_append_right _ hr)) (ok.bm.get r hr) F'
    rw [k2] at ro
    exact ⟨glo g1, He.cls_ok g2, He.meth_ok g3, g4, ro⟩
  have erRow : ∀ e ∈ h.es, mg e.cl = some (.ref (He.ga K e.cl)) := fun e he => glo (b7 e he).1
  have errs : ∀ y ∈ h.p.P.fld.map (·.1), ∃ e ∈ h.es, e.cl = y := fun y hy => by
    rw [ok.fld, List.map_map] at hy
    obtain ⟨e, he, rfl⟩ := List.mem_map.mp hy
    exact ⟨e, he, rfl⟩
  exact {
    hot := rfl
    blt := fun x hx => He.free_ok X G (b1 x hx)
    glo := fun x v hx => by
      have g := b3 _ hx
      dsimp only at g
      show GloOk (h.md K mg) x v
      cases v with
      | int i =>
        obtain ⟨t, et⟩ := He.int_ok X G g
        exact ⟨.int i, _, et, ⟨t, rfl⟩, fun m H => .int i⟩
      | str z =>
        unfold gloB at g
        simp only [Bool.and_eq_true, decide_eq_true_eq] at g
        obtain ⟨t, et⟩ := He.str_ok X G g.1
        exact ⟨.str z, _, et, ⟨t, rfl⟩, fun m H => .str g.2⟩
      | fn f =>
        unfold gloB at g
        simp only [Bool.and_eq_true, decide_eq_true_eq] at g
        obtain ⟨rfl, g1, g2⟩ := g
        exact ⟨.ref (He.ga K f), _, glo g1, rfl, fun m H => .fn (glo g1) g2⟩
      | wtup vs =>
        unfold gloB at g
        simp only [Bool.and_eq_true, decide_eq_true_eq] at g
        obtain ⟨g1, g2, g3, g4⟩ := g
        refine ⟨.ref (He.ga K x), _, glo g1, rfl, fun m H => ?_⟩
        have := He.tupB_ok g4 (fun _ => none)
        rcases this with z | z
        · rcases z with z | ⟨o, z⟩ <;> cases z
        · exact .wtup (M := h.md K mg) z (by rw [List.length_map, dvsOf_len]; exact g3) (rep_dvs g2)
      | _ => cases g
    fns := fun f d e => by
      rw [ok.defs] at e
      obtain ⟨r, hr, rfl, rfl⟩ := lookupMap e
      obtain ⟨g1, g2, g3⟩ := fnRow r hr
      exact ⟨_, g1, g2, fun hh => hh ▸ g3⟩
    mts := fun C m d e => by
      rw [ok.meths] at e
      obtain ⟨r, hr, e1, rfl⟩ := lookupMap e
      cases e1
      obtain ⟨g1, g2, g3, _, g4⟩ := mtRow r hr
      exact ⟨_, _, g1, g2, g3, g4⟩
    mks := fun C d e => by
      rw [ok.meths] at e
      obtain ⟨r, hr, e1, rfl⟩ := lookupMap e
      obtain ⟨g1, g2, g3, g5, g4⟩ := mtRow r hr
      injection e1 with e2 e3
      subst e2
      rw [e3] at g4
      exact ⟨_, _, g1, g2, He.mkr_ok g5, g4⟩
    at_ := fun cl f C e1 e2 => by
      cases el : h.p.P.attrs.lookup cl with
      | none => rw [el] at e2; cases e2
      | some fs =>
        rw [el] at e2
        obtain ⟨g1, g2⟩ := b6 _ (lookupMem el)
        have : C = He.ga K cl := by
          have := (glo g1).symm.trans e1
          cases this; rfl
        subst this
        exact He.noat_ok (g2 f e2)
    err := fun x f e => by
      rw [ok.fld] at e
      obtain ⟨r, hr, rfl, rfl⟩ := lookupMap e
      obtain ⟨g1, g2, _⟩ := b7 r hr
      refine ⟨_, _, glo g1, errTxt_of (ok.er r hr) (fu r hr) (by rw [← ok.file]; exact g2) (He.free_ok X G b2) ok.top⟩
    fld := fun x => rfl
    cat := fun x hx => by
      refine ⟨_, glo (b8 x (List.mem_append_left _ hx)), fun y C hy hm => ?_⟩
      obtain ⟨e, he, rfl⟩ := errs y hy
      obtain ⟨g1, g2, g3, g4, g5, g6⟩ := b7 e he
      have : C = He.ga K e.cl := by
        have := (glo g1).symm.trans hm
        cases this; rfl
      subst this
      exact g4 x hx
    hnd := fun x hx => by
      have g := f3 x hx
      split at g
      · rename_i d el
        simp only [Bool.and_eq_true, decide_eq_true_eq] at g
        obtain ⟨g1, g2, g3⟩ := g
        have el2 := el
        rw [ok.defs] at el2
        obtain ⟨r, hr, rfl, rfl⟩ := lookupMap el2
        obtain ⟨k1, k2, k3⟩ := fnRow r hr
        exact ⟨_, _, el, g1, List.length_eq_zero_iff.mp g2, k1, g3 ▸ k3⟩
      · cases g
    erc := fun y C hy hm => by
      obtain ⟨e, he, rfl⟩ := errs y hy
      obtain ⟨g1, g2, g3, g4, g5, g6⟩ := b7 e he
      have : C = He.ga K e.cl := by
        have := (glo g1).symm.trans hm
        cases this; rfl
      subst this
      unfold errB1 at g2
      simp only [Bool.and_eq_true, decide_eq_true_eq] at g2
      obtain ⟨h1, h2, h3, h4, h5, h6, h7, h8, h9, h10, h11, h12, h13, h14, h15, h16⟩ := g2
      unfold ecls at g3
      simp only [Bool.and_eq_true, decide_eq_true_eq] at g3
      obtain ⟨k1, k2, k3, k4⟩ := g3
      refine ⟨⟨He.eqO_ok h3, He.eqO_ok h4, h9, h11, He.eqO_ok k1, He.eqO_ok k2, k3, k4⟩, fun cl hcl => ⟨_, glo (b8 cl (List.mem_append_right _ hcl)), g5 cl hcl⟩, fun f hf => ?_⟩
      obtain ⟨q, hq, rfl⟩ := List.mem_map.mp hf
      exact He.eqO_ok (g6 q hq) }
/-! ### the end -/
theorem fn_law {prog : Program} {w : World} {K : PySem.W.Frag} {mg : Str → Option Value} {base : Heap} {k : Nat} {f : Addr} {fd : FuncData} {ps : List Str} {sp : Sp} (F : FnOk prog w K mg base (L2N.CX prog w) k f fd ps sp) : FnOk prog w K mg base CX0 k f fd ps (fun vs H Q _ => sp vs H Q fun _ _ _ => False) := by
  refine ⟨fun vs H Q E h => F.len vs H Q _ h, fun A outer s H args us vs Q E hr e0 hb hv hs => codeAny_mono (F.run A outer s H args us vs Q (fun _ _ _ => False) hr e0 hb hv hs) fun r s' hq => ?_⟩
  cases r with
  | error e =>
    obtain ⟨_, _, _, _, _, _, _, _, _, _, _, _, z⟩ := hq
    exact z.elim
  | ok fl =>
    cases fl with
    | ret u => exact hq
    | next => exact hq
    | brk => exact hq
    | cont => exact hq
/-- the law: its def hands back True -/
theorem Hd.walk {l : PySem.W.OpenLaw} {h : Hd} {m k : Nat} {q : Program} {loose : List Str} {XP : (Str → Option Value) → Heap → Prop} {d : DefRec} {r : HRow} (ok : h.Ok l.prog) (hn : l.most = some 63) (hdf : d.params.defaults = []) (hr : Room (k + 1) callerA) (hx : d.name = r.at_.1) (hr2 : r ∈ h.fs) (hot : r.d.hot = false) (hps : r.ps = [("script" : Str)]) (hdfl : r.d.dfl = [])
    (hb : ∀ (kV doc pm : Value) (an : Option Addr) (cdv ct : Value) (us : List Value), us.length = r.ps.length → bindArgs (PySem.W.fnOf r.nm r.qual (defArgs r.st) (defBody r.st) (defScope r.st) .none kV doc pm an cdv ct) ⟨us, []⟩ = pure (r.ps.zip us))
    (math : ∀ ns : List Int, ns.length ≤ 63 → ∃ S, r.d.run (cfg h.p.P k) [.frz (ns.map .int)] [] = .ok (.bl true) S) :
    PySem.W.WalkO q loose XP (h.hook m).says l.row.toRowW d [] (fun f vs => PySem.call f vs) := by
  refine walk_ofE (l := l) (n := 63) (k := k + 1) (x := "script") (CX := CX0) hn (by decide) hdf hr ?_ (fun _ _ _ _ z => z)
  intro w mg fa hp Y G hmg
  obtain ⟨K, KX, c⟩ := Y
  have mx := Hd.mx ok KX G c
  -- where the def stands
  have cb : h.b K = true := congrArg (·.1) c
  have fw := mapEq (show ((h.fs ++ h.ms).map fun r => He.fnW K r.dd.at_) = (h.fs ++ h.ms).map fun r => r.dd.val from congrArg (·.2.1) c)
  unfold Hd.b at cb
  simp only [Bool.and_eq_true, List.all_eq_true, decide_eq_true_eq] at cb
  obtain ⟨_, _, b4, _⟩ := cb
  obtain ⟨g1, g2⟩ := b4 r hr2
  have form := ok.form
  simp only [Bool.and_eq_true, List.all_eq_true, decide_eq_true_eq] at form
  obtain ⟨fd, F⟩ := He.DefD.funD (fw r (List.mem_append_left _ hr2)) g2
  have e : He.fAd K r.at_ = He.ga K r.at_.1 := by unfold He.fAd; rw [form.1 r hr2]
  have ea : He.ga K r.at_.1 = fa := by
    have h1 : mg r.at_.1 = some (.ref fa) := hx ▸ hmg
    have h2 := (He.glo_ok KX G g1).symm.trans h1
    injection h2 with h3
    injection h3
  subst ea
  have F' : FunD K r.nm r.qual (defArgs r.st) (defBody r.st) (defScope r.st) [] [] (He.ga K r.at_.1) fd := by
    have : r.dd.dvs K = [] := by show (dvsOf r.d.dfl).map _ = []; rw [hdfl]; rfl
    rw [← e, ← this]; exact F
  have rows := ok.rows
  simp only [List.all_eq_true] at rows
  have F2 : FunD (h.md K mg).K r.nm r.qual (defArgs r.st) (defBody r.st) (defScope r.st) (r.dd.dvs K) [] (He.ga K r.at_.1) fd := by
    have : r.dd.dvs K = [] := by show (dvsOf r.d.dfl).map _ = []; rw [hdfl]; rfl
    rw [this]; exact F'
  -- the def's promise, over fd
  have okB := rows r (List.mem_append_left _ hr2)
  unfold HRow.okB at okB
  simp only [Bool.and_eq_true, decide_eq_true_eq] at okB
  obtain ⟨o1, o2, o3, o4, o5⟩ := okB
  refine ⟨K, fd, fun vs H Q _ => spF (h.md K mg) (r.d.run (cfg h.p.P k)) r.ps.length vs H Q fun _ _ _ => False, KX, fun s u => ?_, fun H a ns hl hO hS => ?_, fun base hKb hGb => ?_⟩
  · have := F'.bindsA hb s [u] (by rw [hps]; rfl)
    rw [hps] at this
    exact this
  · refine ⟨by rw [hps]; rfl, [.frz (ns.map .int)], [], ⟨[], []⟩, .cons ?_ .nil, ⟨List.nodup_nil, rfl, by simp, by simp⟩, ?_⟩
    · have rl : RepL (h.md K mg) ⟨[], []⟩ H (ns.map .int) (ns.map V.int) := by
        clear hS hl
        induction ns with
        | nil => exact .nil
        | cons n ns ih => exact .cons (.int n) ih
      have hl2 : (ns.map V.int).length ≤ lim := by rw [List.length_map]; exact Nat.le_trans hl (by decide)
      rcases hS with hS | hS
      · rcases hS with z | ⟨o, z⟩
        · rcases hO a with y | ⟨o, xs, y⟩
          · rw [y] at z; cases z
          · rw [y] at z; cases z
        · exact .frz z ⟨by simp, by simp⟩ hl2 rl
      · exact .frw (M := h.md K mg) hS hl2 rl
    · obtain ⟨S1, em⟩ := math ns hl
      rw [em]
      intro m' H' b x s rb
      cases rb
      rfl
  · refine fn_law ?_
    have fin := level_at (w := w) (base := base) mx k (fun m _ => level mx m) F2 (scopeB_ok o1) o2 o3 (by rw [hot] at o5; exact o5)
    rw [hps] at fin ⊢
    exact fin
end Pz
end
section
set_option Elab.async false
set_option linter.all false
set_option maxRecDepth 100000
/-! printed by pr.py: the program in the compact syntax -/
namespace Q74
open PySem Pz
def N_is_integer : List Str := ["value"]
def d_is_integer : Def := { hot := false, params := 1, dfl := [], slots := 1, body := (.cons (.ret (.and (.inst (.var 0) .int) (.not (.inst (.var 0) .bool)))) .nil) }
def N_is_name : List Str := ["value", "sign"]
def d_is_name : Def := { hot := false, params := 1, dfl := [], slots := 2, body := (.cons (.ite (.or (.not (.inst (.var 0) .str)) (.not (.chain .le .le (.con (.int 1)) (.bi .len (.cons (.var 0) .nil)) (.glo "MAX_WORD" (.int 10))))) (.cons (.ret (.con (.bl false))) .nil) .nil) (.cons (.ret (.bi .all (.cons (.ro (.comp (.cmp .mem (.var 1) (.glo "LETTERS" (.str "abcdefghijklmnopqrstuvwxyz"))) (.nm 1) (.seq (.var 0)) .none [1])) .nil))) .nil)) }
def N_is_content : List Str := ["value", "sign"]
def d_is_content : Def := { hot := false, params := 1, dfl := [], slots := 2, body := (.cons (.ret (.and (.inst (.var 0) .str) (.and (.cmp .le (.bi .len (.cons (.var 0) .nil)) (.glo "MAX_SIGNS" (.int 20))) (.bi .all (.cons (.ro (.comp (.cmp .mem (.var 1) (.bin .add (.glo "LETTERS" (.str "abcdefghijklmnopqrstuvwxyz")) (.con (.str " ")))) (.nm 1) (.seq (.var 0)) .none [1])) .nil))))) .nil) }
def l_are_nodes_1 : Sts := (.cons (.ite (.or (.not (.inst (.var 2) .tuple)) (.or (.not (.var 2)) (.not (.inst (.idx (.var 2) (.con (.int 0))) .str)))) (.cons (.ret (.con (.bl false))) .nil) .nil) (.cons (.ite (.and (.cmp .eq (.idx (.var 2) (.con (.int 0))) (.con (.str "t"))) (.and (.cmp .eq (.bi .len (.cons (.var 2) .nil)) (.con (.int 2))) (.call "is_content" (.cons (.idx (.var 2) (.con (.int 1))) .nil) []))) (.cons .cont .nil) .nil) (.cons (.ite (.or (.cmp .ne (.idx (.var 2) (.con (.int 0))) (.con (.str "e"))) (.or (.cmp .ne (.bi .len (.cons (.var 2) .nil)) (.con (.int 3))) (.or (.not (.call "is_name" (.cons (.idx (.var 2) (.con (.int 1))) .nil) [])) (.not (.call "are_nodes" (.cons (.idx (.var 2) (.con (.int 2))) (.cons (.bin .sub (.var 1) (.con (.int 1))) .nil)) []))))) (.cons (.ret (.con (.bl false))) .nil) .nil) .nil)))
def N_are_nodes : List Str := ["value", "depth", "own"]
def d_are_nodes : Def := { hot := false, params := 2, dfl := [], slots := 3, body := (.cons (.ite (.or (.not (.inst (.var 0) .tuple)) (.and (.var 0) (.cmp .eq (.var 1) (.con (.int 0))))) (.cons (.ret (.con (.bl false))) .nil) .nil) (.cons (.fo (.nm 2) (.seq (.var 0)) l_are_nodes_1) (.cons (.ret (.con (.bl true))) .nil))) }
def N_size_in : List Str := ["hedge", "own"]
def d_size_in : Def := { hot := false, params := 1, dfl := [], slots := 2, body := (.cons (.ret (.bi .sum (.cons (.ro (.comp (.ite (.cmp .eq (.idx (.var 1) (.con (.int 0))) (.con (.str "t"))) (.con (.int 1)) (.bin .add (.con (.int 1)) (.call "size_in" (.cons (.idx (.var 1) (.con (.int 2))) .nil) []))) (.nm 1) (.seq (.var 0)) .none [1])) .nil))) .nil) }
def N_is_hedge : List Str := ["value"]
def d_is_hedge : Def := { hot := false, params := 1, dfl := [], slots := 1, body := (.cons (.ret (.and (.call "are_nodes" (.cons (.var 0) (.cons (.glo "MAX_DEPTH" (.int 20)) .nil)) []) (.cmp .le (.call "size_in" (.cons (.var 0) .nil) []) (.glo "MAX_NODES" (.int 200))))) .nil) }
def N_check_hedge : List Str := ["value", "reason"]
def d_check_hedge : Def := { hot := false, params := 2, dfl := [(.str "hedge")], slots := 2, body := (.cons (.ite (.not (.call "is_hedge" (.cons (.var 0) .nil) [])) (.cons (.rse "ArgumentError" (.var 1)) .nil) .nil) .nil) }
def N_kids_of : List Str := ["node"]
def d_kids_of : Def := { hot := false, params := 1, dfl := [], slots := 1, body := (.cons (.ret (.ite (.cmp .eq (.idx (.var 0) (.con (.int 0))) (.con (.str "e"))) (.idx (.var 0) (.con (.int 2))) (.tup .nil))) .nil) }
def N_check_labels : List Str := ["labels", "own"]
def d_check_labels : Def := { hot := false, params := 1, dfl := [], slots := 2, body := (.cons (.ite (.or (.not (.inst (.var 0) .tuple)) (.or (.not (.chain .le .le (.con (.int 1)) (.bi .len (.cons (.var 0) .nil)) (.glo "MAX_LABELS" (.int 6)))) (.not (.bi .all (.cons (.ro (.comp (.call "is_name" (.cons (.var 1) .nil) []) (.nm 1) (.seq (.var 0)) .none [1])) .nil))))) (.cons (.rse "ArgumentError" (.con (.str "labels"))) .nil) .nil) (.cons (.ite (.cmp .lt (.bi .len (.cons (.dcomp false (.var 1) (.con (.bl true)) (.nm 1) (.seq (.var 0)) [1]) .nil)) (.bi .len (.cons (.var 0) .nil))) (.cons (.rse "ArgumentError" (.con (.str "labels"))) .nil) .nil) .nil)) }
def N_letter_in : List Str := ["labels", "node"]
def d_letter_in : Def := { hot := false, params := 2, dfl := [], slots := 2, body := (.cons (.ite (.cmp .eq (.idx (.var 1) (.con (.int 0))) (.con (.str "t"))) (.cons (.ret (.bin .add (.bi .len (.cons (.var 0) .nil)) (.con (.int 1)))) .nil) .nil) (.cons (.ret (.ite (.cmp .mem (.idx (.var 1) (.con (.int 1))) (.var 0)) (.ixo (.var 0) (.idx (.var 1) (.con (.int 1)))) (.bi .len (.cons (.var 0) .nil)))) .nil)) }
def N_is_number : List Str := ["value", "many"]
def d_is_number : Def := { hot := false, params := 2, dfl := [], slots := 2, body := (.cons (.ret (.and (.call "is_integer" (.cons (.var 0) .nil) []) (.chain .le .lt (.con (.int 0)) (.var 0) (.var 1)))) .nil) }
def N_are_numbers : List Str := ["value", "many", "own"]
def d_are_numbers : Def := { hot := false, params := 2, dfl := [], slots := 3, body := (.cons (.ret (.and (.inst (.var 0) .tuple) (.and (.cmp .eq (.bi .len (.cons (.var 0) .nil)) (.var 1)) (.bi .all (.cons (.ro (.comp (.call "is_number" (.cons (.var 2) (.cons (.var 1) .nil)) []) (.nm 2) (.seq (.var 0)) .none [2])) .nil))))) .nil) }
def N_is_row : List Str := ["value", "many", "is_text", "own"]
def d_is_row : Def := { hot := false, params := 3, dfl := [], slots := 4, body := (.cons (.ite (.var 2) (.cons (.ret (.call "are_numbers" (.cons (.var 0) (.cons (.var 1) .nil)) [])) .nil) .nil) (.cons (.ret (.and (.inst (.var 0) .tuple) (.and (.cmp .eq (.bi .len (.cons (.var 0) .nil)) (.var 1)) (.bi .all (.cons (.ro (.comp (.call "are_numbers" (.cons (.var 3) (.cons (.var 1) .nil)) []) (.nm 3) (.seq (.var 0)) .none [3])) .nil))))) .nil)) }
def N_is_machine : List Str := ["value", "letters", "marked", "many", "rows", "good", "at", "own", "one", "other"]
def d_is_machine : Def := { hot := false, params := 1, dfl := [], slots := 10, body := (.cons (.ite (.or (.not (.inst (.var 0) .tuple)) (.or (.cmp .ne (.bi .len (.cons (.var 0) .nil)) (.con (.int 5))) (.not (.inst (.idx (.var 0) (.con (.int 1))) .bool)))) (.cons (.ret (.con (.bl false))) .nil) .nil) (.cons (.asg (.tup (.cons (.nm 1) (.cons (.nm 2) (.cons (.nm 3) (.cons (.nm 4) (.cons (.nm 5) .nil)))))) (.var 0)) (.cons (.ite (.or (.not (.call "is_integer" (.cons (.var 1) .nil) [])) (.not (.chain .le .le (.con (.int 3)) (.var 1) (.bin .add (.glo "MAX_LABELS" (.int 6)) (.con (.int 2)))))) (.cons (.ret (.con (.bl false))) .nil) .nil) (.cons (.ite (.or (.not (.call "is_integer" (.cons (.var 3) .nil) [])) (.or (.not (.chain .le .le (.con (.int 1)) (.var 3) (.glo "MAX_STATES" (.int 48)))) (.not (.inst (.var 4) .tuple)))) (.cons (.ret (.con (.bl false))) .nil) .nil) (.cons (.ite (.cmp .ne (.bi .len (.cons (.var 4) .nil)) (.ite (.var 2) (.bin .mul (.con (.int 2)) (.var 1)) (.var 1))) (.cons (.ret (.con (.bl false))) .nil) .nil) (.cons (.ite (.not (.bi .all (.cons (.ro (.comp (.call "is_row" (.cons (.var 7) (.cons (.var 3) (.cons (.cmp .eq (.bin .mod (.var 6) (.var 1)) (.bin .sub (.var 1) (.con (.int 1)))) .nil))) []) (.tup (.cons (.nm 6) (.cons (.nm 7) .nil))) (.enm (.var 4)) .none [6, 7])) .nil))) (.cons (.ret (.con (.bl false))) .nil) .nil) (.cons (.ite (.or (.not (.inst (.var 5) .tuple)) (.not (.bi .all (.cons (.ro (.comp (.call "is_number" (.cons (.var 7) (.cons (.var 3) .nil)) []) (.nm 7) (.seq (.var 5)) .none [7])) .nil)))) (.cons (.ret (.con (.bl false))) .nil) .nil) (.cons (.ret (.not (.ro (.comp (.con (.int 1)) (.tup (.cons (.nm 8) (.cons (.nm 9) .nil))) (.zip (.var 5) (.slc (.var 5) (.some (.con (.int 1))) .none)) (.some (.cmp .ge (.var 8) (.var 9))) [8, 9])))) .nil)))))))) }
def N_check_machine : List Str := ["machine", "reason"]
def d_check_machine : Def := { hot := false, params := 2, dfl := [(.str "machine")], slots := 2, body := (.cons (.ite (.not (.call "is_machine" (.cons (.var 0) .nil) [])) (.cons (.rse "ArgumentError" (.var 1)) .nil) .nil) .nil) }
def N_check_for : List Str := ["machine", "labels"]
def d_check_for : Def := { hot := false, params := 2, dfl := [], slots := 2, body := (.cons (.expr (.call "check_labels" (.cons (.var 1) .nil) [])) (.cons (.ite (.or (.not (.call "is_machine" (.cons (.var 0) .nil) [])) (.cmp .ne (.idx (.var 0) (.con (.int 0))) (.bin .add (.bi .len (.cons (.var 1) .nil)) (.con (.int 2))))) (.cons (.rse "ArgumentError" (.con (.str "machine"))) .nil) .nil) .nil)) }
def N_moved : List Str := ["machine", "letter", "kids", "rest", "row"]
def d_moved : Def := { hot := false, params := 4, dfl := [], slots := 5, body := (.cons (.asg (.nm 4) (.idx (.idx (.var 0) (.con (.int 3))) (.var 1))) (.cons (.ret (.ite (.cmp .eq (.bin .mod (.var 1) (.idx (.var 0) (.con (.int 0)))) (.bin .sub (.idx (.var 0) (.con (.int 0))) (.con (.int 1)))) (.idx (.var 4) (.var 3)) (.idx (.idx (.var 4) (.var 2)) (.var 3)))) .nil)) }
def l_wrong_at_1 : Sts := (.cons (.expr (.app (.var 4) (.var 5))) (.cons (.aug 5 .add (.bin .add (.con (.int 1)) (.call "size_in" (.cons (.call "kids_of" (.cons (.var 6) .nil) []) .nil) []))) .nil))
def l_wrong_at_2 : Sts := (.cons (.par [6, 9] (.cons (.idx (.var 2) (.var 8)) (.cons (.idx (.var 4) (.var 8)) .nil))) (.cons (.asg (.nm 10) (.call "size_in" (.cons (.call "kids_of" (.cons (.var 6) .nil) []) .nil) [])) (.cons (.asg (.tup (.cons (.nm 11) (.cons (.nm 12) .nil))) (.call "wrong_at" (.cons (.var 0) (.cons (.var 1) (.cons (.call "kids_of" (.cons (.var 6) .nil) []) (.cons (.slc (.var 3) (.some (.bin .add (.var 9) (.con (.int 1)))) (.some (.bin .add (.bin .add (.var 9) (.con (.int 1))) (.var 10)))) .nil)))) [])) (.cons (.ite (.or (.var 12) (.cmp .ne (.idx (.var 3) (.var 9)) (.call "moved" (.cons (.var 0) (.cons (.call "letter_in" (.cons (.var 1) (.cons (.var 6) .nil)) []) (.cons (.var 11) (.cons (.var 7) .nil)))) []))) (.cons (.ret (.tup (.cons (.var 7) (.cons (.con (.bl true)) .nil)))) .nil) .nil) (.cons (.asg (.nm 7) (.idx (.var 3) (.var 9))) .nil)))))
def N_wrong_at : List Str := ["machine", "labels", "hedge", "run", "begins", "at", "own", "rest", "number", "begin", "many", "inside", "wrong"]
def d_wrong_at : Def := { hot := false, params := 4, dfl := [], slots := 13, body := (.cons (.par [4, 5] (.cons (.mk (.disp .nil)) (.cons (.con (.int 0)) .nil))) (.cons (.fo (.nm 6) (.seq (.var 2)) l_wrong_at_1) (.cons (.asg (.nm 7) (.con (.int 0))) (.cons (.fo (.nm 8) (.rngD (.bin .sub (.bi .len (.cons (.var 2) .nil)) (.con (.int 1))) (.neg (.con (.int 1)))) l_wrong_at_2) (.cons (.ret (.tup (.cons (.var 7) (.cons (.con (.bl false)) .nil)))) .nil))))) }
def N_accept_run : List Str := ["machine", "labels", "hedge", "run", "own", "state", "wrong"]
def d_accept_run : Def := { hot := false, params := 4, dfl := [], slots := 7, body := (.cons (.expr (.call "check_for" (.cons (.var 0) (.cons (.var 1) .nil)) [])) (.cons (.expr (.call "check_hedge" (.cons (.var 2) .nil) [(.str "hedge")])) (.cons (.ite (.or (.not (.inst (.var 3) .tuple)) (.or (.cmp .ne (.bi .len (.cons (.var 3) .nil)) (.call "size_in" (.cons (.var 2) .nil) [])) (.not (.bi .all (.cons (.ro (.comp (.call "is_number" (.cons (.var 4) (.cons (.idx (.var 0) (.con (.int 2))) .nil)) []) (.nm 4) (.seq (.var 3)) .none [4])) .nil))))) (.cons (.rse "PaperError" (.con (.str "form"))) .nil) .nil) (.cons (.asg (.tup (.cons (.nm 5) (.cons (.nm 6) .nil))) (.call "wrong_at" (.cons (.var 0) (.cons (.var 1) (.cons (.var 2) (.cons (.var 3) .nil)))) [])) (.cons (.ite (.var 6) (.cons (.rse "PaperError" (.con (.str "row"))) .nil) .nil) (.cons (.ite (.cmp .nmem (.var 5) (.idx (.var 0) (.con (.int 4)))) (.cons (.rse "PaperError" (.con (.str "good"))) .nil) .nil) .nil)))))) }
def N_check_two : List Str := ["one", "other"]
def d_check_two : Def := { hot := false, params := 2, dfl := [], slots := 2, body := (.cons (.expr (.call "check_machine" (.cons (.var 0) (.cons (.con (.str "one")) .nil)) [])) (.cons (.expr (.call "check_machine" (.cons (.var 1) (.cons (.con (.str "other")) .nil)) [])) (.cons (.ite (.cmp .ne (.slc (.var 0) .none (.some (.con (.int 2)))) (.slc (.var 1) .none (.some (.con (.int 2))))) (.cons (.rse "ArgumentError" (.con (.str "other"))) .nil) .nil) .nil))) }
def N_lifted_in : List Str := ["machine"]
def d_lifted_in : Def := { hot := false, params := 1, dfl := [], slots := 1, body := (.cons (.ret (.bin .add (.bin .add (.tup (.cons (.idx (.var 0) (.con (.int 0))) (.cons (.con (.bl true)) .nil))) (.slc (.var 0) (.some (.con (.int 2))) (.some (.con (.int 3))))) (.tup (.cons (.bin .add (.idx (.var 0) (.con (.int 3))) (.idx (.var 0) (.con (.int 3)))) (.cons (.idx (.var 0) (.con (.int 4))) .nil))))) .nil) }
def N_lifted : List Str := ["machine"]
def d_lifted : Def := { hot := false, params := 1, dfl := [], slots := 1, body := (.cons (.expr (.call "check_machine" (.cons (.var 0) .nil) [(.str "machine")])) (.cons (.ite (.idx (.var 0) (.con (.int 1))) (.cons (.rse "ArgumentError" (.con (.str "machine"))) .nil) .nil) (.cons (.ret (.call "lifted_in" (.cons (.var 0) .nil) [])) .nil))) }
def N_is_rising : List Str := ["value", "one", "other"]
def d_is_rising : Def := { hot := false, params := 1, dfl := [], slots := 3, body := (.cons (.ret (.not (.ro (.comp (.con (.int 1)) (.tup (.cons (.nm 1) (.cons (.nm 2) .nil))) (.zip (.var 0) (.slc (.var 0) (.some (.con (.int 1))) .none)) (.some (.cmp .ge (.var 1) (.var 2))) [1, 2])))) .nil) }
def l_accept_closed_2 : Sts := (.cons (.ite (.ro (.comp (.con (.int 1)) (.nm 6) (.seq (.var 1)) (.some (.cmp .nmem (.call "moved" (.cons (.var 0) (.cons (.var 4) (.cons (.var 5) (.cons (.var 6) .nil)))) []) (.var 3))) [6])) (.cons (.rse "PaperError" (.con (.str "row"))) .nil) .nil) .nil)
def l_accept_closed_1 : Sts := (.cons (.fo (.nm 5) (.seq (.var 1)) l_accept_closed_2) .nil)
def N_accept_closed : List Str := ["machine", "closed", "own", "known", "letter", "kids", "rest"]
def d_accept_closed : Def := { hot := false, params := 2, dfl := [], slots := 7, body := (.cons (.expr (.call "check_machine" (.cons (.var 0) .nil) [(.str "machine")])) (.cons (.ite (.or (.not (.inst (.var 1) .tuple)) (.not (.bi .all (.cons (.ro (.comp (.call "is_number" (.cons (.var 2) (.cons (.idx (.var 0) (.con (.int 2))) .nil)) []) (.nm 2) (.seq (.var 1)) .none [2])) .nil)))) (.cons (.rse "PaperError" (.con (.str "form"))) .nil) .nil) (.cons (.ite (.not (.call "is_rising" (.cons (.var 1) .nil) [])) (.cons (.rse "PaperError" (.con (.str "form"))) .nil) .nil) (.cons (.asg (.nm 3) (.dcomp false (.var 2) (.con (.bl true)) (.nm 2) (.seq (.var 1)) [2])) (.cons (.ite (.cmp .nmem (.con (.int 0)) (.var 3)) (.cons (.rse "PaperError" (.con (.str "begin"))) .nil) .nil) (.cons (.fo (.nm 4) (.rng1 (.bi .len (.cons (.idx (.var 0) (.con (.int 3))) .nil))) l_accept_closed_1) (.cons (.ite (.ro (.comp (.con (.int 1)) (.nm 2) (.seq (.idx (.var 0) (.con (.int 4)))) (.some (.cmp .mem (.var 2) (.var 3))) [2])) (.cons (.rse "PaperError" (.con (.str "good"))) .nil) .nil) .nil))))))) }
def N_is_pair : List Str := ["value", "one", "other"]
def d_is_pair : Def := { hot := false, params := 3, dfl := [], slots := 3, body := (.cons (.ite (.or (.not (.inst (.var 0) .tuple)) (.cmp .ne (.bi .len (.cons (.var 0) .nil)) (.con (.int 2)))) (.cons (.ret (.con (.bl false))) .nil) .nil) (.cons (.ret (.and (.call "is_number" (.cons (.idx (.var 0) (.con (.int 0))) (.cons (.idx (.var 1) (.con (.int 2))) .nil)) []) (.call "is_number" (.cons (.idx (.var 0) (.con (.int 1))) (.cons (.idx (.var 2) (.con (.int 2))) .nil)) []))) .nil)) }
def l_accept_pairs_2 : Sts := (.cons (.ite (.ro (.comp (.con (.int 1)) (.nm 9) (.seq (.var 3)) (.some (.cmp .nmem (.meth (.var 6) "step" (.cons (.var 7) (.cons (.var 8) (.cons (.var 9) .nil)))) (.var 5))) [9])) (.cons (.rse "PaperError" (.con (.str "row"))) .nil) .nil) .nil)
def l_accept_pairs_1 : Sts := (.cons (.fo (.nm 8) (.seq (.var 3)) l_accept_pairs_2) .nil)
def N_accept_pairs : List Str := ["one", "other", "word", "pairs", "own", "known", "maker", "letter", "kids", "rest"]
def d_accept_pairs : Def := { hot := false, params := 4, dfl := [], slots := 10, body := (.cons (.expr (.call "check_two" (.cons (.var 0) (.cons (.var 1) .nil)) [])) (.cons (.ite (.or (.not (.inst (.var 2) .str)) (.cmp .nmem (.var 2) (.tup (.cons (.con (.str "less")) (.cons (.con (.str "odd")) (.cons (.con (.str "both")) .nil)))))) (.cons (.rse "ArgumentError" (.con (.str "word"))) .nil) .nil) (.cons (.ite (.or (.not (.inst (.var 3) .tuple)) (.or (.cmp .gt (.bi .len (.cons (.var 3) .nil)) (.glo "MAX_STATES" (.int 48))) (.not (.bi .all (.cons (.ro (.comp (.call "is_pair" (.cons (.var 4) (.cons (.var 0) (.cons (.var 1) .nil))) []) (.nm 4) (.seq (.var 3)) .none [4])) .nil))))) (.cons (.rse "PaperError" (.con (.str "form"))) .nil) .nil) (.cons (.ite (.not (.call "is_rising" (.cons (.var 3) .nil) [])) (.cons (.rse "PaperError" (.con (.str "form"))) .nil) .nil) (.cons (.ite (.cmp .nmem (.tup (.cons (.con (.int 0)) (.cons (.con (.int 0)) .nil))) (.var 3)) (.cons (.rse "PaperError" (.con (.str "begin"))) .nil) .nil) (.cons (.asg (.nm 5) (.dcomp true (.var 4) (.con (.bl true)) (.nm 4) (.seq (.var 3)) [4])) (.cons (.asg (.nm 6) (.make "Two" (.cons (.var 0) (.cons (.var 1) (.cons (.var 2) .nil))))) (.cons (.fo (.nm 7) (.rng1 (.bi .len (.cons (.idx (.var 0) (.con (.int 3))) .nil))) l_accept_pairs_1) (.cons (.ite (.ro (.comp (.con (.int 1)) (.nm 4) (.seq (.var 3)) (.some (.meth (.var 6) "is_good" (.cons (.var 4) .nil))) [4])) (.cons (.rse "PaperError" (.con (.str "good"))) .nil) .nil) .nil))))))))) }
def l__law_start_1 : Sts := (.cons (.asg (.nm 1) (.bin .add (.bin .mod (.bi .int (.cons (.bin .add (.bin .mul (.var 1) (.con (.int 48271))) (.var 2)) .nil)) (.con (.int 2147483629))) (.con (.int 1)))) .nil)
def N__law_start : List Str := ["script", "seed", "cell"]
def d__law_start : Def := { hot := false, params := 1, dfl := [], slots := 3, body := (.cons (.asg (.nm 1) (.con (.int 7))) (.cons (.fo (.nm 2) (.seq (.var 0)) l__law_start_1) (.cons (.ret (.mk (.disp (.cons (.ro (.lst (.var 0))) (.cons (.con (.int 0)) (.cons (.con (.int 0)) (.cons (.var 1) .nil))))))) .nil))) }
def N__law_draw : List Str := ["state", "many", "taken"]
def d__law_draw : Def := { hot := false, params := 2, dfl := [], slots := 3, body := (.cons (.ite (.and (.cmp .eq (.idx (.var 0) (.con (.int 1))) (.con (.int 0))) (.cmp .ge (.idx (.var 0) (.con (.int 2))) (.bi .len (.cons (.idx (.var 0) (.con (.int 0))) .nil)))) (.cons (.asg (.sub (.var 0) (.con (.int 3))) (.bin .mod (.bi .int (.cons (.bin .add (.bin .mul (.idx (.var 0) (.con (.int 3))) (.con (.int 48271))) (.con (.int 69621))) .nil)) (.con (.int 2147483629)))) (.cons (.ret (.bin .mod (.bi .int (.cons (.bin .fdiv (.idx (.var 0) (.con (.int 3))) (.con (.int 13))) .nil)) (.var 1))) .nil)) .nil) (.cons (.ite (.cmp .eq (.idx (.var 0) (.con (.int 1))) (.con (.int 0))) (.cons (.asg (.sub (.var 0) (.con (.int 1))) (.bi .abs (.cons (.idx (.idx (.var 0) (.con (.int 0))) (.idx (.var 0) (.con (.int 2)))) .nil))) (.cons (.asg (.sub (.var 0) (.con (.int 2))) (.bin .add (.idx (.var 0) (.con (.int 2))) (.con (.int 1)))) .nil)) .nil) (.cons (.asg (.nm 2) (.bin .mod (.bi .int (.cons (.idx (.var 0) (.con (.int 1))) .nil)) (.var 1))) (.cons (.asg (.sub (.var 0) (.con (.int 1))) (.bin .fdiv (.idx (.var 0) (.con (.int 1))) (.var 1))) (.cons (.ret (.var 2)) .nil))))) }
def N__law_pick : List Str := ["state", "some"]
def d__law_pick : Def := { hot := false, params := 2, dfl := [], slots := 2, body := (.cons (.ret (.idx (.var 1) (.call "_law_draw" (.cons (.var 0) (.cons (.bi .len (.cons (.var 1) .nil)) .nil)) []))) .nil) }
def N__law_word : List Str := ["error", "kinds"]
def d__law_word : Def := { hot := true, params := 1, dfl := [], slots := 2, body := (.cons (.ite (.instE (.var 0) "TextError") (.cons (.ret (.bin .add (.con (.str "text ")) (.str1 (.xfld (.var 0) "at")))) .nil) .nil) (.cons (.asg (.nm 1) (.ro (.disp (.cons (.instE (.var 0) "SchemaError") (.cons (.instE (.var 0) "ArgumentError") (.cons (.instE (.var 0) "PaperError") (.cons (.instE (.var 0) "TooMany") .nil))))))) (.cons (.ite (.or (.not (.instE (.var 0) "TreeError")) (.cmp .ne (.cntB (.var 1) true) (.con (.int 1)))) (.cons (.ret (.con (.str "other"))) .nil) .nil) (.cons (.ret (.bin .add (.idx (.ro (.disp (.cons (.con (.str "schema ")) (.cons (.con (.str "argument ")) (.cons (.con (.str "paper ")) (.cons (.con (.str "many ")) .nil)))))) (.ixB (.var 1) true)) (.str1 (.xfld (.var 0) "reason")))) .nil)))) }
def N__law_asked : List Str := ["way", "some", "error"]
def d__law_asked : Def := { hot := false, params := 2, dfl := [], slots := 3, body := (.cons (.try_ (.cons (.ite (.cmp .lt (.bi .len (.cons (.var 1) .nil)) (.con (.int 3))) (.cons (.ret (.ite (.cmp .eq (.bi .len (.cons (.var 1) .nil)) (.con (.int 1))) (.ro (.disp (.cons (.callV (.var 0) (.cons (.idx (.var 1) (.con (.int 0))) .nil)) .nil))) (.ro (.disp (.cons (.callV (.var 0) (.cons (.idx (.var 1) (.con (.int 0))) (.cons (.idx (.var 1) (.con (.int 1))) .nil))) .nil))))) .nil) .nil) (.cons (.ite (.cmp .lt (.bi .len (.cons (.var 1) .nil)) (.con (.int 5))) (.cons (.ret (.ite (.cmp .eq (.bi .len (.cons (.var 1) .nil)) (.con (.int 3))) (.ro (.disp (.cons (.callV (.var 0) (.cons (.idx (.var 1) (.con (.int 0))) (.cons (.idx (.var 1) (.con (.int 1))) (.cons (.idx (.var 1) (.con (.int 2))) .nil)))) .nil))) (.ro (.disp (.cons (.callV (.var 0) (.cons (.idx (.var 1) (.con (.int 0))) (.cons (.idx (.var 1) (.con (.int 1))) (.cons (.idx (.var 1) (.con (.int 2))) (.cons (.idx (.var 1) (.con (.int 3))) .nil))))) .nil))))) .nil) .nil) (.cons (.ite (.cmp .lt (.bi .len (.cons (.var 1) .nil)) (.con (.int 7))) (.cons (.ret (.ite (.cmp .eq (.bi .len (.cons (.var 1) .nil)) (.con (.int 5))) (.ro (.disp (.cons (.callV (.var 0) (.cons (.idx (.var 1) (.con (.int 0))) (.cons (.idx (.var 1) (.con (.int 1))) (.cons (.idx (.var 1) (.con (.int 2))) (.cons (.idx (.var 1) (.con (.int 3))) (.cons (.idx (.var 1) (.con (.int 4))) .nil)))))) .nil))) (.ro (.disp (.cons (.callV (.var 0) (.cons (.idx (.var 1) (.con (.int 0))) (.cons (.idx (.var 1) (.con (.int 1))) (.cons (.idx (.var 1) (.con (.int 2))) (.cons (.idx (.var 1) (.con (.int 3))) (.cons (.idx (.var 1) (.con (.int 4))) (.cons (.idx (.var 1) (.con (.int 5))) .nil))))))) .nil))))) .nil) .nil) (.cons (.ret (.ro (.disp (.cons (.callV (.var 0) (.cons (.idx (.var 1) (.con (.int 0))) (.cons (.idx (.var 1) (.con (.int 1))) (.cons (.idx (.var 1) (.con (.int 2))) (.cons (.idx (.var 1) (.con (.int 3))) (.cons (.idx (.var 1) (.con (.int 4))) (.cons (.idx (.var 1) (.con (.int 5))) (.cons (.idx (.var 1) (.con (.int 6))) .nil)))))))) .nil)))) .nil)))) "TreeError" "_law_word" 2) .nil) }
def l__law_machine_1 : Sts := (.cons (.ite (.cmp .eq (.bin .sub (.var 6) (.bin .mul (.bin .fdiv (.var 6) (.var 1)) (.var 1))) (.bin .sub (.var 1) (.con (.int 1)))) (.cons (.expr (.app (.var 5) (.bi .tuple (.cons (.ro (.comp (.call "_law_draw" (.cons (.var 0) (.cons (.var 4) .nil)) []) (.nm 7) (.rng1 (.var 4)) .none [7])) .nil)))) .nil) (.cons (.expr (.app (.var 5) (.bi .tuple (.cons (.ro (.comp (.bi .tuple (.cons (.ro (.comp (.call "_law_draw" (.cons (.var 0) (.cons (.var 4) .nil)) []) (.nm 7) (.rng1 (.var 4)) .none [7])) .nil)) (.nm 8) (.rng1 (.var 4)) .none [8])) .nil)))) .nil)) .nil)
def N__law_machine : List Str := ["state", "letters", "marked", "most_in", "many", "rows", "at", "k", "j", "good", "own"]
def d__law_machine : Def := { hot := false, params := 4, dfl := [], slots := 11, body := (.cons (.asg (.tup (.cons (.nm 4) (.cons (.nm 5) .nil))) (.tup (.cons (.bin .add (.con (.int 1)) (.call "_law_draw" (.cons (.var 0) (.cons (.var 3) .nil)) [])) (.cons (.mk (.disp .nil)) .nil)))) (.cons (.fo (.nm 6) (.rng1 (.ite (.var 2) (.bin .mul (.con (.int 2)) (.var 1)) (.var 1))) l__law_machine_1) (.cons (.asg (.nm 9) (.bi .tuple (.cons (.ro (.comp (.var 10) (.nm 10) (.rng1 (.var 4)) (.some (.cmp .eq (.call "_law_draw" (.cons (.var 0) (.cons (.con (.int 2)) .nil)) []) (.con (.int 0)))) [10])) .nil))) (.cons (.ret (.tup (.cons (.var 1) (.cons (.var 2) (.cons (.var 4) (.cons (.bi .tuple (.cons (.var 5) .nil)) (.cons (.var 9) .nil))))))) .nil)))) }
def l__law_hedge_1 : Sts := (.cons (.asg (.nm 4) (.call "_law_pick" (.cons (.var 0) (.cons (.ro (.disp (.cons (.con (.str "a")) (.cons (.con (.str "a")) (.cons (.con (.str "b")) (.cons (.con (.str "b")) (.cons (.con (.str "q")) (.cons (.con (.str "text")) (.cons (.con (.str "else")) .nil))))))))) .nil)) [])) (.cons (.asg (.nm 1) (.bin .sub (.var 1) (.con (.int 1)))) (.cons (.ite (.cmp .eq (.var 4) (.con (.str "text"))) (.cons (.asg (.nm 3) (.bin .add (.var 3) (.tup (.cons (.tup (.cons (.con (.str "t")) (.cons (.call "_law_pick" (.cons (.var 0) (.cons (.ro (.disp (.cons (.con (.str "")) (.cons (.con (.str "a b")) .nil)))) .nil)) []) .nil))) .nil)))) .nil) (.cons (.asg (.nm 5) (.call "_law_hedge" (.cons (.var 0) (.cons (.ite (.cmp .gt (.var 2) (.con (.int 0))) (.bin .fdiv (.var 1) (.con (.int 2))) (.con (.int 0))) (.cons (.bin .sub (.var 2) (.con (.int 1))) .nil))) [])) (.cons (.asg (.nm 1) (.bin .sub (.var 1) (.call "_law_size" (.cons (.var 5) .nil) []))) (.cons (.asg (.nm 3) (.bin .add (.var 3) (.tup (.cons (.tup (.cons (.con (.str "e")) (.cons (.var 4) (.cons (.var 5) .nil)))) .nil)))) .nil)))) .nil)))
def N__law_hedge : List Str := ["state", "many", "deep", "found", "own", "kids"]
def d__law_hedge : Def := { hot := false, params := 3, dfl := [], slots := 6, body := (.cons (.asg (.nm 3) (.tup .nil)) (.cons (.wh (.and (.cmp .gt (.var 1) (.con (.int 0))) (.cmp .gt (.call "_law_draw" (.cons (.var 0) (.cons (.con (.int 4)) .nil)) []) (.con (.int 0)))) l__law_hedge_1) (.cons (.ret (.var 3)) .nil))) }
def N__law_size : List Str := ["hedge", "own"]
def d__law_size : Def := { hot := false, params := 1, dfl := [], slots := 2, body := (.cons (.ret (.bi .sum (.cons (.ro (.comp (.bin .add (.con (.int 1)) (.ite (.cmp .eq (.idx (.var 1) (.con (.int 0))) (.con (.str "e"))) (.call "_law_size" (.cons (.idx (.var 1) (.con (.int 2))) .nil) []) (.con (.int 0)))) (.nm 1) (.seq (.var 0)) .none [1])) .nil))) .nil) }
def N__law_some_machine : List Str := ["state", "letters", "machine", "own"]
def d__law_some_machine : Def := { hot := false, params := 2, dfl := [], slots := 4, body := (.cons (.asg (.nm 2) (.ite (.cmp .eq (.call "_law_draw" (.cons (.var 0) (.cons (.con (.int 3)) .nil)) []) (.con (.int 0))) (.call "lifted" (.cons (.call "_law_machine" (.cons (.var 0) (.cons (.var 1) (.cons (.con (.bl false)) (.cons (.con (.int 4)) .nil)))) []) .nil) []) (.call "_law_machine" (.cons (.var 0) (.cons (.var 1) (.cons (.con (.bl true)) (.cons (.con (.int 4)) .nil)))) []))) (.cons (.ite (.cmp .eq (.call "_law_draw" (.cons (.var 0) (.cons (.con (.int 2)) .nil)) []) (.con (.int 0))) (.cons (.asg (.nm 2) (.bin .add (.slc (.var 2) .none (.some (.con (.int 4)))) (.tup (.cons (.bi .tuple (.cons (.ro (.comp (.var 3) (.nm 3) (.seq (.idx (.var 2) (.con (.int 4)))) (.some (.cmp .nmem (.var 3) (.call "_law_reached" (.cons (.var 2) .nil) []))) [3])) .nil)) .nil)))) .nil) .nil) (.cons (.ret (.var 2)) .nil))) }
def N__law_moved : List Str := ["machine", "letter", "kids", "rest", "row"]
def d__law_moved : Def := { hot := false, params := 4, dfl := [], slots := 5, body := (.cons (.asg (.nm 4) (.idx (.idx (.var 0) (.con (.int 3))) (.var 1))) (.cons (.ret (.ite (.cmp .eq (.bin .sub (.var 1) (.bin .mul (.bin .fdiv (.var 1) (.idx (.var 0) (.con (.int 0)))) (.idx (.var 0) (.con (.int 0))))) (.bin .sub (.idx (.var 0) (.con (.int 0))) (.con (.int 1)))) (.idx (.var 4) (.var 3)) (.idx (.idx (.var 4) (.var 2)) (.var 3)))) .nil)) }
def l__law_reached_3 : Sts := (.cons (.expr (.ext (.var 3) (.ro (.comp (.call "_law_moved" (.cons (.var 0) (.cons (.var 4) (.cons (.var 5) (.cons (.var 6) .nil)))) []) (.nm 6) (.seq (.var 1)) .none [6])))) .nil)
def l__law_reached_2 : Sts := (.cons (.fo (.nm 5) (.seq (.var 1)) l__law_reached_3) .nil)
def l__law_reached_1 : Sts := (.cons (.asg (.nm 3) (.mk (.disp .nil))) (.cons (.fo (.nm 4) (.rng1 (.bi .len (.cons (.idx (.var 0) (.con (.int 3))) .nil))) l__law_reached_2) (.cons (.asg (.nm 1) (.ro (.srs (.bin .add (.var 1) (.var 3))))) .nil)))
def N__law_reached : List Str := ["machine", "found", "turn", "more", "letter", "kids", "rest"]
def d__law_reached : Def := { hot := false, params := 1, dfl := [], slots := 7, body := (.cons (.asg (.nm 1) (.ro (.disp (.cons (.con (.int 0)) .nil)))) (.cons (.fo (.nm 2) (.rng1 (.idx (.var 0) (.con (.int 2)))) l__law_reached_1) (.cons (.ret (.var 1)) .nil))) }
def N__law_is_state : List Str := ["value", "many"]
def d__law_is_state : Def := { hot := false, params := 2, dfl := [], slots := 2, body := (.cons (.ret (.and (.inst (.var 0) .int) (.and (.not (.inst (.var 0) .bool)) (.chain .le .lt (.con (.int 0)) (.var 0) (.var 1))))) .nil) }
def l__law_closed_due_2 : Sts := (.cons (.ite (.ro (.comp (.var 6) (.nm 6) (.seq (.var 1)) (.some (.cmp .nmem (.call "_law_moved" (.cons (.var 0) (.cons (.var 4) (.cons (.var 5) (.cons (.var 6) .nil)))) []) (.var 1))) [6])) (.cons (.ret (.con (.str "paper row"))) .nil) .nil) .nil)
def l__law_closed_due_1 : Sts := (.cons (.fo (.nm 5) (.seq (.var 1)) l__law_closed_due_2) .nil)
def N__law_closed_due : List Str := ["machine", "value", "own", "k", "letter", "kids", "rest"]
def d__law_closed_due : Def := { hot := false, params := 2, dfl := [], slots := 7, body := (.cons (.ite (.or (.not (.inst (.var 1) .tuple)) (.ro (.comp (.var 2) (.nm 2) (.seq (.var 1)) (.some (.not (.call "_law_is_state" (.cons (.var 2) (.cons (.idx (.var 0) (.con (.int 2))) .nil)) []))) [2]))) (.cons (.ret (.con (.str "paper form"))) .nil) .nil) (.cons (.ite (.ro (.comp (.var 3) (.nm 3) (.rng2 (.con (.int 1)) (.bi .len (.cons (.var 1) .nil))) (.some (.cmp .ge (.idx (.var 1) (.bin .sub (.var 3) (.con (.int 1)))) (.idx (.var 1) (.var 3)))) [3])) (.cons (.ret (.con (.str "paper form"))) .nil) .nil) (.cons (.ite (.cmp .nmem (.con (.int 0)) (.var 1)) (.cons (.ret (.con (.str "paper begin"))) .nil) .nil) (.cons (.fo (.nm 4) (.rng1 (.bi .len (.cons (.idx (.var 0) (.con (.int 3))) .nil))) l__law_closed_due_1) (.cons (.ret (.ite (.ro (.comp (.var 2) (.nm 2) (.seq (.var 1)) (.some (.cmp .mem (.var 2) (.idx (.var 0) (.con (.int 4))))) [2])) (.con (.str "paper good")) (.con .non))) .nil))))) }
def N__law_is_pair : List Str := ["value", "one", "other"]
def d__law_is_pair : Def := { hot := false, params := 3, dfl := [], slots := 3, body := (.cons (.ret (.and (.inst (.var 0) .tuple) (.and (.cmp .eq (.bi .len (.cons (.var 0) .nil)) (.con (.int 2))) (.and (.call "_law_is_state" (.cons (.idx (.var 0) (.con (.int 0))) (.cons (.idx (.var 1) (.con (.int 2))) .nil)) []) (.call "_law_is_state" (.cons (.idx (.var 0) (.con (.int 1))) (.cons (.idx (.var 2) (.con (.int 2))) .nil)) []))))) .nil) }
def N__law_both_moved : List Str := ["one", "other", "letter", "kids", "rest"]
def d__law_both_moved : Def := { hot := false, params := 5, dfl := [], slots := 5, body := (.cons (.ret (.ktup (.cons (.call "_law_moved" (.cons (.var 0) (.cons (.var 2) (.cons (.idx (.var 3) (.con (.int 0))) (.cons (.idx (.var 4) (.con (.int 0))) .nil)))) []) (.cons (.call "_law_moved" (.cons (.var 1) (.cons (.var 2) (.cons (.idx (.var 3) (.con (.int 1))) (.cons (.idx (.var 4) (.con (.int 1))) .nil)))) []) .nil)))) .nil) }
def l__law_pairs_due_2 : Sts := (.cons (.ite (.ro (.comp (.var 8) (.nm 8) (.seq (.var 3)) (.some (.cmp .nmem (.call "_law_both_moved" (.cons (.var 0) (.cons (.var 1) (.cons (.var 6) (.cons (.var 7) (.cons (.var 8) .nil))))) []) (.var 3))) [8])) (.cons (.ret (.con (.str "paper row"))) .nil) .nil) .nil)
def l__law_pairs_due_1 : Sts := (.cons (.fo (.nm 7) (.seq (.var 3)) l__law_pairs_due_2) .nil)
def l__law_pairs_due_3 : Sts := (.cons (.ite (.idx (.ddisp ["less", "odd", "both"] (.cons (.and (.var 9) (.not (.var 10))) (.cons (.cmp .ne (.var 9) (.var 10)) (.cons (.and (.var 9) (.var 10)) .nil)))) (.var 2)) (.cons (.ret (.con (.str "paper good"))) .nil) .nil) .nil)
def N__law_pairs_due : List Str := ["one", "other", "word", "value", "own", "k", "letter", "kids", "rest", "here", "there"]
def d__law_pairs_due : Def := { hot := false, params := 4, dfl := [], slots := 11, body := (.cons (.ite (.or (.not (.inst (.var 3) .tuple)) (.or (.cmp .gt (.bi .len (.cons (.var 3) .nil)) (.con (.int 48))) (.ro (.comp (.var 4) (.nm 4) (.seq (.var 3)) (.some (.not (.call "_law_is_pair" (.cons (.var 4) (.cons (.var 0) (.cons (.var 1) .nil))) []))) [4])))) (.cons (.ret (.con (.str "paper form"))) .nil) .nil) (.cons (.ite (.ro (.comp (.var 5) (.nm 5) (.rng2 (.con (.int 1)) (.bi .len (.cons (.var 3) .nil))) (.some (.cmp .ge (.idx (.var 3) (.bin .sub (.var 5) (.con (.int 1)))) (.idx (.var 3) (.var 5)))) [5])) (.cons (.ret (.con (.str "paper form"))) .nil) .nil) (.cons (.ite (.cmp .nmem (.tup (.cons (.con (.int 0)) (.cons (.con (.int 0)) .nil))) (.var 3)) (.cons (.ret (.con (.str "paper begin"))) .nil) .nil) (.cons (.fo (.nm 6) (.rng1 (.bi .len (.cons (.idx (.var 0) (.con (.int 3))) .nil))) l__law_pairs_due_1) (.cons (.fo (.tup (.cons (.nm 9) (.cons (.nm 10) .nil))) (.seq (.ro (.comp (.tup (.cons (.cmp .mem (.idx (.var 4) (.con (.int 0))) (.idx (.var 0) (.con (.int 4)))) (.cons (.cmp .mem (.idx (.var 4) (.con (.int 1))) (.idx (.var 1) (.con (.int 4)))) .nil))) (.nm 4) (.seq (.var 3)) .none [4]))) l__law_pairs_due_3) (.cons (.ret (.con .non)) .nil)))))) }
def l__law_pairs_reached_3 : Sts := (.cons (.expr (.ext (.var 4) (.ro (.comp (.call "_law_both_moved" (.cons (.var 0) (.cons (.var 1) (.cons (.var 5) (.cons (.var 6) (.cons (.var 7) .nil))))) []) (.nm 7) (.seq (.var 2)) .none [7])))) .nil)
def l__law_pairs_reached_2 : Sts := (.cons (.fo (.nm 6) (.seq (.var 2)) l__law_pairs_reached_3) .nil)
def l__law_pairs_reached_1 : Sts := (.cons (.asg (.nm 4) (.mk (.disp .nil))) (.cons (.fo (.nm 5) (.rng1 (.bi .len (.cons (.idx (.var 0) (.con (.int 3))) .nil))) l__law_pairs_reached_2) (.cons (.asg (.nm 8) (.ro (.srs (.bin .add (.var 2) (.var 4))))) (.cons (.ite (.cmp .eq (.var 8) (.var 2)) (.cons .brk .nil) .nil) (.cons (.asg (.nm 2) (.var 8)) .nil)))))
def N__law_pairs_reached : List Str := ["one", "other", "found", "turn", "more", "letter", "kids", "rest", "longer"]
def d__law_pairs_reached : Def := { hot := false, params := 2, dfl := [], slots := 9, body := (.cons (.asg (.nm 2) (.ro (.disp (.cons (.ktup (.cons (.con (.int 0)) (.cons (.con (.int 0)) .nil))) .nil)))) (.cons (.fo (.nm 3) (.rng1 (.bin .mul (.idx (.var 0) (.con (.int 2))) (.idx (.var 1) (.con (.int 2))))) l__law_pairs_reached_1) (.cons (.ret (.var 2)) .nil))) }
def N__law_spoilt : List Str := ["state", "value", "more", "at", "last", "rows"]
def d__law_spoilt : Def := { hot := false, params := 3, dfl := [], slots := 6, body := (.cons (.par [3, 4] (.cons (.call "_law_draw" (.cons (.var 0) (.cons (.bi .len (.cons (.var 1) .nil)) .nil)) []) (.cons (.idx (.var 1) (.neg (.con (.int 1)))) .nil))) (.cons (.asg (.nm 5) (.ro (.disp (.cons (.var 1) (.cons (.var 1) (.cons (.bin .add (.slc (.var 1) .none (.some (.var 3))) (.slc (.var 1) (.some (.bin .add (.var 3) (.con (.int 1)))) .none)) (.cons (.slc (.var 1) (.some (.con (.int 1))) .none) (.cons (.rev (.var 1)) (.cons (.bin .add (.var 1) (.tup (.cons (.var 4) .nil))) (.cons (.bin .add (.slc (.var 1) .none (.some (.neg (.con (.int 1))))) (.tup (.cons (.var 2) .nil))) (.cons (.bi .tuple (.cons (.ro (.srs (.bin .add (.var 1) (.tup (.cons (.var 2) .nil))))) .nil)) (.cons (.bin .add (.var 1) (.tup (.cons (.con .non) .nil))) (.cons (.ro (.lst (.var 1))) (.cons (.con .non) .nil)))))))))))))) (.cons (.ret (.call "_law_pick" (.cons (.var 0) (.cons (.bin .add (.var 5) (.ro (.disp (.cons (.bin .add (.bin .add (.slc (.var 1) .none (.some (.var 3))) (.tup (.cons (.con (.bl true)) .nil))) (.slc (.var 1) (.some (.bin .add (.var 3) (.con (.int 1)))) .none)) (.cons (.tup .nil) (.cons (.slc (.var 1) .none (.some (.con (.int 1)))) .nil)))))) .nil)) [])) .nil))) }
def N__law_heard : List Str := ["told"]
def d__law_heard : Def := { hot := false, params := 1, dfl := [], slots := 1, body := (.cons (.ret (.ite (.inst (.var 0) .str) (.var 0) (.idx (.var 0) (.con (.int 0))))) .nil) }
def l__law_states_hold_1 : Sts := (.cons (.asg (.nm 4) (.call "_law_spoilt" (.cons (.var 0) (.cons (.var 2) (.cons (.call "_law_draw" (.cons (.var 0) (.cons (.idx (.var 1) (.con (.int 2))) .nil)) []) .nil))) [])) (.cons (.ite (.cmp .ne (.call "_law_heard" (.cons (.call "_law_asked" (.cons (.glo "accept_closed" (.fn "accept_closed")) (.cons (.ro (.disp (.cons (.var 1) (.cons (.var 4) .nil)))) .nil)) []) .nil) []) (.call "_law_closed_due" (.cons (.var 1) (.cons (.var 4) .nil)) [])) (.cons (.ret (.con (.bl false))) .nil) .nil) .nil))
def N__law_states_hold : List Str := ["state", "machine", "whole", "turn", "paper"]
def d__law_states_hold : Def := { hot := false, params := 1, dfl := [], slots := 5, body := (.cons (.asg (.nm 1) (.call "_law_some_machine" (.cons (.var 0) (.cons (.bin .add (.con (.int 3)) (.call "_law_draw" (.cons (.var 0) (.cons (.con (.int 2)) .nil)) [])) .nil)) [])) (.cons (.asg (.nm 2) (.bi .tuple (.cons (.call "_law_reached" (.cons (.var 1) .nil) []) .nil))) (.cons (.fo (.nm 3) (.rng1 (.con (.int 6))) l__law_states_hold_1) (.cons (.ret (.con (.bl true))) .nil)))) }
def l__law_pairs_hold_1 : Sts := (.cons (.asg (.nm 8) (.call "_law_spoilt" (.cons (.var 0) (.cons (.var 4) (.cons (.ktup (.cons (.call "_law_draw" (.cons (.var 0) (.cons (.idx (.var 2) (.con (.int 2))) .nil)) []) (.cons (.call "_law_draw" (.cons (.var 0) (.cons (.idx (.var 3) (.con (.int 2))) .nil)) []) .nil))) .nil))) [])) (.cons (.ite (.cmp .ne (.call "_law_heard" (.cons (.call "_law_asked" (.cons (.glo "accept_pairs" (.fn "accept_pairs")) (.cons (.ro (.disp (.cons (.var 2) (.cons (.var 3) (.cons (.var 5) (.cons (.var 8) .nil)))))) .nil)) []) .nil) []) (.call "_law_pairs_due" (.cons (.var 2) (.cons (.var 3) (.cons (.var 5) (.cons (.var 8) .nil)))) [])) (.cons (.ret (.con (.bl false))) .nil) .nil) .nil))
def N__law_pairs_hold : List Str := ["state", "letters", "one", "other", "whole", "word", "own", "turn", "paper", "plain", "rows", "some", "due"]
def d__law_pairs_hold : Def := { hot := false, params := 1, dfl := [], slots := 13, body := (.cons (.asg (.nm 1) (.bin .add (.con (.int 3)) (.call "_law_draw" (.cons (.var 0) (.cons (.con (.int 2)) .nil)) []))) (.cons (.par [2, 3] (.cons (.call "_law_some_machine" (.cons (.var 0) (.cons (.var 1) .nil)) []) (.cons (.call "_law_some_machine" (.cons (.var 0) (.cons (.var 1) .nil)) []) .nil))) (.cons (.par [4, 5] (.cons (.bi .tuple (.cons (.call "_law_pairs_reached" (.cons (.var 2) (.cons (.var 3) .nil)) []) .nil)) (.cons (.call "_law_pick" (.cons (.var 0) (.cons (.ro (.disp (.cons (.con (.str "less")) (.cons (.con (.str "odd")) (.cons (.con (.str "both")) .nil))))) .nil)) []) .nil))) (.cons (.ite (.cmp .eq (.call "_law_draw" (.cons (.var 0) (.cons (.con (.int 3)) .nil)) []) (.con (.int 0))) (.cons (.par [3, 4] (.cons (.var 2) (.cons (.bi .tuple (.cons (.ro (.comp (.ktup (.cons (.var 6) (.cons (.var 6) .nil))) (.nm 6) (.seq (.call "_law_reached" (.cons (.var 2) .nil) [])) .none [6])) .nil)) .nil))) .nil) .nil) (.cons (.fo (.nm 7) (.rng1 (.con (.int 6))) l__law_pairs_hold_1) (.cons (.asg (.nm 9) (.call "_law_machine" (.cons (.var 0) (.cons (.var 1) (.cons (.con (.bl false)) (.cons (.con (.int 3)) .nil)))) [])) (.cons (.asg (.nm 10) (.ro (.disp (.cons (.tup (.cons (.ro (.disp (.cons (.var 2) (.cons (.var 9) (.cons (.var 5) (.cons (.con .non) .nil)))))) (.cons (.con (.str "argument other")) .nil))) (.cons (.tup (.cons (.ro (.disp (.cons (.var 9) (.cons (.var 2) (.cons (.con (.str "far")) (.cons (.con .non) .nil)))))) (.cons (.con (.str "argument other")) .nil))) (.cons (.tup (.cons (.ro (.disp (.cons (.var 2) (.cons (.call "_law_machine" (.cons (.var 0) (.cons (.bin .add (.var 1) (.con (.int 1))) (.cons (.con (.bl true)) (.cons (.con (.int 2)) .nil)))) []) (.cons (.var 5) (.cons (.var 4) .nil)))))) (.cons (.con (.str "argument other")) .nil))) .nil)))))) (.cons (.asg (.nm 10) (.bin .add (.var 10) (.ro (.disp (.cons (.tup (.cons (.ro (.disp (.cons (.var 2) (.cons (.var 3) (.cons (.con (.str "far")) (.cons (.con .non) .nil)))))) (.cons (.con (.str "argument word")) .nil))) (.cons (.tup (.cons (.ro (.disp (.cons (.var 2) (.cons (.var 3) (.cons (.con .non) (.cons (.var 4) .nil)))))) (.cons (.con (.str "argument word")) .nil))) (.cons (.tup (.cons (.ro (.disp (.cons (.con .non) (.cons (.var 2) (.cons (.var 5) (.cons (.var 4) .nil)))))) (.cons (.con (.str "argument one")) .nil))) (.cons (.tup (.cons (.ro (.disp (.cons (.var 2) (.cons (.var 3) (.cons (.var 5) (.cons (.con (.int 5)) .nil)))))) (.cons (.con (.str "paper form")) .nil))) .nil)))))))) (.cons (.ret (.cmp .eq (.ro (.comp (.var 11) (.tup (.cons (.nm 11) (.cons (.nm 12) .nil))) (.seq (.var 10)) (.some (.cmp .ne (.call "_law_asked" (.cons (.glo "accept_pairs" (.fn "accept_pairs")) (.cons (.var 11) .nil)) []) (.var 12))) [11, 12])) (.ro (.disp .nil)))) .nil))))))))) }
def N__law_run : List Str := ["machine", "labels", "row", "own", "rest", "kids", "letter", "here"]
def d__law_run : Def := { hot := false, params := 3, dfl := [], slots := 8, body := (.cons (.ite (.cmp .eq (.var 2) (.tup .nil)) (.cons (.ret (.tup (.cons (.con (.int 0)) (.cons (.tup .nil) .nil)))) .nil) .nil) (.cons (.par [3, 4] (.cons (.idx (.var 2) (.con (.int 0))) (.cons (.call "_law_run" (.cons (.var 0) (.cons (.var 1) (.cons (.slc (.var 2) (.some (.con (.int 1))) .none) .nil))) []) .nil))) (.cons (.asg (.nm 5) (.call "_law_run" (.cons (.var 0) (.cons (.var 1) (.cons (.ite (.cmp .eq (.idx (.var 3) (.con (.int 0))) (.con (.str "e"))) (.idx (.var 3) (.con (.int 2))) (.tup .nil)) .nil))) [])) (.cons (.asg (.nm 6) (.ite (.cmp .eq (.idx (.var 3) (.con (.int 0))) (.con (.str "t"))) (.bin .add (.bi .len (.cons (.var 1) .nil)) (.con (.int 1))) (.ite (.cmp .mem (.idx (.var 3) (.con (.int 1))) (.var 1)) (.ixo (.var 1) (.idx (.var 3) (.con (.int 1)))) (.bi .len (.cons (.var 1) .nil))))) (.cons (.asg (.nm 7) (.call "_law_moved" (.cons (.var 0) (.cons (.var 6) (.cons (.idx (.var 5) (.con (.int 0))) (.cons (.idx (.var 4) (.con (.int 0))) .nil)))) [])) (.cons (.ret (.tup (.cons (.var 7) (.cons (.bin .add (.bin .add (.tup (.cons (.var 7) .nil)) (.idx (.var 5) (.con (.int 1)))) (.idx (.var 4) (.con (.int 1)))) .nil)))) .nil)))))) }
def l__law_run_due_1 : Sts := (.cons (.expr (.app (.var 5) (.var 4))) (.cons (.asg (.nm 4) (.bin .add (.var 4) (.call "_law_size" (.cons (.tup (.cons (.var 6) .nil)) .nil) []))) .nil))
def l__law_run_due_2 : Sts := (.cons (.par [6, 8] (.cons (.idx (.var 2) (.var 7)) (.cons (.idx (.var 5) (.var 7)) .nil))) (.cons (.asg (.nm 9) (.ite (.cmp .eq (.idx (.var 6) (.con (.int 0))) (.con (.str "e"))) (.idx (.var 6) (.con (.int 2))) (.tup .nil))) (.cons (.asg (.nm 10) (.ite (.cmp .eq (.idx (.var 6) (.con (.int 0))) (.con (.str "t"))) (.bin .add (.bi .len (.cons (.var 1) .nil)) (.con (.int 1))) (.ite (.cmp .mem (.idx (.var 6) (.con (.int 1))) (.var 1)) (.ixo (.var 1) (.idx (.var 6) (.con (.int 1)))) (.bi .len (.cons (.var 1) .nil))))) (.cons (.asg (.nm 11) (.slc (.var 3) (.some (.bin .add (.var 8) (.con (.int 1)))) (.some (.bin .add (.bin .add (.var 8) (.con (.int 1))) (.call "_law_size" (.cons (.var 9) .nil) []))))) (.cons (.asg (.nm 12) (.ite (.cmp .lt (.bin .add (.var 7) (.con (.int 1))) (.bi .len (.cons (.var 2) .nil))) (.idx (.var 3) (.idx (.var 5) (.bin .add (.var 7) (.con (.int 1))))) (.con (.int 0)))) (.cons (.ite (.or (.cmp .ne (.idx (.var 3) (.var 8)) (.call "_law_moved" (.cons (.var 0) (.cons (.var 10) (.cons (.ite (.var 9) (.idx (.var 11) (.con (.int 0))) (.con (.int 0))) (.cons (.var 12) .nil)))) [])) (.not (.call "_law_run_due" (.cons (.var 0) (.cons (.var 1) (.cons (.var 9) (.cons (.var 11) .nil)))) []))) (.cons (.ret (.con (.bl false))) .nil) .nil) .nil))))))
def N__law_run_due : List Str := ["machine", "labels", "row", "run", "at", "firsts", "own", "k", "here", "kids", "letter", "inner", "rest"]
def d__law_run_due : Def := { hot := false, params := 4, dfl := [], slots := 13, body := (.cons (.par [4, 5] (.cons (.con (.int 0)) (.cons (.mk (.disp .nil)) .nil))) (.cons (.fo (.nm 6) (.seq (.var 2)) l__law_run_due_1) (.cons (.fo (.nm 7) (.rng1 (.bi .len (.cons (.var 2) .nil))) l__law_run_due_2) (.cons (.ret (.con (.bl true))) .nil)))) }
def l__law_runs_hold_1 : Sts := (.cons (.asg (.nm 7) (.var 5)) (.cons (.ite (.and (.var 5) (.cmp .gt (.call "_law_draw" (.cons (.var 0) (.cons (.con (.int 3)) .nil)) []) (.con (.int 0)))) (.cons (.asg (.nm 8) (.call "_law_draw" (.cons (.var 0) (.cons (.bi .len (.cons (.var 5) .nil)) .nil)) [])) (.cons (.asg (.nm 7) (.call "_law_pick" (.cons (.var 0) (.cons (.ro (.disp (.cons (.bin .add (.bin .add (.slc (.var 5) .none (.some (.var 8))) (.tup (.cons (.call "_law_draw" (.cons (.var 0) (.cons (.idx (.var 2) (.con (.int 2))) .nil)) []) .nil))) (.slc (.var 5) (.some (.bin .add (.var 8) (.con (.int 1)))) .none)) (.cons (.slc (.var 5) .none (.some (.neg (.con (.int 1))))) (.cons (.bin .add (.var 5) (.tup (.cons (.con (.int 0)) .nil))) (.cons (.bin .add (.bin .add (.slc (.var 5) .none (.some (.var 8))) (.tup (.cons (.idx (.var 2) (.con (.int 2))) .nil))) (.slc (.var 5) (.some (.bin .add (.var 8) (.con (.int 1)))) .none)) (.cons (.ro (.lst (.var 5))) (.cons (.con .non) .nil)))))))) .nil)) [])) .nil)) .nil) (.cons (.asg (.nm 9) (.con .non)) (.cons (.ite (.or (.not (.inst (.var 7) .tuple)) (.or (.cmp .ne (.bi .len (.cons (.var 7) .nil)) (.call "_law_size" (.cons (.var 3) .nil) [])) (.ro (.comp (.var 10) (.nm 10) (.seq (.var 7)) (.some (.not (.call "_law_is_state" (.cons (.var 10) (.cons (.idx (.var 2) (.con (.int 2))) .nil)) []))) [10])))) (.cons (.asg (.nm 9) (.con (.str "paper form"))) .nil) (.cons (.ite (.not (.call "_law_run_due" (.cons (.var 2) (.cons (.var 1) (.cons (.var 3) (.cons (.var 7) .nil)))) [])) (.cons (.asg (.nm 9) (.con (.str "paper row"))) .nil) (.cons (.ite (.cmp .nmem (.ite (.var 7) (.idx (.var 7) (.con (.int 0))) (.con (.int 0))) (.idx (.var 2) (.con (.int 4)))) (.cons (.asg (.nm 9) (.con (.str "paper good"))) .nil) .nil) .nil)) .nil)) (.cons (.ite (.cmp .ne (.call "_law_heard" (.cons (.call "_law_asked" (.cons (.glo "accept_run" (.fn "accept_run")) (.cons (.ro (.disp (.cons (.var 2) (.cons (.var 1) (.cons (.var 3) (.cons (.var 7) .nil)))))) .nil)) []) .nil) []) (.var 9)) (.cons (.ret (.con (.bl false))) .nil) .nil) .nil)))))
def N__law_runs_hold : List Str := ["state", "labels", "machine", "hedge", "here", "right", "turn", "run", "at", "due", "own"]
def d__law_runs_hold : Def := { hot := false, params := 1, dfl := [], slots := 11, body := (.cons (.asg (.nm 1) (.slc (.tup (.cons (.con (.str "a")) (.cons (.con (.str "b")) .nil))) .none (.some (.bin .add (.con (.int 1)) (.call "_law_draw" (.cons (.var 0) (.cons (.con (.int 2)) .nil)) []))))) (.cons (.asg (.tup (.cons (.nm 2) (.cons (.nm 3) .nil))) (.tup (.cons (.call "_law_some_machine" (.cons (.var 0) (.cons (.bin .add (.bi .len (.cons (.var 1) .nil)) (.con (.int 2))) .nil)) []) (.cons (.call "_law_hedge" (.cons (.var 0) (.cons (.con (.int 9)) (.cons (.con (.int 3)) .nil))) []) .nil)))) (.cons (.asg (.tup (.cons (.nm 4) (.cons (.nm 5) .nil))) (.call "_law_run" (.cons (.var 2) (.cons (.var 1) (.cons (.var 3) .nil))) [])) (.cons (.fo (.nm 6) (.rng1 (.con (.int 5))) l__law_runs_hold_1) (.cons (.ret (.con (.bl true))) .nil))))) }
def l_law_1 : Sts := (.cons (.ite (.or (.not (.call "_law_states_hold" (.cons (.var 1) .nil) [])) (.or (.not (.call "_law_pairs_hold" (.cons (.var 1) .nil) [])) (.not (.call "_law_runs_hold" (.cons (.var 1) .nil) [])))) (.cons (.ret (.con (.bl false))) .nil) .nil) .nil)
def N_law : List Str := ["script", "state", "turn"]
def d_law : Def := { hot := false, params := 1, dfl := [], slots := 3, body := (.cons (.asg (.nm 1) (.callK "_law_start" (.cons (.var 0) .nil) [])) (.cons (.fo (.nm 2) (.rng1 (.con (.int 2))) l_law_1) (.cons (.ret (.con (.bl true))) .nil))) }
def N_Two___init__ : List Str := ["self", "one", "other", "word"]
def d_Two___init__ : Def := { hot := false, params := 4, dfl := [], slots := 4, body := (.cons (.asg (.tup (.cons (.fld (.var 0) "letters") (.cons (.fld (.var 0) "marked") .nil))) (.slc (.var 1) .none (.some (.con (.int 2))))) (.cons (.asg (.tup (.cons (.fld (.var 0) "one") (.cons (.fld (.var 0) "other") .nil))) (.tup (.cons (.var 1) (.cons (.var 2) .nil)))) (.cons (.asg (.fld (.var 0) "word") (.var 3)) .nil))) }
def N_Two_begin : List Str := ["self"]
def d_Two_begin : Def := { hot := false, params := 1, dfl := [], slots := 1, body := (.cons (.ret (.tup (.cons (.con (.int 0)) (.cons (.con (.int 0)) .nil)))) .nil) }
def N_Two_step : List Str := ["self", "letter", "kids", "rest"]
def d_Two_step : Def := { hot := false, params := 4, dfl := [], slots := 4, body := (.cons (.ret (.ktup (.cons (.call "moved" (.cons (.fld (.var 0) "one") (.cons (.var 1) (.cons (.idx (.var 2) (.con (.int 0))) (.cons (.idx (.var 3) (.con (.int 0))) .nil)))) []) (.cons (.call "moved" (.cons (.fld (.var 0) "other") (.cons (.var 1) (.cons (.idx (.var 2) (.con (.int 1))) (.cons (.idx (.var 3) (.con (.int 1))) .nil)))) []) .nil)))) .nil) }
def N_Two_is_good : List Str := ["self", "value", "here", "there"]
def d_Two_is_good : Def := { hot := false, params := 2, dfl := [], slots := 4, body := (.cons (.par [2, 3] (.cons (.cmp .mem (.idx (.var 1) (.con (.int 0))) (.idx (.fld (.var 0) "one") (.con (.int 4)))) (.cons (.cmp .mem (.idx (.var 1) (.con (.int 1))) (.idx (.fld (.var 0) "other") (.con (.int 4)))) .nil))) (.cons (.ite (.cmp .eq (.fld (.var 0) "word") (.con (.str "both"))) (.cons (.ret (.and (.var 2) (.var 3))) .nil) .nil) (.cons (.ite (.cmp .eq (.fld (.var 0) "word") (.con (.str "either"))) (.cons (.ret (.or (.var 2) (.var 3))) .nil) .nil) (.cons (.ret (.ite (.cmp .eq (.fld (.var 0) "word") (.con (.str "less"))) (.and (.var 2) (.not (.var 3))) (.cmp .ne (.var 2) (.var 3)))) .nil)))) }
def prog : Prog where
  defs := [(("is_integer" : Str), d_is_integer), (("is_name" : Str), d_is_name), (("is_content" : Str), d_is_content), (("are_nodes" : Str), d_are_nodes), (("size_in" : Str), d_size_in), (("is_hedge" : Str), d_is_hedge), (("check_hedge" : Str), d_check_hedge), (("kids_of" : Str), d_kids_of), (("check_labels" : Str), d_check_labels), (("letter_in" : Str), d_letter_in), (("is_number" : Str), d_is_number), (("are_numbers" : Str), d_are_numbers), (("is_row" : Str), d_is_row), (("is_machine" : Str), d_is_machine), (("check_machine" : Str), d_check_machine), (("check_for" : Str), d_check_for), (("moved" : Str), d_moved), (("wrong_at" : Str), d_wrong_at), (("accept_run" : Str), d_accept_run), (("check_two" : Str), d_check_two), (("lifted_in" : Str), d_lifted_in), (("lifted" : Str), d_lifted), (("is_rising" : Str), d_is_rising), (("accept_closed" : Str), d_accept_closed), (("is_pair" : Str), d_is_pair), (("accept_pairs" : Str), d_accept_pairs), (("_law_start" : Str), d__law_start), (("_law_draw" : Str), d__law_draw), (("_law_pick" : Str), d__law_pick), (("_law_word" : Str), d__law_word), (("_law_asked" : Str), d__law_asked), (("_law_machine" : Str), d__law_machine), (("_law_hedge" : Str), d__law_hedge), (("_law_size" : Str), d__law_size), (("_law_some_machine" : Str), d__law_some_machine), (("_law_moved" : Str), d__law_moved), (("_law_reached" : Str), d__law_reached), (("_law_is_state" : Str), d__law_is_state), (("_law_closed_due" : Str), d__law_closed_due), (("_law_is_pair" : Str), d__law_is_pair), (("_law_both_moved" : Str), d__law_both_moved), (("_law_pairs_due" : Str), d__law_pairs_due), (("_law_pairs_reached" : Str), d__law_pairs_reached), (("_law_spoilt" : Str), d__law_spoilt), (("_law_heard" : Str), d__law_heard), (("_law_states_hold" : Str), d__law_states_hold), (("_law_pairs_hold" : Str), d__law_pairs_hold), (("_law_run" : Str), d__law_run), (("_law_run_due" : Str), d__law_run_due), (("_law_runs_hold" : Str), d__law_runs_hold), (("law" : Str), d_law)]
  meths := [((("Two" : Str), ("__init__" : Str)), d_Two___init__), ((("Two" : Str), ("begin" : Str)), d_Two_begin), ((("Two" : Str), ("step" : Str)), d_Two_step), ((("Two" : Str), ("is_good" : Str)), d_Two_is_good)]
  sub := [(("TreeError" : Str), ([] : List Str)), (("TextError" : Str), (["TreeError"] : List Str)), (("SchemaError" : Str), (["TreeError"] : List Str)), (("ArgumentError" : Str), (["TreeError"] : List Str)), (("PaperError" : Str), (["TreeError"] : List Str)), (("TooMany" : Str), (["TreeError"] : List Str))]
  attrs := [(("Two" : Str), (["word", "letters", "marked", "one", "other"] : List Str))]
  fld := [(("TextError" : Str), ("at" : Str)), (("SchemaError" : Str), ("reason" : Str)), (("ArgumentError" : Str), ("reason" : Str)), (("PaperError" : Str), ("reason" : Str)), (("TooMany" : Str), ("reason" : Str))]
  fuel := 100000
theorem lk_is_integer : prog.defs.lookup ("is_integer" : Str) = some d_is_integer := by kernel_rfl
theorem lk_is_name : prog.defs.lookup ("is_name" : Str) = some d_is_name := by kernel_rfl
theorem lk_is_content : prog.defs.lookup ("is_content" : Str) = some d_is_content := by kernel_rfl
theorem lk_are_nodes : prog.defs.lookup ("are_nodes" : Str) = some d_are_nodes := by kernel_rfl
theorem lk_size_in : prog.defs.lookup ("size_in" : Str) = some d_size_in := by kernel_rfl
theorem lk_is_hedge : prog.defs.lookup ("is_hedge" : Str) = some d_is_hedge := by kernel_rfl
theorem lk_check_hedge : prog.defs.lookup ("check_hedge" : Str) = some d_check_hedge := by kernel_rfl
theorem lk_kids_of : prog.defs.lookup ("kids_of" : Str) = some d_kids_of := by kernel_rfl
theorem lk_check_labels : prog.defs.lookup ("check_labels" : Str) = some d_check_labels := by kernel_rfl
theorem lk_letter_in : prog.defs.lookup ("letter_in" : Str) = some d_letter_in := by kernel_rfl
theorem lk_is_number : prog.defs.lookup ("is_number" : Str) = some d_is_number := by kernel_rfl
theorem lk_are_numbers : prog.defs.lookup ("are_numbers" : Str) = some d_are_numbers := by kernel_rfl
theorem lk_is_row : prog.defs.lookup ("is_row" : Str) = some d_is_row := by kernel_rfl
theorem lk_is_machine : prog.defs.lookup ("is_machine" : Str) = some d_is_machine := by kernel_rfl
theorem lk_check_machine : prog.defs.lookup ("check_machine" : Str) = some d_check_machine := by kernel_rfl
theorem lk_check_for : prog.defs.lookup ("check_for" : Str) = some d_check_for := by kernel_rfl
theorem lk_moved : prog.defs.lookup ("moved" : Str) = some d_moved := by kernel_rfl
theorem lk_wrong_at : prog.defs.lookup ("wrong_at" : Str) = some d_wrong_at := by kernel_rfl
theorem lk_accept_run : prog.defs.lookup ("accept_run" : Str) = some d_accept_run := by kernel_rfl
theorem lk_check_two : prog.defs.lookup ("check_two" : Str) = some d_check_two := by kernel_rfl
theorem lk_lifted_in : prog.defs.lookup ("lifted_in" : Str) = some d_lifted_in := by kernel_rfl
theorem lk_lifted : prog.defs.lookup ("lifted" : Str) = some d_lifted := by kernel_rfl
theorem lk_is_rising : prog.defs.lookup ("is_rising" : Str) = some d_is_rising := by kernel_rfl
theorem lk_accept_closed : prog.defs.lookup ("accept_closed" : Str) = some d_accept_closed := by kernel_rfl
theorem lk_is_pair : prog.defs.lookup ("is_pair" : Str) = some d_is_pair := by kernel_rfl
theorem lk_accept_pairs : prog.defs.lookup ("accept_pairs" : Str) = some d_accept_pairs := by kernel_rfl
theorem lk__law_start : prog.defs.lookup ("_law_start" : Str) = some d__law_start := by kernel_rfl
theorem lk__law_draw : prog.defs.lookup ("_law_draw" : Str) = some d__law_draw := by kernel_rfl
theorem lk__law_pick : prog.defs.lookup ("_law_pick" : Str) = some d__law_pick := by kernel_rfl
theorem lk__law_word : prog.defs.lookup ("_law_word" : Str) = some d__law_word := by kernel_rfl
theorem lk__law_asked : prog.defs.lookup ("_law_asked" : Str) = some d__law_asked := by kernel_rfl
theorem lk__law_machine : prog.defs.lookup ("_law_machine" : Str) = some d__law_machine := by kernel_rfl
theorem lk__law_hedge : prog.defs.lookup ("_law_hedge" : Str) = some d__law_hedge := by kernel_rfl
theorem lk__law_size : prog.defs.lookup ("_law_size" : Str) = some d__law_size := by kernel_rfl
theorem lk__law_some_machine : prog.defs.lookup ("_law_some_machine" : Str) = some d__law_some_machine := by kernel_rfl
theorem lk__law_moved : prog.defs.lookup ("_law_moved" : Str) = some d__law_moved := by kernel_rfl
theorem lk__law_reached : prog.defs.lookup ("_law_reached" : Str) = some d__law_reached := by kernel_rfl
theorem lk__law_is_state : prog.defs.lookup ("_law_is_state" : Str) = some d__law_is_state := by kernel_rfl
theorem lk__law_closed_due : prog.defs.lookup ("_law_closed_due" : Str) = some d__law_closed_due := by kernel_rfl
theorem lk__law_is_pair : prog.defs.lookup ("_law_is_pair" : Str) = some d__law_is_pair := by kernel_rfl
theorem lk__law_both_moved : prog.defs.lookup ("_law_both_moved" : Str) = some d__law_both_moved := by kernel_rfl
theorem lk__law_pairs_due : prog.defs.lookup ("_law_pairs_due" : Str) = some d__law_pairs_due := by kernel_rfl
theorem lk__law_pairs_reached : prog.defs.lookup ("_law_pairs_reached" : Str) = some d__law_pairs_reached := by kernel_rfl
theorem lk__law_spoilt : prog.defs.lookup ("_law_spoilt" : Str) = some d__law_spoilt := by kernel_rfl
theorem lk__law_heard : prog.defs.lookup ("_law_heard" : Str) = some d__law_heard := by kernel_rfl
theorem lk__law_states_hold : prog.defs.lookup ("_law_states_hold" : Str) = some d__law_states_hold := by kernel_rfl
theorem lk__law_pairs_hold : prog.defs.lookup ("_law_pairs_hold" : Str) = some d__law_pairs_hold := by kernel_rfl
theorem lk__law_run : prog.defs.lookup ("_law_run" : Str) = some d__law_run := by kernel_rfl
theorem lk__law_run_due : prog.defs.lookup ("_law_run_due" : Str) = some d__law_run_due := by kernel_rfl
theorem lk__law_runs_hold : prog.defs.lookup ("_law_runs_hold" : Str) = some d__law_runs_hold := by kernel_rfl
theorem lk_law : prog.defs.lookup ("law" : Str) = some d_law := by kernel_rfl
theorem lm_Two___init__ : prog.meths.lookup (("Two" : Str), ("__init__" : Str)) = some d_Two___init__ := by kernel_rfl
theorem lm_Two_begin : prog.meths.lookup (("Two" : Str), ("begin" : Str)) = some d_Two_begin := by kernel_rfl
theorem lm_Two_step : prog.meths.lookup (("Two" : Str), ("step" : Str)) = some d_Two_step := by kernel_rfl
theorem lm_Two_is_good : prog.meths.lookup (("Two" : Str), ("is_good" : Str)) = some d_Two_is_good := by kernel_rfl
end Q74
end
section
set_option maxRecDepth 100000
set_option maxHeartbeats 0
set_option Elab.async false
set_option linter.all false
namespace Q74
open PySem Pz PyProof.Rows L2
def pt : Pt where
  P := prog
  G := [(("MAX_LABELS" : Str), ((.int 6) : PV)), (("MAX_STATES" : Str), ((.int 48) : PV)), (("MAX_NODES" : Str), ((.int 200) : PV)), (("MAX_DEPTH" : Str), ((.int 20) : PV)), (("MAX_WORD" : Str), ((.int 10) : PV)), (("MAX_SIGNS" : Str), ((.int 20) : PV)), (("LETTERS" : Str), ((.str "abcdefghijklmnopqrstuvwxyz") : PV)), (("is_integer" : Str), (.fn "is_integer" : PV)), (("is_name" : Str), (.fn "is_name" : PV)), (("is_content" : Str), (.fn "is_content" : PV)), (("are_nodes" : Str), (.fn "are_nodes" : PV)), (("size_in" : Str), (.fn "size_in" : PV)), (("is_hedge" : Str), (.fn "is_hedge" : PV)), (("check_hedge" : Str), (.fn "check_hedge" : PV)), (("kids_of" : Str), (.fn "kids_of" : PV)), (("check_labels" : Str), (.fn "check_labels" : PV)), (("letter_in" : Str), (.fn "letter_in" : PV)), (("is_number" : Str), (.fn "is_number" : PV)), (("are_numbers" : Str), (.fn "are_numbers" : PV)), (("is_row" : Str), (.fn "is_row" : PV)), (("is_machine" : Str), (.fn "is_machine" : PV)), (("check_machine" : Str), (.fn "check_machine" : PV)), (("check_for" : Str), (.fn "check_for" : PV)), (("moved" : Str), (.fn "moved" : PV)), (("wrong_at" : Str), (.fn "wrong_at" : PV)), (("accept_run" : Str), (.fn "accept_run" : PV)), (("check_two" : Str), (.fn "check_two" : PV)), (("lifted_in" : Str), (.fn "lifted_in" : PV)), (("lifted" : Str), (.fn "lifted" : PV)), (("is_rising" : Str), (.fn "is_rising" : PV)), (("accept_closed" : Str), (.fn "accept_closed" : PV)), (("is_pair" : Str), (.fn "is_pair" : PV)), (("accept_pairs" : Str), (.fn "accept_pairs" : PV)), (("_law_start" : Str), (.fn "_law_start" : PV)), (("_law_draw" : Str), (.fn "_law_draw" : PV)), (("_law_pick" : Str), (.fn "_law_pick" : PV)), (("_law_asked" : Str), (.fn "_law_asked" : PV)), (("_law_machine" : Str), (.fn "_law_machine" : PV)), (("_law_hedge" : Str), (.fn "_law_hedge" : PV)), (("_law_size" : Str), (.fn "_law_size" : PV)), (("_law_some_machine" : Str), (.fn "_law_some_machine" : PV)), (("_law_moved" : Str), (.fn "_law_moved" : PV)), (("_law_reached" : Str), (.fn "_law_reached" : PV)), (("_law_is_state" : Str), (.fn "_law_is_state" : PV)), (("_law_closed_due" : Str), (.fn "_law_closed_due" : PV)), (("_law_is_pair" : Str), (.fn "_law_is_pair" : PV)), (("_law_both_moved" : Str), (.fn "_law_both_moved" : PV)), (("_law_pairs_due" : Str), (.fn "_law_pairs_due" : PV)), (("_law_pairs_reached" : Str), (.fn "_law_pairs_reached" : PV)), (("_law_spoilt" : Str), (.fn "_law_spoilt" : PV)), (("_law_heard" : Str), (.fn "_law_heard" : PV)), (("_law_states_hold" : Str), (.fn "_law_states_hold" : PV)), (("_law_pairs_hold" : Str), (.fn "_law_pairs_hold" : PV)), (("_law_run" : Str), (.fn "_law_run" : PV)), (("_law_run_due" : Str), (.fn "_law_run_due" : PV)), (("_law_runs_hold" : Str), (.fn "_law_runs_hold" : PV)), (("law" : Str), (.fn "law" : PV))]
  C := ["TextError", "SchemaError", "ArgumentError", "PaperError", "TooMany", "TreeError"]
  T := ["TreeError"]
  H := ["_law_word"]
def top (i : Nat) : Stmt := PySem.Challenge.pw_treesforetold_k74_papers_at_marked_machi.main.body.getD i (.Pass ⟨0, 0, 0, 0⟩)
def inC (st : Stmt) (i : Nat) : Stmt := match st with
  | .ClassDef (body := b) .. => b.getD i (.Pass ⟨0, 0, 0, 0⟩)
  | _ => st
def e_TextError : ERow := ⟨"TextError", "at", "TextError.__init__", defArgs (inC (top 2) 0), defBody (inC (top 2) 0), defScope (inC (top 2) 0)⟩
theorem eo_TextError : e_TextError.Ok := ⟨⟨_, _, _, _, _, _, _, _, _, _, _, _, _, rfl, rfl, rfl, fun _ _ _ _ _ _ _ _ _ _ => .of_eq rfl, rfl⟩, by decide +kernel⟩
def e_SchemaError : ERow := ⟨"SchemaError", "reason", "SchemaError.__init__", defArgs (inC (top 3) 0), defBody (inC (top 3) 0), defScope (inC (top 3) 0)⟩
theorem eo_SchemaError : e_SchemaError.Ok := ⟨⟨_, _, _, _, _, _, _, _, _, _, _, _, _, rfl, rfl, rfl, fun _ _ _ _ _ _ _ _ _ _ => .of_eq rfl, rfl⟩, by decide +kernel⟩
def e_ArgumentError : ERow := ⟨"ArgumentError", "reason", "ArgumentError.__init__", defArgs (inC (top 4) 0), defBody (inC (top 4) 0), defScope (inC (top 4) 0)⟩
theorem eo_ArgumentError : e_ArgumentError.Ok := ⟨⟨_, _, _, _, _, _, _, _, _, _, _, _, _, rfl, rfl, rfl, fun _ _ _ _ _ _ _ _ _ _ => .of_eq rfl, rfl⟩, by decide +kernel⟩
def e_PaperError : ERow := ⟨"PaperError", "reason", "PaperError.__init__", defArgs (inC (top 5) 0), defBody (inC (top 5) 0), defScope (inC (top 5) 0)⟩
theorem eo_PaperError : e_PaperError.Ok := ⟨⟨_, _, _, _, _, _, _, _, _, _, _, _, _, rfl, rfl, rfl, fun _ _ _ _ _ _ _ _ _ _ => .of_eq rfl, rfl⟩, by decide +kernel⟩
def e_TooMany : ERow := ⟨"TooMany", "reason", "TooMany.__init__", defArgs (inC (top 6) 0), defBody (inC (top 6) 0), defScope (inC (top 6) 0)⟩
theorem eo_TooMany : e_TooMany.Ok := ⟨⟨_, _, _, _, _, _, _, _, _, _, _, _, _, rfl, rfl, rfl, fun _ _ _ _ _ _ _ _ _ _ => .of_eq rfl, rfl⟩, by decide +kernel⟩
def r_is_integer : HRow := ⟨("is_integer", none), "is_integer", top 14, N_is_integer, ["value"], d_is_integer⟩
theorem b_is_integer : HRow.Bind r_is_integer := HRow.bind0 rfl fun kV doc pm an cdv ct us hl => match us, hl with | [_], _ => rfl
def r_is_name : HRow := ⟨("is_name", none), "is_name", top 17, N_is_name, ["value"], d_is_name⟩
theorem b_is_name : HRow.Bind r_is_name := HRow.bind0 rfl fun kV doc pm an cdv ct us hl => match us, hl with | [_], _ => rfl
def r_is_content : HRow := ⟨("is_content", none), "is_content", top 18, N_is_content, ["value"], d_is_content⟩
theorem b_is_content : HRow.Bind r_is_content := HRow.bind0 rfl fun kV doc pm an cdv ct us hl => match us, hl with | [_], _ => rfl
def r_are_nodes : HRow := ⟨("are_nodes", none), "are_nodes", top 19, N_are_nodes, ["value", "depth"], d_are_nodes⟩
theorem b_are_nodes : HRow.Bind r_are_nodes := HRow.bind0 rfl fun kV doc pm an cdv ct us hl => match us, hl with | [_, _], _ => rfl
def r_size_in : HRow := ⟨("size_in", none), "size_in", top 20, N_size_in, ["hedge"], d_size_in⟩
theorem b_size_in : HRow.Bind r_size_in := HRow.bind0 rfl fun kV doc pm an cdv ct us hl => match us, hl with | [_], _ => rfl
def r_is_hedge : HRow := ⟨("is_hedge", none), "is_hedge", top 21, N_is_hedge, ["value"], d_is_hedge⟩
theorem b_is_hedge : HRow.Bind r_is_hedge := HRow.bind0 rfl fun kV doc pm an cdv ct us hl => match us, hl with | [_], _ => rfl
def r_check_hedge : HRow := ⟨("check_hedge", none), "check_hedge", top 22, N_check_hedge, ["value", "reason"], d_check_hedge⟩
theorem b_check_hedge : HRow.Bind r_check_hedge := HRow.bind1 (by simp [r_check_hedge, d_check_hedge]) fun j hj => match j, hj with
  | 0, _ => ⟨1, rfl, fun T kV doc pm an cdv ct us its h1 h2 => match us, its, h1, h2 with | [_], [_], _, _ => ⟨_, rfl, rfl⟩⟩
  | 1, _ => ⟨2, rfl, fun T kV doc pm an cdv ct us its h1 h2 => match us, its, h1, h2 with | [_, _], [_], _, _ => ⟨_, rfl, rfl⟩⟩
  | j + 2, hj => absurd hj (by simp [r_check_hedge, d_check_hedge])
def r_kids_of : HRow := ⟨("kids_of", none), "kids_of", top 23, N_kids_of, ["node"], d_kids_of⟩
theorem b_kids_of : HRow.Bind r_kids_of := HRow.bind0 rfl fun kV doc pm an cdv ct us hl => match us, hl with | [_], _ => rfl
def r_check_labels : HRow := ⟨("check_labels", none), "check_labels", top 24, N_check_labels, ["labels"], d_check_labels⟩
theorem b_check_labels : HRow.Bind r_check_labels := HRow.bind0 rfl fun kV doc pm an cdv ct us hl => match us, hl with | [_], _ => rfl
def r_letter_in : HRow := ⟨("letter_in", none), "letter_in", top 25, N_letter_in, ["labels", "node"], d_letter_in⟩
theorem b_letter_in : HRow.Bind r_letter_in := HRow.bind0 rfl fun kV doc pm an cdv ct us hl => match us, hl with | [_, _], _ => rfl
def r_is_number : HRow := ⟨("is_number", none), "is_number", top 27, N_is_number, ["value", "many"], d_is_number⟩
theorem b_is_number : HRow.Bind r_is_number := HRow.bind0 rfl fun kV doc pm an cdv ct us hl => match us, hl with | [_, _], _ => rfl
def r_are_numbers : HRow := ⟨("are_numbers", none), "are_numbers", top 28, N_are_numbers, ["value", "many"], d_are_numbers⟩
theorem b_are_numbers : HRow.Bind r_are_numbers := HRow.bind0 rfl fun kV doc pm an cdv ct us hl => match us, hl with | [_, _], _ => rfl
def r_is_row : HRow := ⟨("is_row", none), "is_row", top 29, N_is_row, ["value", "many", "is_text"], d_is_row⟩
theorem b_is_row : HRow.Bind r_is_row := HRow.bind0 rfl fun kV doc pm an cdv ct us hl => match us, hl with | [_, _, _], _ => rfl
def r_is_machine : HRow := ⟨("is_machine", none), "is_machine", top 30, N_is_machine, ["value"], d_is_machine⟩
theorem b_is_machine : HRow.Bind r_is_machine := HRow.bind0 rfl fun kV doc pm an cdv ct us hl => match us, hl with | [_], _ => rfl
def r_check_machine : HRow := ⟨("check_machine", none), "check_machine", top 31, N_check_machine, ["machine", "reason"], d_check_machine⟩
theorem b_check_machine : HRow.Bind r_check_machine := HRow.bind1 (by simp [r_check_machine, d_check_machine]) fun j hj => match j, hj with
  | 0, _ => ⟨1, rfl, fun T kV doc pm an cdv ct us its h1 h2 => match us, its, h1, h2 with | [_], [_], _, _ => ⟨_, rfl, rfl⟩⟩
  | 1, _ => ⟨2, rfl, fun T kV doc pm an cdv ct us its h1 h2 => match us, its, h1, h2 with | [_, _], [_], _, _ => ⟨_, rfl, rfl⟩⟩
  | j + 2, hj => absurd hj (by simp [r_check_machine, d_check_machine])
def r_check_for : HRow := ⟨("check_for", none), "check_for", top 32, N_check_for, ["machine", "labels"], d_check_for⟩
theorem b_check_for : HRow.Bind r_check_for := HRow.bind0 rfl fun kV doc pm an cdv ct us hl => match us, hl with | [_, _], _ => rfl
def r_moved : HRow := ⟨("moved", none), "moved", top 33, N_moved, ["machine", "letter", "kids", "rest"], d_moved⟩
theorem b_moved : HRow.Bind r_moved := HRow.bind0 rfl fun kV doc pm an cdv ct us hl => match us, hl with | [_, _, _, _], _ => rfl
def r_wrong_at : HRow := ⟨("wrong_at", none), "wrong_at", top 34, N_wrong_at, ["machine", "labels", "hedge", "run"], d_wrong_at⟩
theorem b_wrong_at : HRow.Bind r_wrong_at := HRow.bind0 rfl fun kV doc pm an cdv ct us hl => match us, hl with | [_, _, _, _], _ => rfl
def r_accept_run : HRow := ⟨("accept_run", none), "accept_run", top 35, N_accept_run, ["machine", "labels", "hedge", "run"], d_accept_run⟩
theorem b_accept_run : HRow.Bind r_accept_run := HRow.bind0 rfl fun kV doc pm an cdv ct us hl => match us, hl with | [_, _, _, _], _ => rfl
def r_Two___init__ : HRow := ⟨("Two", some "__init__"), "Two.__init__", inC (top 37) 0, N_Two___init__, ["self", "one", "other", "word"], d_Two___init__⟩
theorem b_Two___init__ : HRow.Bind r_Two___init__ := HRow.bind0 rfl fun kV doc pm an cdv ct us hl => match us, hl with | [_, _, _, _], _ => rfl
def r_Two_begin : HRow := ⟨("Two", some "begin"), "Two.begin", inC (top 37) 1, N_Two_begin, ["self"], d_Two_begin⟩
theorem b_Two_begin : HRow.Bind r_Two_begin := HRow.bind0 rfl fun kV doc pm an cdv ct us hl => match us, hl with | [_], _ => rfl
def r_Two_step : HRow := ⟨("Two", some "step"), "Two.step", inC (top 37) 2, N_Two_step, ["self", "letter", "kids", "rest"], d_Two_step⟩
theorem b_Two_step : HRow.Bind r_Two_step := HRow.bind0 rfl fun kV doc pm an cdv ct us hl => match us, hl with | [_, _, _, _], _ => rfl
def r_Two_is_good : HRow := ⟨("Two", some "is_good"), "Two.is_good", inC (top 37) 3, N_Two_is_good, ["self", "value"], d_Two_is_good⟩
theorem b_Two_is_good : HRow.Bind r_Two_is_good := HRow.bind0 rfl fun kV doc pm an cdv ct us hl => match us, hl with | [_, _], _ => rfl
def r_check_two : HRow := ⟨("check_two", none), "check_two", top 38, N_check_two, ["one", "other"], d_check_two⟩
theorem b_check_two : HRow.Bind r_check_two := HRow.bind0 rfl fun kV doc pm an cdv ct us hl => match us, hl with | [_, _], _ => rfl
def r_lifted_in : HRow := ⟨("lifted_in", none), "lifted_in", top 39, N_lifted_in, ["machine"], d_lifted_in⟩
theorem b_lifted_in : HRow.Bind r_lifted_in := HRow.bind0 rfl fun kV doc pm an cdv ct us hl => match us, hl with | [_], _ => rfl
def r_lifted : HRow := ⟨("lifted", none), "lifted", top 40, N_lifted, ["machine"], d_lifted⟩
theorem b_lifted : HRow.Bind r_lifted := HRow.bind0 rfl fun kV doc pm an cdv ct us hl => match us, hl with | [_], _ => rfl
def r_is_rising : HRow := ⟨("is_rising", none), "is_rising", top 42, N_is_rising, ["value"], d_is_rising⟩
theorem b_is_rising : HRow.Bind r_is_rising := HRow.bind0 rfl fun kV doc pm an cdv ct us hl => match us, hl with | [_], _ => rfl
def r_accept_closed : HRow := ⟨("accept_closed", none), "accept_closed", top 43, N_accept_closed, ["machine", "closed"], d_accept_closed⟩
theorem b_accept_closed : HRow.Bind r_accept_closed := HRow.bind0 rfl fun kV doc pm an cdv ct us hl => match us, hl with | [_, _], _ => rfl
def r_is_pair : HRow := ⟨("is_pair", none), "is_pair", top 44, N_is_pair, ["value", "one", "other"], d_is_pair⟩
theorem b_is_pair : HRow.Bind r_is_pair := HRow.bind0 rfl fun kV doc pm an cdv ct us hl => match us, hl with | [_, _, _], _ => rfl
def r_accept_pairs : HRow := ⟨("accept_pairs", none), "accept_pairs", top 45, N_accept_pairs, ["one", "other", "word", "pairs"], d_accept_pairs⟩
theorem b_accept_pairs : HRow.Bind r_accept_pairs := HRow.bind0 rfl fun kV doc pm an cdv ct us hl => match us, hl with | [_, _, _, _], _ => rfl
def r__law_start : HRow := ⟨("_law_start", none), "_law_start", top 47, N__law_start, ["script"], d__law_start⟩
theorem b__law_start : HRow.Bind r__law_start := HRow.bind0 rfl fun kV doc pm an cdv ct us hl => match us, hl with | [_], _ => rfl
def r__law_draw : HRow := ⟨("_law_draw", none), "_law_draw", top 48, N__law_draw, ["state", "many"], d__law_draw⟩
theorem b__law_draw : HRow.Bind r__law_draw := HRow.bind0 rfl fun kV doc pm an cdv ct us hl => match us, hl with | [_, _], _ => rfl
def r__law_pick : HRow := ⟨("_law_pick", none), "_law_pick", top 49, N__law_pick, ["state", "some"], d__law_pick⟩
theorem b__law_pick : HRow.Bind r__law_pick := HRow.bind0 rfl fun kV doc pm an cdv ct us hl => match us, hl with | [_, _], _ => rfl
def r__law_word : HRow := ⟨("_law_word", none), "_law_word", top 50, N__law_word, ["error"], d__law_word⟩
theorem b__law_word : HRow.Bind r__law_word := HRow.bind0 rfl fun kV doc pm an cdv ct us hl => match us, hl with | [_], _ => rfl
def r__law_asked : HRow := ⟨("_law_asked", none), "_law_asked", top 51, N__law_asked, ["way", "some"], d__law_asked⟩
theorem b__law_asked : HRow.Bind r__law_asked := HRow.bind0 rfl fun kV doc pm an cdv ct us hl => match us, hl with | [_, _], _ => rfl
def r__law_machine : HRow := ⟨("_law_machine", none), "_law_machine", top 52, N__law_machine, ["state", "letters", "marked", "most_in"], d__law_machine⟩
theorem b__law_machine : HRow.Bind r__law_machine := HRow.bind0 rfl fun kV doc pm an cdv ct us hl => match us, hl with | [_, _, _, _], _ => rfl
def r__law_hedge : HRow := ⟨("_law_hedge", none), "_law_hedge", top 53, N__law_hedge, ["state", "many", "deep"], d__law_hedge⟩
theorem b__law_hedge : HRow.Bind r__law_hedge := HRow.bind0 rfl fun kV doc pm an cdv ct us hl => match us, hl with | [_, _, _], _ => rfl
def r__law_size : HRow := ⟨("_law_size", none), "_law_size", top 54, N__law_size, ["hedge"], d__law_size⟩
theorem b__law_size : HRow.Bind r__law_size := HRow.bind0 rfl fun kV doc pm an cdv ct us hl => match us, hl with | [_], _ => rfl
def r__law_some_machine : HRow := ⟨("_law_some_machine", none), "_law_some_machine", top 55, N__law_some_machine, ["state", "letters"], d__law_some_machine⟩
theorem b__law_some_machine : HRow.Bind r__law_some_machine := HRow.bind0 rfl fun kV doc pm an cdv ct us hl => match us, hl with | [_, _], _ => rfl
def r__law_moved : HRow := ⟨("_law_moved", none), "_law_moved", top 56, N__law_moved, ["machine", "letter", "kids", "rest"], d__law_moved⟩
theorem b__law_moved : HRow.Bind r__law_moved := HRow.bind0 rfl fun kV doc pm an cdv ct us hl => match us, hl with | [_, _, _, _], _ => rfl
def r__law_reached : HRow := ⟨("_law_reached", none), "_law_reached", top 57, N__law_reached, ["machine"], d__law_reached⟩
theorem b__law_reached : HRow.Bind r__law_reached := HRow.bind0 rfl fun kV doc pm an cdv ct us hl => match us, hl with | [_], _ => rfl
def r__law_is_state : HRow := ⟨("_law_is_state", none), "_law_is_state", top 58, N__law_is_state, ["value", "many"], d__law_is_state⟩
theorem b__law_is_state : HRow.Bind r__law_is_state := HRow.bind0 rfl fun kV doc pm an cdv ct us hl => match us, hl with | [_, _], _ => rfl
def r__law_closed_due : HRow := ⟨("_law_closed_due", none), "_law_closed_due", top 59, N__law_closed_due, ["machine", "value"], d__law_closed_due⟩
theorem b__law_closed_due : HRow.Bind r__law_closed_due := HRow.bind0 rfl fun kV doc pm an cdv ct us hl => match us, hl with | [_, _], _ => rfl
def r__law_is_pair : HRow := ⟨("_law_is_pair", none), "_law_is_pair", top 60, N__law_is_pair, ["value", "one", "other"], d__law_is_pair⟩
theorem b__law_is_pair : HRow.Bind r__law_is_pair := HRow.bind0 rfl fun kV doc pm an cdv ct us hl => match us, hl with | [_, _, _], _ => rfl
def r__law_both_moved : HRow := ⟨("_law_both_moved", none), "_law_both_moved", top 61, N__law_both_moved, ["one", "other", "letter", "kids", "rest"], d__law_both_moved⟩
theorem b__law_both_moved : HRow.Bind r__law_both_moved := HRow.bind0 rfl fun kV doc pm an cdv ct us hl => match us, hl with | [_, _, _, _, _], _ => rfl
def r__law_pairs_due : HRow := ⟨("_law_pairs_due", none), "_law_pairs_due", top 62, N__law_pairs_due, ["one", "other", "word", "value"], d__law_pairs_due⟩
theorem b__law_pairs_due : HRow.Bind r__law_pairs_due := HRow.bind0 rfl fun kV doc pm an cdv ct us hl => match us, hl with | [_, _, _, _], _ => rfl
def r__law_pairs_reached : HRow := ⟨("_law_pairs_reached", none), "_law_pairs_reached", top 63, N__law_pairs_reached, ["one", "other"], d__law_pairs_reached⟩
theorem b__law_pairs_reached : HRow.Bind r__law_pairs_reached := HRow.bind0 rfl fun kV doc pm an cdv ct us hl => match us, hl with | [_, _], _ => rfl
def r__law_spoilt : HRow := ⟨("_law_spoilt", none), "_law_spoilt", top 64, N__law_spoilt, ["state", "value", "more"], d__law_spoilt⟩
theorem b__law_spoilt : HRow.Bind r__law_spoilt := HRow.bind0 rfl fun kV doc pm an cdv ct us hl => match us, hl with | [_, _, _], _ => rfl
def r__law_heard : HRow := ⟨("_law_heard", none), "_law_heard", top 65, N__law_heard, ["told"], d__law_heard⟩
theorem b__law_heard : HRow.Bind r__law_heard := HRow.bind0 rfl fun kV doc pm an cdv ct us hl => match us, hl with | [_], _ => rfl
def r__law_states_hold : HRow := ⟨("_law_states_hold", none), "_law_states_hold", top 66, N__law_states_hold, ["state"], d__law_states_hold⟩
theorem b__law_states_hold : HRow.Bind r__law_states_hold := HRow.bind0 rfl fun kV doc pm an cdv ct us hl => match us, hl with | [_], _ => rfl
def r__law_pairs_hold : HRow := ⟨("_law_pairs_hold", none), "_law_pairs_hold", top 67, N__law_pairs_hold, ["state"], d__law_pairs_hold⟩
theorem b__law_pairs_hold : HRow.Bind r__law_pairs_hold := HRow.bind0 rfl fun kV doc pm an cdv ct us hl => match us, hl with | [_], _ => rfl
def r__law_run : HRow := ⟨("_law_run", none), "_law_run", top 68, N__law_run, ["machine", "labels", "row"], d__law_run⟩
theorem b__law_run : HRow.Bind r__law_run := HRow.bind0 rfl fun kV doc pm an cdv ct us hl => match us, hl with | [_, _, _], _ => rfl
def r__law_run_due : HRow := ⟨("_law_run_due", none), "_law_run_due", top 69, N__law_run_due, ["machine", "labels", "row", "run"], d__law_run_due⟩
theorem b__law_run_due : HRow.Bind r__law_run_due := HRow.bind0 rfl fun kV doc pm an cdv ct us hl => match us, hl with | [_, _, _, _], _ => rfl
def r__law_runs_hold : HRow := ⟨("_law_runs_hold", none), "_law_runs_hold", top 70, N__law_runs_hold, ["state"], d__law_runs_hold⟩
theorem b__law_runs_hold : HRow.Bind r__law_runs_hold := HRow.bind0 rfl fun kV doc pm an cdv ct us hl => match us, hl with | [_], _ => rfl
def r_law : HRow := ⟨("law", none), "law", top 71, N_law, ["script"], d_law⟩
theorem b_law : HRow.Bind r_law := HRow.bind0 rfl fun kV doc pm an cdv ct us hl => match us, hl with | [_], _ => rfl
def hd : Hd := ⟨pt, [r_is_integer, r_is_name, r_is_content, r_are_nodes, r_size_in, r_is_hedge, r_check_hedge, r_kids_of, r_check_labels, r_letter_in, r_is_number, r_are_numbers, r_is_row, r_is_machine, r_check_machine, r_check_for, r_moved, r_wrong_at, r_accept_run, r_check_two, r_lifted_in, r_lifted, r_is_rising, r_accept_closed, r_is_pair, r_accept_pairs, r__law_start, r__law_draw, r__law_pick, r__law_word, r__law_asked, r__law_machine, r__law_hedge, r__law_size, r__law_some_machine, r__law_moved, r__law_reached, r__law_is_state, r__law_closed_due, r__law_is_pair, r__law_both_moved, r__law_pairs_due, r__law_pairs_reached, r__law_spoilt, r__law_heard, r__law_states_hold, r__law_pairs_hold, r__law_run, r__law_run_due, r__law_runs_hold, r_law], [r_Two___init__, r_Two_begin, r_Two_step, r_Two_is_good], [e_TextError, e_SchemaError, e_ArgumentError, e_PaperError, e_TooMany], "/claim/cut.py"⟩
theorem hd_bf : AllB hd.fs := (.cons b_is_integer (.cons b_is_name (.cons b_is_content (.cons b_are_nodes (.cons b_size_in (.cons b_is_hedge (.cons b_check_hedge (.cons b_kids_of (.cons b_check_labels (.cons b_letter_in (.cons b_is_number (.cons b_are_numbers (.cons b_is_row (.cons b_is_machine (.cons b_check_machine (.cons b_check_for (.cons b_moved (.cons b_wrong_at (.cons b_accept_run (.cons b_check_two (.cons b_lifted_in (.cons b_lifted (.cons b_is_rising (.cons b_accept_closed (.cons b_is_pair (.cons b_accept_pairs (.cons b__law_start (.cons b__law_draw (.cons b__law_pick (.cons b__law_word (.cons b__law_asked (.cons b__law_machine (.cons b__law_hedge (.cons b__law_size (.cons b__law_some_machine (.cons b__law_moved (.cons b__law_reached (.cons b__law_is_state (.cons b__law_closed_due (.cons b__law_is_pair (.cons b__law_both_moved (.cons b__law_pairs_due (.cons b__law_pairs_reached (.cons b__law_spoilt (.cons b__law_heard (.cons b__law_states_hold (.cons b__law_pairs_hold (.cons b__law_run (.cons b__law_run_due (.cons b__law_runs_hold (.cons b_law .nil)))))))))))))))))))))))))))))))))))))))))))))))))))
theorem hd_bm : AllB hd.ms := (.cons b_Two___init__ (.cons b_Two_begin (.cons b_Two_step (.cons b_Two_is_good .nil))))
theorem hd_er : ∀ e ∈ hd.es, e.Ok := fun e h => by
  have h : e ∈ [e_TextError, e_SchemaError, e_ArgumentError, e_PaperError, e_TooMany] := h
  simp only [List.mem_cons, List.not_mem_nil, or_false] at h
  rcases h with rfl | rfl | rfl | rfl | rfl
  · exact eo_TextError
  · exact eo_SchemaError
  · exact eo_ArgumentError
  · exact eo_PaperError
  · exact eo_TooMany
theorem hd_rows : ((hd.fs ++ hd.ms).all fun r => r.okB hd.p) = true := by decide +kernel
theorem hd_ok : hd.Ok PySem.Challenge.pw_treesforetold_k74_papers_at_marked_machi :=
  ⟨hd_rows, hd_bf, hd_bm, hd_er, rfl, rfl, rfl, by decide +kernel, rfl, by decide +kernel⟩
abbrev row0 : PySem.W.OpenRow := PySem.W.OpenLaw.row PySem.Challenge.rw_treesforetold_k74_papers_at_marked_machi
def nm0 : List PySem.Str := ["__name__", "TreeError", "TextError", "SchemaError", "ArgumentError", "PaperError", "TooMany", "MAX_LABELS", "MAX_STATES", "MAX_NODES", "MAX_DEPTH", "MAX_WORD", "MAX_SIGNS", "is_integer", "LETTERS", "is_name", "is_content", "are_nodes", "size_in", "is_hedge"]
def nm1 : List PySem.Str := ["check_hedge", "kids_of", "check_labels", "letter_in", "is_number", "are_numbers", "is_row", "is_machine", "check_machine", "check_for", "moved", "wrong_at", "accept_run", "Two", "check_two", "lifted_in", "lifted", "is_rising", "accept_closed", "is_pair"]
def nm2 : List PySem.Str := ["accept_pairs", "_law_start", "_law_draw", "_law_pick", "_law_word", "_law_asked", "_law_machine", "_law_hedge", "_law_size", "_law_some_machine", "_law_moved", "_law_reached", "_law_is_state", "_law_closed_due", "_law_is_pair", "_law_both_moved", "_law_pairs_due", "_law_pairs_reached", "_law_spoilt", "_law_heard"]
def nm3 : List PySem.Str := ["_law_states_hold", "_law_pairs_hold", "_law_run", "_law_run_due", "_law_runs_hold"]
def names : List PySem.Str := nm0 ++ nm1 ++ nm2 ++ nm3
def ob (s : PySem.W.SharedT) : AlP := hd.obs (kP (HandSHeadRun.getT s) 5)
theorem ob_eq (s : PySem.W.SharedT) : ob s = (hd.hook 5).obs s.abs := Hd.obs_eq (HandSHeadRun.getT_eq s)
theorem run (w : World) : HandSHeadRun.RunEq row0 (PySem.W.view row0.prog [71]) (hd.hook 5) ob 6000 names w := by
  intro os
  kernel_rfl
end Q74
open PySem PySem.W PySem.Calls PyProof.Rows
theorem Q74.holds_of (k : Nat) (hk : L2.Room (k + 1) callerA) (math : ∀ ns : List Int, ns.length ≤ 63 → ∃ S, Q74.d_law.run (Pz.cfg Q74.prog k) [.frz (ns.map .int)] [] = .ok (.bl true) S) : PySem.Challenge.rw_treesforetold_k74_papers_at_marked_machi.Holds := by
  w_on; o_law
  refine HandSHeadRun.head_any (r := Q74.row0) (q := view Q74.row0.prog [71]) (H := Q74.hd.hook 5) (ob := Q74.ob) (M := 6000) (loose := Q74.names) (d := HandSHeadRun.topDef Q74.row0.prog 71) (kwd := []) Q74.ob_eq
    (by kernel_rfl) (fun s => by kernel_rfl) Q74.run (by kernel_rfl) (by kernel_rfl) (by kernel_rfl) (by rfl) (by first | assumption | decide +kernel) (by decide +kernel) ⟨rfl, rfl, rfl, rfl, rfl, by decide +kernel⟩ ?hw ?hc
  case hw => w_witness2
  case hc => exact Pz.Hd.walk (l := PySem.Challenge.rw_treesforetold_k74_papers_at_marked_machi) (r := Q74.r_law) Q74.hd_ok rfl (by kernel_rfl) hk (by kernel_rfl) (by simp [Q74.hd]) rfl rfl rfl (fun kV doc pm an cdv ct us hl => match us, hl with | [_], _ => rfl) math
end
section
set_option Elab.async false
set_option linter.all false
set_option maxRecDepth 100000
set_option maxHeartbeats 800000
/-! Pz: what things denote, step by step. -/
namespace Pz
open PySem
/-! ### the same term; freezing -/
mutual
theorem PV.same_refl : ∀ v : PV, PV.same v v = true
  | .non => rfl
  | .bl b => by simp [PV.same]
  | .int i => by simp [PV.same]
  | .str x => by simp [PV.same]
  | .tup a => by simp only [PV.same]; exact PV.sameL_refl a
  | .lst a => by simp only [PV.same]; exact PV.sameL_refl a
  | .dct t a b => by simp only [PV.same, PV.sameL_refl a, PV.sameL_refl b, beq_self_eq_true, Bool.and_self]
  | .cell a => by simp [PV.same]
  | .fn a => by simp [PV.same]
  | .frz a => by simp only [PV.same]; exact PV.sameL_refl a
  | .wtup a => by simp only [PV.same]; exact PV.sameL_refl a
  | .ktup a => by simp only [PV.same]; exact PV.sameL_refl a
  | .exn a b => by simp only [PV.same, PV.same_refl b, decide_true, Bool.and_self]
theorem PV.sameL_refl : ∀ xs : List PV, PV.same.sameL xs xs = true
  | [] => rfl
  | x :: xs => by simp only [PV.same.sameL, PV.same_refl x, PV.sameL_refl xs, Bool.and_self]
end
theorem sameF_refl : ∀ xs : List (Str × PV), sameF xs xs = true
  | [] => rfl
  | (f, x) :: xs => by simp only [sameF, PV.same_refl x, sameF_refl xs, decide_true, Bool.and_self]
theorem PO.same_refl : ∀ o : PO, PO.same o o = true
  | .lst a => PV.sameL_refl a
  | .dct t a b => by simp only [PO.same, PV.sameL_refl a, PV.sameL_refl b, beq_self_eq_true, Bool.and_self]
  | .ins c a => by simp only [PO.same, sameF_refl a, decide_true, Bool.and_self]
theorem sameS_refl : ∀ S : Store, sameS S S = true
  | [] => rfl
  | x :: xs => by simp only [sameS, PO.same_refl x, sameS_refl xs, Bool.and_self]
mutual
theorem freeze_id {n : Nat} {S : Store} : ∀ v : PV, v.top ≤ n → freeze n S v = v
  | .cell i, h => by
    have : i < n := h
    simp only [freeze, if_pos this]
  | .tup xs, h => by simp only [freeze, freezeL_id xs h]
  | .non, _ => rfl
  | .bl b, _ => rfl
  | .int i, _ => rfl
  | .str x, _ => rfl
  | .lst a, _ => rfl
  | .dct t a b, _ => rfl
  | .fn a, _ => rfl
  | .frz a, _ => rfl
  | .wtup a, _ => rfl
  | .ktup a, _ => rfl
  | .exn a b, _ => rfl
theorem freezeL_id {n : Nat} {S : Store} : ∀ xs : List PV, PV.top.topL xs ≤ n → freeze.freezeL n S xs = xs
  | [], _ => rfl
  | x :: xs, h => by
    have h' := Nat.max_le.mp h
    simp only [freeze.freezeL, freeze_id x h'.1, freezeL_id xs h'.2]
end
/-- the ends of calls -/
theorem fin_gen {S S1 S2 : Store} {v : PV} (h : S2.take S.length = S1) (hl : S.length ≤ S2.length) (hs : S1 = S ∨ topS S1 ≤ S.length) (hv : v.top ≤ S.length) : (R.ok v S2).fin S = .ok v S1 := by
  have sh : shut S S2 = true := by
    unfold shut
    rw [h]
    rcases hs with e | e
    · rw [e, sameS_refl]; rfl
    · rw [decide_eq_true e, Bool.or_true]
  unfold R.fin
  simp only [freeze_id v hv, sh, h, decide_eq_true hl, decide_eq_true hv, Bool.and_self, if_true]
theorem fin_ok {S X : Store} {v : PV} (hv : v.top ≤ S.length) : (R.ok v (S ++ X)).fin S = .ok v S := fin_gen (by simp) (by simp) (.inl rfl) hv
theorem fin_ok0 {S : Store} {v : PV} (hv : v.top ≤ S.length) : (R.ok v S).fin S = .ok v S := fin_gen (by simp) (Nat.le_refl _) (.inl rfl) hv
theorem fin_st {S S1 X : Store} {v : PV} (hl : S1.length = S.length) (ht : topS S1 ≤ S.length) (hv : v.top ≤ S.length) : (R.ok v (S1 ++ X)).fin S = .ok v S1 := fin_gen (by rw [← hl]; simp) (by simp [hl]) (.inr ht) hv
theorem fin_st0 {S S1 : Store} {v : PV} (hl : S1.length = S.length) (ht : topS S1 ≤ S.length) (hv : v.top ≤ S.length) : (R.ok v S1).fin S = .ok v S1 := fin_gen (by rw [← hl]; simp) (by simp [hl]) (.inr ht) hv
theorem fine_gen {S S1 S2 : Store} {c : Str} {v : PV} (h : S2.take S.length = S1) (hl : S.length ≤ S2.length) (hs : S1 = S ∨ topS S1 ≤ S.length) (hv : v.top ≤ S.length) : (R.exc c v S2 : R PV).fin S = .exc c v S1 := by
  have sh : shut S S2 = true := by
    unfold shut
    rw [h]
    rcases hs with e | e
    · rw [e, sameS_refl]; rfl
    · rw [decide_eq_true e, Bool.or_true]
  unfold R.fin
  simp only [sh, h, decide_eq_true hl, decide_eq_true hv, Bool.and_self, if_true]
theorem fine_ok {S X : Store} {c : Str} {v : PV} (hv : v.top ≤ S.length) : (R.exc c v (S ++ X) : R PV).fin S = .exc c v S := fine_gen (by simp) (by simp) (.inl rfl) hv
theorem fine_ok0 {S : Store} {c : Str} {v : PV} (hv : v.top ≤ S.length) : (R.exc c v S : R PV).fin S = .exc c v S := fine_gen (by simp) (Nat.le_refl _) (.inl rfl) hv
/-! ### calls -/
def SR.res : SR → R PV
  | .nx _ S => .ok .non S
  | .rt v _ S => .ok v S
  | .exc x v _ S => .exc x v S
  | _ => .out
@[simp] theorem res_nx {ρ : Env} {S : Store} : (SR.nx ρ S).res = .ok .non S := Eq.trans rfl rfl
@[simp] theorem res_rt {v : PV} {ρ : Env} {S : Store} : (SR.rt v ρ S).res = .ok v S := Eq.trans rfl rfl
@[simp] theorem res_exc {x : Str} {v : PV} {ρ : Env} {S : Store} : (SR.exc x v ρ S).res = .exc x v S := Eq.trans rfl rfl
theorem run_at {c : Cfg} {d : Def} {vs : List PV} {S : Store} (h : vs.length = d.params) : d.run c vs S = (d.body.den c (vs.map some ++ List.replicate (d.slots - d.params) none) S).res := by
  unfold Def.run SR.res
  rw [if_pos h]
  all_goals (cases d.body.den c (vs.map some ++ List.replicate (d.slots - d.params) none) S <;> rfl)
theorem call_at {P : Prog} {n : Nat} {f : Str} {d : Def} {vs : List PV} {S : Store} (hl : P.defs.lookup f = some d) (hh : d.hot = false) : (cfg P (n + 1)).call f vs S = d.run (cfg P n) vs S := by
  have : (cfg P (n + 1)).call f vs S = match P.defs.lookup f with | some d => if d.hot = true then .out else d.run (cfg P n) vs S | none => .out := by cases n <;> rfl
  rw [this, hl]
  show (if d.hot = true then R.out else d.run (cfg P n) vs S) = _
  rw [hh, if_neg Bool.false_ne_true]
theorem meth_at {P : Prog} {n : Nat} {C f : Str} {d : Def} {vs : List PV} {S : Store} (hl : P.meths.lookup (C, f) = some d) : (cfg P (n + 1)).meth C f vs S = d.run (cfg P n) vs S := by
  have : (cfg P (n + 1)).meth C f vs S = match P.meths.lookup (C, f) with | some d => d.run (cfg P n) vs S | none => .out := by cases n <;> rfl
  rw [this, hl]
theorem init_at {P : Prog} {n : Nat} {C : Str} {d : Def} {vs : List PV} {S : Store} (hl : P.meths.lookup (C, ("__init__" : Str)) = some d) : (cfg P (n + 2)).init C vs S = d.run (cfg P n) vs S := by
  show (match P.meths.lookup (C, ("__init__" : Str)) with | some d => d.run (cfg P n) vs S | none => .out) = _
  rw [hl]
theorem cfg_mks {P : Prog} {n : Nat} : (cfg P (n + 1)).mks = true := by cases n <;> rfl
theorem cfg_fuel {P : Prog} {n : Nat} : (cfg P n).fuel = P.fuel := by
  match n with
  | 0 => rfl
  | 1 => rfl
  | n + 2 => rfl
theorem cfg_has {P : Prog} {n : Nat} {C m : Str} : (cfg P n).has C m = (P.meths.lookup (C, m)).isSome := by
  match n with
  | 0 => rfl
  | 1 => rfl
  | n + 2 => rfl
theorem cfg_attrs {P : Prog} {n : Nat} {x : Str} : (cfg P n).attrs x = (P.attrs.lookup x).getD [] := by
  match n with
  | 0 => rfl
  | 1 => rfl
  | n + 2 => rfl
theorem cfg_errs {P : Prog} {n : Nat} : (cfg P n).errs = P.fld.map (·.1) := by
  match n with
  | 0 => rfl
  | 1 => rfl
  | n + 2 => rfl
theorem cfg_sub {P : Prog} {n : Nat} {x : Str} : (cfg P n).sub x = (P.sub.lookup x).getD [] := by
  match n with
  | 0 => rfl
  | 1 => rfl
  | n + 2 => rfl
theorem cfg_hot {P : Prog} {n : Nat} : (cfg P n).hot = hotP P := by
  match n with
  | 0 => rfl
  | 1 => rfl
  | n + 2 => rfl
/-- from n on: the call of f, seen from its caller -/
def Calls' (P : Prog) (n : Nat) (f : Str) (vs : List PV) (S : Store) (r : R PV) : Prop := ∀ m, n ≤ m → ((cfg P m).call f vs S).fin S = r
/-! ### what things denote: what follows stands as data, so that simp looks at it only when it is due -/
def vr (o : Option (Option PV)) (S : Store) : R PV := match o with
  | some (some v) => .ok v S
  | _ => .out
@[simp] theorem vr_some {v : PV} {S : Store} : vr (some (some v)) S = .ok v S := Eq.trans rfl rfl
/-- what follows -/
def SR.thn (c : Cfg) (r : Sts) (q : SR) : SR := match q with
  | .nx ρ S => r.den c ρ S
  | q => q
@[simp] theorem thn_nx {c : Cfg} {r : Sts} {ρ : Env} {S : Store} : SR.thn c r (.nx ρ S) = r.den c ρ S := Eq.trans rfl rfl
@[simp] theorem thn_rt {c : Cfg} {r : Sts} {v : PV} {ρ : Env} {S : Store} : SR.thn c r (.rt v ρ S) = .rt v ρ S := Eq.trans rfl rfl
@[simp] theorem thn_bk {c : Cfg} {r : Sts} {ρ : Env} {S : Store} : SR.thn c r (.bk ρ S) = .bk ρ S := Eq.trans rfl rfl
@[simp] theorem thn_ct {c : Cfg} {r : Sts} {ρ : Env} {S : Store} : SR.thn c r (.ct ρ S) = .ct ρ S := Eq.trans rfl rfl
@[simp] theorem thn_exc {c : Cfg} {r : Sts} {x : Str} {v : PV} {ρ : Env} {S : Store} : SR.thn c r (.exc x v ρ S) = .exc x v ρ S := Eq.trans rfl rfl
section
variable {c : Cfg} {ρ : Env} {S : Store}
@[simp] theorem e_var {i : Nat} : (E.var i).den c ρ S = vr ρ[i]? S := by
  simp only [E.den]; unfold vr; rfl
@[simp] theorem e_con {v : PV} : (E.con v).den c ρ S = .ok v S := by simp only [E.den]
@[simp] theorem e_glo {x : Str} {v : PV} : (E.glo x v).den c ρ S = .ok v S := by simp only [E.den]
def tupK (vs : List PV) (S : Store) : R PV := .ok (.tup vs) S
@[simp] theorem tupK_eq {vs : List PV} : tupK vs S = .ok (.tup vs) S := Eq.trans rfl rfl
def ktupK (vs : List PV) (S : Store) : R PV := .ok (.ktup vs) S
@[simp] theorem ktupK_eq {vs : List PV} : ktupK vs S = .ok (.ktup vs) S := Eq.trans rfl rfl
def lstK (vs : List PV) (S : Store) : R PV := .ok (.lst vs) S
@[simp] theorem lstK_eq {vs : List PV} : lstK vs S = .ok (.lst vs) S := Eq.trans rfl rfl
def celK (vs : List PV) (S : Store) : R PV := .ok (.cell S.length) (S ++ [.lst vs])
@[simp] theorem celK_eq {vs : List PV} : celK vs S = .ok (.cell S.length) (S ++ [.lst vs]) := Eq.trans rfl rfl
@[simp] theorem e_tup {es : Es} : (E.tup es).den c ρ S = (es.den c ρ S).bind tupK := by simp only [E.den]; rfl
@[simp] theorem e_ktup {es : Es} : (E.ktup es).den c ρ S = (es.den c ρ S).bind ktupK := by simp only [E.den]; rfl
@[simp] theorem e_ro {f : F} : (E.ro f).den c ρ S = (f.den c ρ S).bind lstK := by simp only [E.den]; rfl
@[simp] theorem e_mk {f : F} : (E.mk f).den c ρ S = (f.den c ρ S).bind celK := by simp only [E.den]; rfl
/-- b, then k -/
def k2 {α : Type} (c : Cfg) (ρ : Env) (b : E) (k : PV → PV → Store → R α) (x : PV) (S : Store) : R α := (b.den c ρ S).bind (k x)
@[simp] theorem k2_eq {α : Type} {b : E} {k : PV → PV → Store → R α} {x : PV} : k2 c ρ b k x S = (b.den c ρ S).bind (k x) := Eq.trans rfl rfl
def binK (op : Bop) (x y : PV) (S : Store) : R PV := ofO (binop S op x y) S
@[simp] theorem binK_eq {op : Bop} {x y : PV} : binK op x y S = ofO (binop S op x y) S := Eq.trans rfl rfl
def cmpK (op : Cop) (x y : PV) (S : Store) : R PV := ofO (cmpop S op x y) S
@[simp] theorem cmpK_eq {op : Cop} {x y : PV} : cmpK op x y S = ofO (cmpop S op x y) S := Eq.trans rfl rfl
def idxK (x y : PV) (S : Store) : R PV := ofO (index S x y) S
@[simp] theorem idxK_eq {x y : PV} : idxK x y S = ofO (index S x y) S := Eq.trans rfl rfl
@[simp] theorem e_bin {op : Bop} {a b : E} : (E.bin op a b).den c ρ S = (a.den c ρ S).bind (k2 c ρ b (binK op)) := by simp only [E.den]; rfl
def negV (x : PV) (S : Store) : R PV := match x with
  | .int i => .ok (.int (-i)) S
  | _ => .out
@[simp] theorem negV_int {i : Int} : negV (.int i) S = .ok (.int (-i)) S := Eq.trans rfl rfl
@[simp] theorem e_neg {a : E} : (E.neg a).den c ρ S = (a.den c ρ S).bind negV := by simp only [E.den]; rfl
@[simp] theorem e_cmp {op : Cop} {a b : E} : (E.cmp op a b).den c ρ S = (a.den c ρ S).bind (k2 c ρ b (cmpK op)) := by simp only [E.den]; rfl
def chn (c : Cfg) (ρ : Env) (d : E) (o2 : Cop) (y : PV) (S : Store) (o : Option PV) : R PV := match o with
  | some (.bl true) => (d.den c ρ S).bind (cmpK o2 y)
  | some (.bl false) => .ok (.bl false) S
  | _ => .out
@[simp] theorem chn_bl {d : E} {o2 : Cop} {y : PV} {t : Bool} : chn c ρ d o2 y S (some (.bl t)) = if t = true then (d.den c ρ S).bind (cmpK o2 y) else .ok (.bl false) S := by cases t <;> rfl
def chnK (c : Cfg) (ρ : Env) (o1 : Cop) (d : E) (o2 : Cop) (x y : PV) (S : Store) : R PV := chn c ρ d o2 y S (cmpop S o1 x y)
@[simp] theorem chnK_eq {o1 o2 : Cop} {d : E} {x y : PV} : chnK c ρ o1 d o2 x y S = chn c ρ d o2 y S (cmpop S o1 x y) := Eq.trans rfl rfl
@[simp] theorem e_chain {o1 o2 : Cop} {a b d : E} : (E.chain o1 o2 a b d).den c ρ S = (a.den c ρ S).bind (k2 c ρ b (chnK c ρ o1 d o2)) := by
  simp only [E.den]; rfl
def isNK (x : PV) (S : Store) : R PV := .ok (.bl (isNon x)) S
@[simp] theorem isNK_eq {x : PV} : isNK x S = .ok (.bl (isNon x)) S := Eq.trans rfl rfl
def notNK (x : PV) (S : Store) : R PV := .ok (.bl (!isNon x)) S
@[simp] theorem notNK_eq {x : PV} : notNK x S = .ok (.bl (!isNon x)) S := Eq.trans rfl rfl
@[simp] theorem e_isN {a : E} : (E.isN a).den c ρ S = (a.den c ρ S).bind isNK := by simp only [E.den]; rfl
@[simp] theorem e_notN {a : E} : (E.notN a).den c ρ S = (a.den c ρ S).bind notNK := by simp only [E.den]; rfl
/-- by a test: b, or x -/
def andT (c : Cfg) (ρ : Env) (b : E) (x : PV) (S : Store) (o : Option Bool) : R PV := match o with
  | some true => b.den c ρ S
  | some false => .ok x S
  | none => .out
@[simp] theorem andT_some {b : E} {x : PV} {t : Bool} : andT c ρ b x S (some t) = if t = true then b.den c ρ S else .ok x S := by cases t <;> rfl
def orT (c : Cfg) (ρ : Env) (b : E) (x : PV) (S : Store) (o : Option Bool) : R PV := match o with
  | some true => .ok x S
  | some false => b.den c ρ S
  | none => .out
@[simp] theorem orT_some {b : E} {x : PV} {t : Bool} : orT c ρ b x S (some t) = if t = true then .ok x S else b.den c ρ S := by cases t <;> rfl
def iteT (c : Cfg) (ρ : Env) (a b : E) (S : Store) (o : Option Bool) : R PV := match o with
  | some true => a.den c ρ S
  | some false => b.den c ρ S
  | none => .out
@[simp] theorem iteT_some {a b : E} {t : Bool} : iteT c ρ a b S (some t) = if t = true then a.den c ρ S else b.den c ρ S := by cases t <;> rfl
def andK (c : Cfg) (ρ : Env) (b : E) (x : PV) (S : Store) : R PV := andT c ρ b x S (truthy S x)
@[simp] theorem andK_eq {b : E} {x : PV} : andK c ρ b x S = andT c ρ b x S (truthy S x) := Eq.trans rfl rfl
def orK (c : Cfg) (ρ : Env) (b : E) (x : PV) (S : Store) : R PV := orT c ρ b x S (truthy S x)
@[simp] theorem orK_eq {b : E} {x : PV} : orK c ρ b x S = orT c ρ b x S (truthy S x) := Eq.trans rfl rfl
def iteK (c : Cfg) (ρ : Env) (a b : E) (x : PV) (S : Store) : R PV := iteT c ρ a b S (truthy S x)
@[simp] theorem iteK_eq {a b : E} {x : PV} : iteK c ρ a b x S = iteT c ρ a b S (truthy S x) := Eq.trans rfl rfl
def notK (x : PV) (S : Store) : R PV := ofO ((truthy S x).map fun t => .bl (!t)) S
@[simp] theorem notK_eq {x : PV} : notK x S = ofO ((truthy S x).map fun t => .bl (!t)) S := Eq.trans rfl rfl
@[simp] theorem e_and {a b : E} : (E.and a b).den c ρ S = (a.den c ρ S).bind (andK c ρ b) := by
  simp only [E.den]
  congr 1
@[simp] theorem e_or {a b : E} : (E.or a b).den c ρ S = (a.den c ρ S).bind (orK c ρ b) := by
  simp only [E.den]
  congr 1
@[simp] theorem e_not {a : E} : (E.not a).den c ρ S = (a.den c ρ S).bind notK := by
  simp only [E.den]
  congr 1; funext x S1
  unfold notK
  cases truthy S1 x <;> rfl
@[simp] theorem e_ite {d a b : E} : (E.ite d a b).den c ρ S = (d.den c ρ S).bind (iteK c ρ a b) := by
  simp only [E.den]
  congr 1
@[simp] theorem e_idx {a i : E} : (E.idx a i).den c ρ S = (a.den c ρ S).bind (k2 c ρ i idxK) := by simp only [E.den]; rfl
def slcK3 (x : PV) (l h : Option Int) (S : Store) : R PV := ofO (slice S x l h) S
@[simp] theorem slcK3_eq {x : PV} {l h : Option Int} : slcK3 x l h S = ofO (slice S x l h) S := Eq.trans rfl rfl
def slcK2 (c : Cfg) (ρ : Env) (hi : Eo) (x : PV) (l : Option Int) (S : Store) : R PV := (hi.den c ρ S).bind (slcK3 x l)
@[simp] theorem slcK2_eq {hi : Eo} {x : PV} {l : Option Int} : slcK2 c ρ hi x l S = (hi.den c ρ S).bind (slcK3 x l) := Eq.trans rfl rfl
def slcK (c : Cfg) (ρ : Env) (lo hi : Eo) (x : PV) (S : Store) : R PV := (lo.den c ρ S).bind (slcK2 c ρ hi x)
@[simp] theorem slcK_eq {lo hi : Eo} {x : PV} : slcK c ρ lo hi x S = (lo.den c ρ S).bind (slcK2 c ρ hi x) := Eq.trans rfl rfl
@[simp] theorem e_slc {a : E} {lo hi : Eo} : (E.slc a lo hi).den c ρ S = (a.den c ρ S).bind (slcK c ρ lo hi) := by simp only [E.den]; rfl
def revK (x : PV) (S : Store) : R PV := ofO ((tupOf x).map fun xs => .tup xs.reverse) S
@[simp] theorem revK_eq {x : PV} : revK x S = ofO ((tupOf x).map fun xs => .tup xs.reverse) S := Eq.trans rfl rfl
@[simp] theorem e_rev {a : E} : (E.rev a).den c ρ S = (a.den c ρ S).bind revK := by
  simp only [E.den]
  congr 1; funext x S1
  unfold revK
  cases tupOf x <;> rfl
def biK (f : Bi) (vs : List PV) (S : Store) : R PV := ofO (bi S f vs) S
@[simp] theorem biK_eq {f : Bi} {vs : List PV} : biK f vs S = ofO (bi S f vs) S := Eq.trans rfl rfl
@[simp] theorem e_bi {f : Bi} {es : Es} : (E.bi f es).den c ρ S = (es.den c ρ S).bind (biK f) := by simp only [E.den]; rfl
def instK (t : Ty) (x : PV) (S : Store) : R PV := ofO ((Pz.inst S x t).map .bl) S
@[simp] theorem instK_eq {t : Ty} {x : PV} : instK t x S = ofO ((Pz.inst S x t).map .bl) S := Eq.trans rfl rfl
@[simp] theorem e_inst {a : E} {t : Ty} : (E.inst a t).den c ρ S = (a.den c ρ S).bind (instK t) := by simp only [E.den]; rfl
def callK' (c : Cfg) (f : Str) (ds vs : List PV) (S : Store) : R PV := (c.call f (vs ++ ds) S).fin S
@[simp] theorem callK_eq {f : Str} {ds vs : List PV} : callK' c f ds vs S = (c.call f (vs ++ ds) S).fin S := Eq.trans rfl rfl
@[simp] theorem e_call {f : Str} {es : Es} {ds : List PV} : (E.call f es ds).den c ρ S = (es.den c ρ S).bind (callK' c f ds) := by simp only [E.den]; rfl
def callC (c : Cfg) (f : Str) (ds vs : List PV) (S : Store) : R PV := (c.call f (vs ++ ds) S).finK S
@[simp] theorem callC_eq {f : Str} {ds vs : List PV} : callC c f ds vs S = (c.call f (vs ++ ds) S).finK S := Eq.trans rfl rfl
@[simp] theorem e_callK {f : Str} {es : Es} {ds : List PV} : (E.callK f es ds).den c ρ S = (es.den c ρ S).bind (callC c f ds) := by simp only [E.den]; rfl
def cvK (c : Cfg) (f : Str) (vs : List PV) (S : Store) : R PV := (c.call f vs S).fin S
@[simp] theorem cvK_eq {f : Str} {vs : List PV} : cvK c f vs S = (c.call f vs S).fin S := Eq.trans rfl rfl
def cv (c : Cfg) (ρ : Env) (es : Es) (x : PV) (S : Store) : R PV := match x with
  | .fn f => (es.den c ρ S).bind (cvK c f)
  | _ => .out
@[simp] theorem cv_fn {es : Es} {f : Str} : cv c ρ es (.fn f) S = (es.den c ρ S).bind (cvK c f) := Eq.trans rfl rfl
@[simp] theorem e_callV {a : E} {es : Es} : (E.callV a es).den c ρ S = (a.den c ρ S).bind (cv c ρ es) := by
  simp only [E.den]; rfl
/-- an instance -/
def insAt (S : Store) (x : PV) : Option (Nat × Str × List (Str × PV)) := match x with
  | .cell n => match S[n]? with
    | some (.ins C fs) => some (n, C, fs)
    | _ => none
  | _ => none
theorem insAt_cell {n : Nat} {C : Str} {fs : List (Str × PV)} (h : S[n]? = some (.ins C fs)) : insAt S (.cell n) = some (n, C, fs) := by
  simp only [insAt, h]
def methK (c : Cfg) (C m : Str) (x : PV) (vs : List PV) (S : Store) : R PV := (c.meth C m (x :: vs) S).fin S
@[simp] theorem methK_eq {C m : Str} {x : PV} {vs : List PV} : methK c C m x vs S = (c.meth C m (x :: vs) S).fin S := Eq.trans rfl rfl
def methQ (c : Cfg) (ρ : Env) (m : Str) (es : Es) (S : Store) (o : Option (Nat × Str × List (Str × PV))) : R PV := match o with
  | some (n, C, fs) => if (fs.lookup m).isNone = true ∧ c.has C m = true then (es.den c ρ S).bind (methK c C m (.cell n)) else .out
  | none => .out
@[simp] theorem methQ_some {m : Str} {es : Es} {n : Nat} {C : Str} {fs : List (Str × PV)} : methQ c ρ m es S (some (n, C, fs)) = if (fs.lookup m).isNone = true ∧ c.has C m = true then (es.den c ρ S).bind (methK c C m (.cell n)) else .out := Eq.trans rfl rfl
def methX (c : Cfg) (ρ : Env) (m : Str) (es : Es) (x : PV) (S : Store) : R PV := methQ c ρ m es S (insAt S x)
@[simp] theorem methX_eq {m : Str} {es : Es} {x : PV} : methX c ρ m es x S = methQ c ρ m es S (insAt S x) := Eq.trans rfl rfl
@[simp] theorem e_meth {o : E} {m : Str} {es : Es} : (E.meth o m es).den c ρ S = (o.den c ρ S).bind (methX c ρ m es) := by
  simp only [E.den]
  congr 1; funext x S1
  unfold methX insAt
  cases x <;> try rfl
  rename_i n
  dsimp only
  cases e : S1[n]? with
  | none => rfl
  | some o => cases o <;> rfl
def mkE (n : Nat) (r : R PV) : R PV := match r with
  | .ok .non S2 => .ok (.cell n) S2
  | .exc x v S2 => .exc x v S2
  | _ => .out
@[simp] theorem mkE_ok {n : Nat} : mkE n (.ok .non S) = .ok (.cell n) S := Eq.trans rfl rfl
def mkK (c : Cfg) (C : Str) (vs : List PV) (S : Store) : R PV := mkE S.length ((c.init C (.cell S.length :: vs) (S ++ [.ins C []])).fin (S ++ [.ins C []]))
@[simp] theorem mkK_eq {C : Str} {vs : List PV} : mkK c C vs S = mkE S.length ((c.init C (.cell S.length :: vs) (S ++ [.ins C []])).fin (S ++ [.ins C []])) := Eq.trans rfl rfl
theorem e_make {C : Str} {es : Es} (hm : c.mks = true) : (E.make C es).den c ρ S = (es.den c ρ S).bind (mkK c C) := by
  simp only [E.den, hm]
  rw [if_neg (by decide)]
  rfl
def fldQ (f : Str) (S : Store) (o : Option (Nat × Str × List (Str × PV))) : R PV := match o with
  | some (n, C, fs) => ofO (fs.lookup f) S
  | none => .out
@[simp] theorem fldQ_some {f : Str} {n : Nat} {C : Str} {fs : List (Str × PV)} : fldQ f S (some (n, C, fs)) = ofO (fs.lookup f) S := Eq.trans rfl rfl
def fldX (f : Str) (x : PV) (S : Store) : R PV := fldQ f S (insAt S x)
@[simp] theorem fldX_eq {f : Str} {x : PV} : fldX f x S = fldQ f S (insAt S x) := Eq.trans rfl rfl
@[simp] theorem e_fld {o : E} {f : Str} : (E.fld o f).den c ρ S = (o.den c ρ S).bind (fldX f) := by
  simp only [E.den]
  congr 1; funext x S1
  unfold fldX insAt
  cases x <;> try rfl
  rename_i n
  dsimp only
  cases e : S1[n]? with
  | none => rfl
  | some o => cases o <;> rfl
/-- a list in a cell -/
def celAt (S : Store) (x : PV) : Option (Nat × List PV) := match x with
  | .cell n => match S[n]? with
    | some (.lst xs) => some (n, xs)
    | _ => none
  | _ => none
theorem celAt_cell {n : Nat} {xs : List PV} (h : S[n]? = some (.lst xs)) : celAt S (.cell n) = some (n, xs) := by
  simp only [celAt, h]
def appQ (y : PV) (S : Store) (o : Option (Nat × List PV)) : R PV := match o with
  | some (n, xs) => if xs.length < lim then .ok .non (S.set n (.lst (xs ++ [y]))) else .out
  | none => .out
@[simp] theorem appQ_some {y : PV} {n : Nat} {xs : List PV} : appQ y S (some (n, xs)) = if xs.length < lim then .ok .non (S.set n (.lst (xs ++ [y]))) else .out := Eq.trans rfl rfl
def appK (x y : PV) (S : Store) : R PV := appQ y S (celAt S x)
@[simp] theorem appK_eq {x y : PV} : appK x y S = appQ y S (celAt S x) := Eq.trans rfl rfl
def celT (c : Cfg) (ρ : Env) (a : E) (k : PV → PV → Store → R PV) (x : PV) (S : Store) (o : Option (Nat × List PV)) : R PV := match o with
  | some _ => (a.den c ρ S).bind (k x)
  | none => .out
@[simp] theorem celT_some {a : E} {k : PV → PV → Store → R PV} {x : PV} {q : Nat × List PV} : celT c ρ a k x S (some q) = (a.den c ρ S).bind (k x) := Eq.trans rfl rfl
def appX (c : Cfg) (ρ : Env) (a : E) (k : PV → PV → Store → R PV) (x : PV) (S : Store) : R PV := celT c ρ a k x S (celAt S x)
@[simp] theorem appX_eq {a : E} {k : PV → PV → Store → R PV} {x : PV} : appX c ρ a k x S = celT c ρ a k x S (celAt S x) := Eq.trans rfl rfl
@[simp] theorem e_app {o a : E} : (E.app o a).den c ρ S = (o.den c ρ S).bind (appX c ρ a appK) := by
  simp only [E.den]
  congr 1; funext x S1
  unfold appX celAt
  cases x <;> try rfl
  rename_i n
  dsimp only
  cases e : S1[n]? with
  | none => rfl
  | some o =>
    cases o <;> try rfl
    show R.bind _ _ = R.bind _ _
    congr 1; funext y S2
    unfold appK celAt
    dsimp only
    cases e2 : S2[n]? with
    | none => rfl
    | some o2 => cases o2 <;> rfl
def extQ (S : Store) (o : Option (Nat × List PV)) (ys : Option (List PV)) : R PV := match o, ys with
  | some (n, xs), some ys => if xs.length + ys.length ≤ lim then .ok .non (S.set n (.lst (xs ++ ys))) else .out
  | _, _ => .out
@[simp] theorem extQ_some {n : Nat} {xs ys : List PV} : extQ S (some (n, xs)) (some ys) = if xs.length + ys.length ≤ lim then .ok .non (S.set n (.lst (xs ++ ys))) else .out := Eq.trans rfl rfl
def extK (x y : PV) (S : Store) : R PV := extQ S (celAt S x) (listOf S y)
@[simp] theorem extK_eq {x y : PV} : extK x y S = extQ S (celAt S x) (listOf S y) := Eq.trans rfl rfl
@[simp] theorem e_ext {o a : E} : (E.ext o a).den c ρ S = (o.den c ρ S).bind (appX c ρ a extK) := by
  simp only [E.den]
  congr 1; funext x S1
  unfold appX celAt
  cases x <;> try rfl
  rename_i n
  dsimp only
  cases e : S1[n]? with
  | none => rfl
  | some o =>
    cases o <;> try rfl
    show R.bind _ _ = R.bind _ _
    congr 1; funext y S2
    unfold extK celAt
    dsimp only
    cases e2 : S2[n]? with
    | none => rfl
    | some o2 =>
      cases o2 <;> try rfl
      dsimp only
      cases listOf S2 y <;> rfl
def ixOf (ss : Option (List Str)) (y : PV) : Option PV := match ss, y with
  | some ss, .str z => (ss.findIdx? fun q => decide (q = z)).map fun j => .int (j : Nat)
  | _, _ => none
def ixK (x y : PV) (S : Store) : R PV := match x with
  | .tup xs => ofO (ixOf (strsOf xs) y) S
  | _ => .out
@[simp] theorem ixK_tup {xs : List PV} {y : PV} : ixK (.tup xs) y S = ofO (ixOf (strsOf xs) y) S := Eq.trans rfl rfl
def ixX (c : Cfg) (ρ : Env) (a : E) (x : PV) (S : Store) : R PV := match x with
  | .tup xs => (a.den c ρ S).bind (ixK (.tup xs))
  | _ => .out
@[simp] theorem ixX_tup {a : E} {xs : List PV} : ixX c ρ a (.tup xs) S = (a.den c ρ S).bind (ixK (.tup xs)) := Eq.trans rfl rfl
@[simp] theorem e_ixo {o a : E} : (E.ixo o a).den c ρ S = (o.den c ρ S).bind (ixX c ρ a) := by
  simp only [E.den]
  congr 1; funext x S1
  cases x <;> try rfl
  rename_i xs
  unfold ixX
  dsimp only
  congr 1; funext y S2
  unfold ixK ixOf
  dsimp only
  cases strsOf xs with
  | none => rfl
  | some ss =>
    cases y <;> try rfl
    rename_i z
    dsimp only
    cases (ss.findIdx? fun q => decide (q = z)) <;> rfl
def ddE (ks : List Str) (r : R (List PV)) : R PV := match r with
  | .ok vs S1 => .ok (.dct false (ks.map .str) vs) S1
  | _ => .out
@[simp] theorem ddE_ok {ks : List Str} {vs : List PV} : ddE ks (.ok vs S) = .ok (.dct false (ks.map .str) vs) S := Eq.trans rfl rfl
@[simp] theorem e_ddisp {ks : List Str} {es : Es} : (E.ddisp ks es).den c ρ S = ddE ks (es.den c ρ S) := by simp only [E.den]; rfl
@[simp] theorem es_nil : Es.nil.den c ρ S = .ok [] S := by simp only [Es.den]
def esC (v : PV) (vs : List PV) (S : Store) : R (List PV) := .ok (v :: vs) S
@[simp] theorem esC_eq {v : PV} {vs : List PV} : esC v vs S = .ok (v :: vs) S := Eq.trans rfl rfl
def esK (c : Cfg) (ρ : Env) (es : Es) (v : PV) (S : Store) : R (List PV) := (es.den c ρ S).bind (esC v)
@[simp] theorem esK_eq {es : Es} {v : PV} : esK c ρ es v S = (es.den c ρ S).bind (esC v) := Eq.trans rfl rfl
@[simp] theorem es_cons {e : E} {es : Es} : (Es.cons e es).den c ρ S = (e.den c ρ S).bind (esK c ρ es) := by simp only [Es.den]; rfl
@[simp] theorem eo_none : Eo.none.den c ρ S = .ok none S := by simp only [Eo.den]
def intV (x : PV) (S : Store) : R (Option Int) := match x with
  | .int i => .ok (some i) S
  | _ => .out
@[simp] theorem intV_int {i : Int} : intV (.int i) S = .ok (some i) S := Eq.trans rfl rfl
@[simp] theorem eo_some {e : E} : (Eo.some e).den c ρ S = (e.den c ρ S).bind intV := by simp only [Eo.den]; rfl
def tstK (x : PV) (S : Store) : R Bool := ofO (truthy S x) S
@[simp] theorem tstK_eq {x : PV} : tstK x S = ofO (truthy S x) S := Eq.trans rfl rfl
@[simp] theorem eb_none : Eo.none.denB c ρ S = .ok true S := by simp only [Eo.denB]
@[simp] theorem eb_some {e : E} : (Eo.some e).denB c ρ S = (e.den c ρ S).bind tstK := by simp only [Eo.denB]; rfl
@[simp] theorem f_disp {es : Es} : (F.disp es).den c ρ S = es.den c ρ S := by simp only [F.den]
def seqK (x : PV) (S : Store) : R (List PV) := ofO (seqOf S x) S
@[simp] theorem seqK_eq {x : PV} : seqK x S = ofO (seqOf S x) S := Eq.trans rfl rfl
@[simp] theorem f_lst {a : E} : (F.lst a).den c ρ S = (a.den c ρ S).bind seqK := by simp only [F.den]; rfl
def srsK (x : PV) (S : Store) : R (List PV) := ofO ((seqOf S x).bind srsOf) S
@[simp] theorem srsK_eq {x : PV} : srsK x S = ofO ((seqOf S x).bind srsOf) S := Eq.trans rfl rfl
@[simp] theorem f_srs {a : E} : (F.srs a).den c ρ S = (a.den c ρ S).bind srsK := by
  simp only [F.den]
  congr 1; funext x S1
  unfold srsK
  cases seqOf S1 x <;> rfl
def catO (a b : Option (List PV)) : Option (List PV) := match a, b with
  | some xs, some ys => if xs.length + ys.length ≤ lim then some (xs ++ ys) else none
  | _, _ => none
theorem catO_some {xs ys : List PV} (h : xs.length + ys.length ≤ lim) : catO (some xs) (some ys) = some (xs ++ ys) := by
  show (if xs.length + ys.length ≤ lim then some (xs ++ ys) else none) = _
  rw [if_pos h]
def catK (x y : PV) (S : Store) : R (List PV) := ofO (catO (listOf S x) (listOf S y)) S
@[simp] theorem catK_eq {x y : PV} : catK x y S = ofO (catO (listOf S x) (listOf S y)) S := Eq.trans rfl rfl
@[simp] theorem f_add {a b : E} : (F.add a b).den c ρ S = (a.den c ρ S).bind (k2 c ρ b catK) := by
  simp only [F.den]
  congr 1; funext x S1
  unfold k2
  congr 1; funext y S2
  unfold catK catO
  cases listOf S2 x with
  | none => rfl
  | some xs => cases listOf S2 y with
    | none => rfl
    | some ys =>
      dsimp only
      split <;> rfl
/-! targets -/
@[simp] theorem g_nm {i : Nat} {v : PV} : (Tg.nm i).den c v ρ S = .ok (ρ.set i (some v)) S := by simp only [Tg.den]
def gtK (c : Cfg) (ρ : Env) (ts : Tgs) (S : Store) (o : Option (List PV)) : R Env := match o with
  | some xs => ts.den c xs ρ S
  | none => .out
@[simp] theorem gtK_some {ts : Tgs} {xs : List PV} : gtK c ρ ts S (some xs) = ts.den c xs ρ S := Eq.trans rfl rfl
@[simp] theorem g_tup {ts : Tgs} {v : PV} : (Tg.tup ts).den c v ρ S = gtK c ρ ts S (tupOf v) := by
  simp only [Tg.den]
  cases tupOf v <;> rfl
def eat (r : R Env) : R Env := match r with
  | .ok ρ S => .ok ρ S
  | _ => .out
@[simp] theorem eat_ok : eat (.ok ρ S) = .ok ρ S := Eq.trans rfl rfl
@[simp] theorem gs_nil : Tgs.nil.den c [] ρ S = .ok ρ S := by simp only [Tgs.den]
def gs2 (c : Cfg) (ts : Tgs) (vs : List PV) (r : R Env) : R Env := match r with
  | .ok ρ1 S1 => (match ts.den c vs ρ1 S1 with
        | .ok ρ2 S2 => .ok ρ2 S2
        | _ => .out)
  | _ => .out
@[simp] theorem gs2_ok {ts : Tgs} {vs : List PV} : gs2 c ts vs (.ok ρ S) = eat (ts.den c vs ρ S) := by
  unfold gs2 eat; rfl
@[simp] theorem gs_cons {t : Tg} {ts : Tgs} {v : PV} {vs : List PV} : (Tgs.cons t ts).den c (v :: vs) ρ S = gs2 c ts vs (t.den c v ρ S) := by
  simp only [Tgs.den]; unfold gs2; rfl
/-- a field is stored -/
def gfQ (c : Cfg) (ρ : Env) (f : Str) (v : PV) (S : Store) (o : Option (Nat × Str × List (Str × PV))) : R Env := match o with
  | some (n, C, fs) => if fs.length < 1000 ∧ ((fs.lookup f).isSome = true ∨ f ∈ c.attrs C) then .ok ρ (S.set n (.ins C (putF f v fs))) else .out
  | none => .out
@[simp] theorem gfQ_some {f : Str} {v : PV} {n : Nat} {C : Str} {fs : List (Str × PV)} : gfQ c ρ f v S (some (n, C, fs)) = if fs.length < 1000 ∧ ((fs.lookup f).isSome = true ∨ f ∈ c.attrs C) then .ok ρ (S.set n (.ins C (putF f v fs))) else .out := Eq.trans rfl rfl
def gfX (c : Cfg) (ρ : Env) (f : Str) (v : PV) (x : PV) (S : Store) : R Env := gfQ c ρ f v S (insAt S x)
@[simp] theorem gfX_eq {f : Str} {v x : PV} : gfX c ρ f v x S = gfQ c ρ f v S (insAt S x) := Eq.trans rfl rfl
@[simp] theorem g_fld {o : E} {f : Str} {v : PV} : (Tg.fld o f).den c v ρ S = (o.den c ρ S).bind (gfX c ρ f v) := by
  simp only [Tg.den]
  congr 1; funext x S1
  unfold gfX insAt
  cases x <;> try rfl
  rename_i n
  dsimp only
  cases e : S1[n]? with
  | none => rfl
  | some o => cases o <;> rfl
/-- an item is stored -/
def putI (S : Store) (x y v : PV) : Option Store := match x with
  | .cell n => match S[n]?, y with
    | some (.lst xs), .int k => match L2.ixN xs.length k with
      | some j => some (S.set n (.lst (xs.set j v)))
      | none => none
    | some (.dct t ks vs), k => match keyOf t k with
      | some d => if ks.length < lim then some (S.set n (.dct t (putK t k d v ks vs).1 (putK t k d v ks vs).2)) else none
      | none => none
    | _, _ => none
  | _ => none
def stO (o : Option Store) (ρ : Env) : R Env := match o with
  | some S => .ok ρ S
  | none => .out
@[simp] theorem stO_some : stO (some S) ρ = .ok ρ S := Eq.trans rfl rfl
def gsK (ρ : Env) (v x y : PV) (S : Store) : R Env := stO (putI S x y v) ρ
@[simp] theorem gsK_eq {v x y : PV} : gsK ρ v x y S = stO (putI S x y v) ρ := Eq.trans rfl rfl
@[simp] theorem g_sub {o i : E} {v : PV} : (Tg.sub o i).den c v ρ S = (o.den c ρ S).bind (k2 c ρ i (gsK ρ v)) := by
  simp only [Tg.den]
  congr 1; funext x S1
  unfold k2
  congr 1; funext y S2
  unfold gsK putI stO
  cases x <;> try rfl
  rename_i n
  dsimp only
  cases e : S2[n]? with
  | none => rfl
  | some o =>
    cases o with
    | lst xs =>
      cases y <;> try rfl
      rename_i k
      dsimp only
      cases L2.ixN xs.length k <;> rfl
    | dct t ks vs =>
      dsimp only
      cases keyOf t y with
      | none => rfl
      | some d =>
        dsimp only
        split <;> rfl
    | ins C fs => rfl
theorem putI_lst {n : Nat} {xs : List PV} {k : Int} {v : PV} {j : Nat} (h : S[n]? = some (.lst xs)) (hj : L2.ixN xs.length k = some j) : putI S (.cell n) (.int k) v = some (S.set n (.lst (xs.set j v))) := by
  unfold putI
  simp only [h, hj]
/-! statements -/
theorem denB_eq {e : E} : e.denB c ρ S = (e.den c ρ S).bind tstK := rfl
@[simp] theorem s_nil' : Sts.nil.den c ρ S = .nx ρ S := by simp only [Sts.den]
@[simp] theorem s_cons' {s : St} {r : Sts} : (Sts.cons s r).den c ρ S = SR.thn c r (s.den c ρ S) := by
  simp only [Sts.den]; unfold SR.thn; rfl
def exprR (ρ : Env) (r : R PV) : SR := onR ρ r fun _ S1 => .nx ρ S1
@[simp] theorem exprR_ok {v : PV} : exprR ρ (.ok v S) = .nx ρ S := Eq.trans rfl rfl
@[simp] theorem exprR_exc {x : Str} {v : PV} : exprR ρ (.exc x v S) = .exc x v ρ S := Eq.trans rfl rfl
@[simp] theorem zs_expr {e : E} : (St.expr e).den c ρ S = exprR ρ (e.den c ρ S) := by simp only [St.den]; rfl
def asgG (ρ : Env) (r : R Env) : SR := onR ρ r fun ρ1 S2 => .nx ρ1 S2
@[simp] theorem asgG_ok {ρ1 : Env} : asgG ρ (.ok ρ1 S) = .nx ρ1 S := Eq.trans rfl rfl
def asgR (c : Cfg) (ρ : Env) (t : Tg) (r : R PV) : SR := onR ρ r fun v S1 => asgG ρ (t.den c v ρ S1)
@[simp] theorem asgR_ok {t : Tg} {v : PV} : asgR c ρ t (.ok v S) = asgG ρ (t.den c v ρ S) := Eq.trans rfl rfl
@[simp] theorem asgR_exc {t : Tg} {x : Str} {v : PV} : asgR c ρ t (.exc x v S) = .exc x v ρ S := Eq.trans rfl rfl
@[simp] theorem zs_asg {t : Tg} {e : E} : (St.asg t e).den c ρ S = asgR c ρ t (e.den c ρ S) := by simp only [St.den]; rfl
def parR (ρ : Env) (is : List Nat) (r : R (List PV)) : SR := onR ρ r fun vs S1 => .nx (setAll is vs ρ) S1
@[simp] theorem parR_ok {is : List Nat} {vs : List PV} : parR ρ is (.ok vs S) = .nx (setAll is vs ρ) S := Eq.trans rfl rfl
@[simp] theorem zs_par {is : List Nat} {es : Es} : (St.par is es).den c ρ S = parR ρ is (es.den c ρ S) := by simp only [St.den]; rfl
@[simp] theorem setAll_cons {i : Nat} {is : List Nat} {v : PV} {vs : List PV} : setAll (i :: is) (v :: vs) ρ = setAll is vs (ρ.set i (some v)) := Eq.trans rfl rfl
@[simp] theorem setAll_nil {vs : List PV} : setAll [] vs ρ = ρ := by cases vs <;> rfl
def augE (ρ : Env) (i : Nat) (r : R PV) : SR := onR ρ r fun z S2 => .nx (ρ.set i (some z)) S2
@[simp] theorem augE_ok {i : Nat} {z : PV} : augE ρ i (.ok z S) = .nx (ρ.set i (some z)) S := Eq.trans rfl rfl
def augV (ρ : Env) (op : Bop) (i : Nat) (x : PV) (r : R PV) : SR := onR ρ r fun y S => match x, y with
  | .int a, .int b => augE ρ i (ofO (binop S op (.int a) (.int b)) S)
  | _, _ => .out
@[simp] theorem augV_int {op : Bop} {i : Nat} {a b : Int} : augV ρ op i (.int a) (.ok (.int b) S) = augE ρ i (ofO (binop S op (.int a) (.int b)) S) := Eq.trans rfl rfl
def augX (c : Cfg) (ρ : Env) (op : Bop) (i : Nat) (e : E) (S : Store) (o : Option (Option PV)) : SR := match o with
  | some (some x) => augV ρ op i x (e.den c ρ S)
  | _ => .out
@[simp] theorem augX_some {op : Bop} {i : Nat} {e : E} {x : PV} : augX c ρ op i e S (some (some x)) = augV ρ op i x (e.den c ρ S) := Eq.trans rfl rfl
@[simp] theorem zs_aug {i : Nat} {op : Bop} {e : E} : (St.aug i op e).den c ρ S = augX c ρ op i e S ρ[i]? := by
  simp only [St.den]
  unfold augX
  cases ρ[i]? with
  | none => rfl
  | some o => cases o with
    | none => rfl
    | some x =>
      show onR ρ (e.den c ρ S) _ = onR ρ (e.den c ρ S) _
      congr 1
/-- one branch or the other -/
def bra (c : Cfg) (ρ : Env) (a b : Sts) (r : R Bool) : SR := match r with
  | .ok t S => if t = true then a.den c ρ S else b.den c ρ S
  | .exc x v S => .exc x v ρ S
  | .out => .out
@[simp] theorem bra_ok {a b : Sts} {t : Bool} : bra c ρ a b (.ok t S) = if t = true then a.den c ρ S else b.den c ρ S := Eq.trans rfl rfl
@[simp] theorem zs_ite {d : E} {a b : Sts} : (St.ite d a b).den c ρ S = bra c ρ a b ((d.den c ρ S).bind tstK) := by
  simp only [St.den]
  show onR ρ ((d.den c ρ S).bind tstK) _ = _
  cases (d.den c ρ S).bind tstK <;> rfl
def retR (ρ : Env) (r : R PV) : SR := onR ρ r fun v S1 => .rt v ρ S1
@[simp] theorem retR_ok {v : PV} : retR ρ (.ok v S) = .rt v ρ S := Eq.trans rfl rfl
@[simp] theorem retR_exc {x : Str} {v : PV} : retR ρ (.exc x v S) = .exc x v ρ S := Eq.trans rfl rfl
@[simp] theorem zs_ret {e : E} : (St.ret e).den c ρ S = retR ρ (e.den c ρ S) := by simp only [St.den]; rfl
@[simp] theorem zs_retN : St.retN.den c ρ S = .rt .non ρ S := by simp only [St.den]
def rseR (ρ : Env) (x : Str) (r : R PV) : SR := onR ρ r fun v S1 => .exc x v ρ S1
@[simp] theorem rseR_ok {x : Str} {v : PV} : rseR ρ x (.ok v S) = .exc x v ρ S := Eq.trans rfl rfl
@[simp] theorem zs_rse {x : Str} {e : E} : (St.rse x e).den c ρ S = rseR ρ x (e.den c ρ S) := by simp only [St.den]; rfl
@[simp] theorem zs_pass : St.pass.den c ρ S = .nx ρ S := by simp only [St.den]
@[simp] theorem zs_brk : St.brk.den c ρ S = .bk ρ S := by simp only [St.den]
@[simp] theorem zs_cont : St.cont.den c ρ S = .ct ρ S := by simp only [St.den]
/-- an error is caught and told -/
def tryR (c : Cfg) (x h : Str) (i : Nat) (r : SR) : SR := match r with
    | .exc y v ρ1 S1 => if y ∈ c.errs then (if x ∈ y :: c.sub y then (match c.hot h y v with
      | some w => if i < ρ1.length ∧ w.length ≤ lim then .rt (.str w) ρ1 S1 else .out
      | none => .out) else .exc y v ρ1 S1) else .out
    | r => r
@[simp] theorem zs_try {b : Sts} {x h : Str} {i : Nat} : (St.try_ b x h i).den c ρ S = tryR c x h i (b.den c ρ S) := by
  simp only [St.den]
  unfold tryR
  rfl
@[simp] theorem tryR_rt {x h : Str} {i : Nat} {v : PV} : tryR c x h i (.rt v ρ S) = .rt v ρ S := Eq.trans rfl rfl
@[simp] theorem tryR_nx {x h : Str} {i : Nat} : tryR c x h i (.nx ρ S) = .nx ρ S := Eq.trans rfl rfl
theorem tryR_exc {x h : Str} {i : Nat} {y : Str} {v : PV} {w : Str} (h1 : y ∈ c.errs) (h2 : x ∈ y :: c.sub y) (h3 : c.hot h y v = some w) (h4 : i < ρ.length) (h5 : w.length ≤ lim) : tryR c x h i (.exc y v ρ S) = .rt (.str w) ρ S := by
  unfold tryR
  dsimp only
  rw [if_pos h1, if_pos h2, h3]
  dsimp only
  rw [if_pos ⟨h4, h5⟩]
/-- a loop's turn -/
def turnG (c : Cfg) (ρ : Env) (b : Sts) (r : R Env) : SR := onR ρ r fun ρ2 S3 => b.den c ρ2 S3
@[simp] theorem turnG_ok {b : Sts} {ρ2 : Env} : turnG c ρ b (.ok ρ2 S) = b.den c ρ2 S := Eq.trans rfl rfl
def turn (c : Cfg) (t : Tg) (b : Sts) (x : PV) (ρ : Env) (S : Store) : SR := turnG c ρ b (t.den c x ρ S)
/-- a loop over what stands there -/
def walk (c : Cfg) (t : Tg) (b : Sts) (xs : List PV) (ρ : Env) (S : Store) : SR := forLoop (turn c t b) xs ρ S
def fo (c : Cfg) (t : Tg) (b : Sts) (ρ : Env) (r : R Src) : SR := match r with
  | .ok (.fix xs) S => walk c t b xs ρ S
  | .ok (.cel n) S => forCell (turn c t b) n c.fuel 0 ρ S
  | .exc x v S => .exc x v ρ S
  | .out => .out
@[simp] theorem fo_fix {t : Tg} {b : Sts} {xs : List PV} : fo c t b ρ (.ok (.fix xs) S) = walk c t b xs ρ S := Eq.trans rfl rfl
@[simp] theorem s_fo {t : Tg} {it : It} {b : Sts} : (St.fo t it b).den c ρ S = fo c t b ρ (it.den c ρ S) := by
  simp only [St.den]
  cases it.den c ρ S with
  | ok s S1 => cases s <;> rfl
  | exc x v S1 => rfl
  | out => rfl
@[simp] theorem walk_nil {t : Tg} {b : Sts} : walk c t b [] ρ S = .nx ρ S := Eq.trans rfl rfl
/-- the rest of a loop -/
def wlk (c : Cfg) (t : Tg) (b : Sts) (xs : List PV) (r : SR) : SR := match r with
  | .nx ρ1 S1 => walk c t b xs ρ1 S1
  | .ct ρ1 S1 => walk c t b xs ρ1 S1
  | .bk ρ1 S1 => .nx ρ1 S1
  | r => r
theorem walk_cons {t : Tg} {b : Sts} {x : PV} {xs : List PV} : walk c t b (x :: xs) ρ S = wlk c t b xs (turn c t b x ρ S) := by
  show forLoop (turn c t b) (x :: xs) ρ S = _
  unfold forLoop wlk walk
  cases turn c t b x ρ S <;> rfl
@[simp] theorem wlk_nx {t : Tg} {b : Sts} {xs : List PV} : wlk c t b xs (.nx ρ S) = walk c t b xs ρ S := Eq.trans rfl rfl
@[simp] theorem wlk_ct {t : Tg} {b : Sts} {xs : List PV} : wlk c t b xs (.ct ρ S) = walk c t b xs ρ S := Eq.trans rfl rfl
@[simp] theorem wlk_bk {t : Tg} {b : Sts} {xs : List PV} : wlk c t b xs (.bk ρ S) = .nx ρ S := Eq.trans rfl rfl
@[simp] theorem wlk_rt {t : Tg} {b : Sts} {xs : List PV} {v : PV} : wlk c t b xs (.rt v ρ S) = .rt v ρ S := Eq.trans rfl rfl
@[simp] theorem wlk_exc {t : Tg} {b : Sts} {xs : List PV} {x : Str} {v : PV} : wlk c t b xs (.exc x v ρ S) = .exc x v ρ S := Eq.trans rfl rfl
theorem turn_eq {t : Tg} {b : Sts} {x : PV} : turn c t b x ρ S = turnG c ρ b (t.den c x ρ S) := rfl
/-- an invariant over the turns -/
theorem walk_inv {t : Tg} {b : Sts} {xs : List PV} (I : Nat → Env → Store → Prop) (h0 : I 0 ρ S) (hs : ∀ i x ρ S, xs[i]? = some x → I i ρ S → ∃ ρ' S', (turn c t b x ρ S = .nx ρ' S' ∨ turn c t b x ρ S = .ct ρ' S') ∧ I (i + 1) ρ' S') :
    ∃ ρ' S', walk c t b xs ρ S = .nx ρ' S' ∧ I xs.length ρ' S' := by
  have key : ∀ (ys : List PV) (i : Nat) (ρ : Env) (S : Store), xs.drop i = ys → i ≤ xs.length → I i ρ S → ∃ ρ' S', walk c t b ys ρ S = .nx ρ' S' ∧ I xs.length ρ' S' := by
    intro ys
    induction ys with
    | nil =>
      intro i ρ S e l h
      have : xs.length ≤ i := List.drop_eq_nil_iff.mp e
      have : i = xs.length := by omega
      subst this
      exact ⟨ρ, S, rfl, h⟩
    | cons y ys ih =>
      intro i ρ S e l h
      have hi : i < xs.length := by
        by_cases z : i < xs.length
        · exact z
        · rw [List.drop_eq_nil_iff.mpr (by omega)] at e; cases e
      have e1 : xs[i]? = some y := by
        have := List.getElem?_drop (xs := xs) (i := i) (j := 0)
        rw [e] at this
        simpa using this.symm
      have e2 : xs.drop (i + 1) = ys := by
        rw [← List.drop_drop, e]; rfl
      obtain ⟨ρ', S', ht, h'⟩ := hs i y ρ S e1 h
      obtain ⟨ρ2, S2, hw, h2⟩ := ih (i + 1) ρ' S' e2 hi h'
      refine ⟨ρ2, S2, ?_, h2⟩
      rw [walk_cons]
      rcases ht with ht | ht <;> rw [ht] <;> exact hw
  exact key xs 0 ρ S rfl (Nat.zero_le _) h0
/-- a loop that hands back or raises at its first item that p picks, and else changes nothing but what it forgets -/
theorem walk_find {t : Tg} {b : Sts} {xs : List PV} (I : Env → Prop) (r : SR → Prop) (p : PV → Bool) (h0 : I ρ) (hs : ∀ x ∈ xs, ∀ ρ, I ρ → if p x = true then r (turn c t b x ρ S) ∧ ∀ ys, wlk c t b ys (turn c t b x ρ S) = turn c t b x ρ S else ∃ ρ', (turn c t b x ρ S = .nx ρ' S ∨ turn c t b x ρ S = .ct ρ' S) ∧ I ρ') :
    if xs.any p = true then r (walk c t b xs ρ S) else ∃ ρ', walk c t b xs ρ S = .nx ρ' S ∧ I ρ' := by
  induction xs generalizing ρ with
  | nil => exact ⟨ρ, rfl, h0⟩
  | cons x xs ih =>
    have h := hs x List.mem_cons_self ρ h0
    rw [walk_cons, List.any_cons]
    by_cases px : p x = true
    · rw [if_pos px] at h
      rw [px, Bool.true_or, if_pos rfl, h.2]
      exact h.1
    · rw [if_neg px] at h
      have : p x = false := by simpa using px
      rw [this, Bool.false_or]
      obtain ⟨ρ', ht, h'⟩ := h
      have := ih h' (fun y hy => hs y (List.mem_cons_of_mem _ hy))
      rcases ht with ht | ht <;> rw [ht] <;> exact this
/-! ### walks' sources -/
def sqS (x : PV) (S : Store) : R Src := match x with
    | .tup xs => .ok (.fix xs) S
    | .lst xs => .ok (.fix xs) S
    | .frz xs => .ok (.fix xs) S
    | .wtup xs => .ok (.fix xs) S
    | .ktup xs => .ok (.fix xs) S
    | .cell n => if (listOf S (.cell n)).isSome = true then .ok (.cel n) S else .out
    | .str x => .ok (.fix (x.cps.toList.map fun z => .str ⟨#[z]⟩)) S
    | _ => .out
@[simp] theorem sqS_tup {xs : List PV} : sqS (.tup xs) S = .ok (.fix xs) S := Eq.trans rfl rfl
@[simp] theorem sqS_lst {xs : List PV} : sqS (.lst xs) S = .ok (.fix xs) S := Eq.trans rfl rfl
@[simp] theorem sqS_frz {xs : List PV} : sqS (.frz xs) S = .ok (.fix xs) S := Eq.trans rfl rfl
@[simp] theorem sqS_wtup {xs : List PV} : sqS (.wtup xs) S = .ok (.fix xs) S := Eq.trans rfl rfl
@[simp] theorem sqS_ktup {xs : List PV} : sqS (.ktup xs) S = .ok (.fix xs) S := Eq.trans rfl rfl
@[simp] theorem sqS_str {x : Str} : sqS (.str x) S = .ok (.fix (x.cps.toList.map fun z => .str ⟨#[z]⟩)) S := Eq.trans rfl rfl
@[simp] theorem it_seq {a : E} : (It.seq a).den c ρ S = (a.den c ρ S).bind sqS := by simp only [It.den]; rfl
def rg1 (y : PV) (S : Store) : R Src := match y with
  | .int j => if small j ∧ j.toNat ≤ lim then .ok (.fix (rangeP 0 1 j.toNat)) S else .out
  | _ => .out
theorem rg1_int {j : Int} (h : j ≤ 1000000) (h0 : 0 ≤ j) : rg1 (.int j) S = .ok (.fix (rangeP 0 1 j.toNat)) S := by
  show (if small j ∧ j.toNat ≤ lim then R.ok (Src.fix (rangeP 0 1 j.toNat)) S else .out) = _
  rw [if_pos ⟨⟨by omega, by omega⟩, by show _ ≤ 16777216; omega⟩]
@[simp] theorem it_rng1 {a : E} : (It.rng1 a).den c ρ S = (a.den c ρ S).bind rg1 := by simp only [It.den]; rfl
def rg2 (x y : PV) (S : Store) : R Src := match x, y with
  | .int i, .int j => if small i ∧ small j ∧ (j - i).toNat ≤ lim then .ok (.fix (rangeP i 1 (j - i).toNat)) S else .out
  | _, _ => .out
theorem rg2_int {i j : Int} (h : -1000000 ≤ i) (h1 : i ≤ 1000000) (h2 : -1000000 ≤ j) (h3 : j ≤ 1000000) : rg2 (.int i) (.int j) S = .ok (.fix (rangeP i 1 (j - i).toNat)) S := by
  show (if small i ∧ small j ∧ (j - i).toNat ≤ lim then R.ok (Src.fix (rangeP i 1 (j - i).toNat)) S else .out) = _
  rw [if_pos ⟨⟨by omega, by omega⟩, ⟨by omega, by omega⟩, by show _ ≤ 16777216; omega⟩]
@[simp] theorem it_rng2 {a b : E} : (It.rng2 a b).den c ρ S = (a.den c ρ S).bind (k2 c ρ b rg2) := by simp only [It.den]; rfl
def rgD (x y : PV) (S : Store) : R Src := match x, y with
  | .int i, .int j => if small i ∧ small j ∧ (i - j).toNat ≤ lim then .ok (.fix (rangeP i (-1) (i - j).toNat)) S else .out
  | _, _ => .out
theorem rgD_int {i j : Int} (h : -1000000 ≤ i) (h1 : i ≤ 1000000) (h2 : -1000000 ≤ j) (h3 : j ≤ 1000000) : rgD (.int i) (.int j) S = .ok (.fix (rangeP i (-1) (i - j).toNat)) S := by
  show (if small i ∧ small j ∧ (i - j).toNat ≤ lim then R.ok (Src.fix (rangeP i (-1) (i - j).toNat)) S else .out) = _
  rw [if_pos ⟨⟨by omega, by omega⟩, ⟨by omega, by omega⟩, by show _ ≤ 16777216; omega⟩]
@[simp] theorem it_rngD {a b : E} : (It.rngD a b).den c ρ S = (a.den c ρ S).bind (k2 c ρ b rgD) := by simp only [It.den]; rfl
def enS (x : PV) (S : Store) : R Src := match x with
    | .tup xs => .ok (.fix (enumP 0 xs)) S
    | .ktup xs => .ok (.fix (enumP 0 xs)) S
    | .lst xs => .ok (.fix (enumP 0 xs)) S
    | _ => .out
@[simp] theorem enS_tup {xs : List PV} : enS (.tup xs) S = .ok (.fix (enumP 0 xs)) S := Eq.trans rfl rfl
@[simp] theorem enS_lst {xs : List PV} : enS (.lst xs) S = .ok (.fix (enumP 0 xs)) S := Eq.trans rfl rfl
@[simp] theorem it_enm {a : E} : (It.enm a).den c ρ S = (a.den c ρ S).bind enS := by simp only [It.den]; rfl
def zpS (x y : PV) (S : Store) : R Src := match x, y with
    | .tup xs, .tup ys => .ok (.fix (zipP xs ys)) S
    | .lst xs, .lst ys => .ok (.fix (zipP xs ys)) S
    | _, _ => .out
@[simp] theorem zpS_tup {xs ys : List PV} : zpS (.tup xs) (.tup ys) S = .ok (.fix (zipP xs ys)) S := Eq.trans rfl rfl
@[simp] theorem zpS_lst {xs ys : List PV} : zpS (.lst xs) (.lst ys) S = .ok (.fix (zipP xs ys)) S := Eq.trans rfl rfl
@[simp] theorem it_zip {a b : E} : (It.zip a b).den c ρ S = (a.den c ρ S).bind (k2 c ρ b zpS) := by simp only [It.den]; rfl
/-! ### comprehensions -/
def someK (y : PV) (S : Store) : R (Option PV) := .ok (some y) S
@[simp] theorem someK_eq {y : PV} : someK y S = .ok (some y) S := Eq.trans rfl rfl
def cndK (c : Cfg) (ρ : Env) (e : E) (t : Bool) (S : Store) : R (Option PV) := if t = true then (e.den c ρ S).bind someK else .ok none S
@[simp] theorem cndK_eq {e : E} {t : Bool} : cndK c ρ e t S = if t = true then (e.den c ρ S).bind someK else .ok none S := Eq.trans rfl rfl
def cmpK2 (c : Cfg) (e : E) (cond : Eo) (ρ : Env) (S : Store) : R (Option PV) := (cond.denB c ρ S).bind (cndK c ρ e)
@[simp] theorem cmpK2_eq {e : E} {cond : Eo} : cmpK2 c e cond ρ S = (cond.denB c ρ S).bind (cndK c ρ e) := Eq.trans rfl rfl
def cmpStep (c : Cfg) (ρ : Env) (e : E) (tg : Tg) (cond : Eo) (own : List Nat) (x : PV) (S : Store) : R (Option PV) :=
  (tg.den c x (wipe ρ own) S).bind (cmpK2 c e cond)
def pairK (y z : PV) (S : Store) : R (Option PV) := .ok (some (.tup [y, z])) S
@[simp] theorem pairK_eq {y z : PV} : pairK y z S = .ok (some (.tup [y, z])) S := Eq.trans rfl rfl
def kvK (c : Cfg) (k v : E) (ρ : Env) (S : Store) : R (Option PV) := (k.den c ρ S).bind (k2 c ρ v pairK)
@[simp] theorem kvK_eq {k v : E} : kvK c k v ρ S = (k.den c ρ S).bind (k2 c ρ v pairK) := Eq.trans rfl rfl
def kvStep (c : Cfg) (ρ : Env) (k v : E) (tg : Tg) (own : List Nat) (x : PV) (S : Store) : R (Option PV) := (tg.den c x (wipe ρ own) S).bind (kvK c k v)
theorem cmp_pure {chk : Store → Bool} {f : PV → Store → R (Option PV)} (g : PV → Option PV) : ∀ {xs : List PV}, chk S = true → (∀ x ∈ xs, f x S = .ok (g x) S) → compLoop chk f xs S = .ok (xs.filterMap g) S
  | [], hc, _ => by
    unfold compLoop
    rw [if_pos hc]; rfl
  | x :: xs, hc, h => by
    unfold compLoop
    rw [if_pos hc, h x List.mem_cons_self]
    dsimp only
    rw [cmp_pure g hc fun y hy => h y (List.mem_cons_of_mem _ hy)]
    dsimp only
    cases e : g x with
    | none => rw [List.filterMap_cons_none e]; rfl
    | some y => rw [List.filterMap_cons_some e]; rfl
/-- what it walks over -/
def srcOf (S : Store) (r : R Src) : Option (List PV × Store) := match r with
  | .ok s S1 => (srcItems S1 s).map fun xs => (xs, S1)
  | _ => none
theorem f_comp {e : E} {tg : Tg} {it : It} {cond : Eo} {own : List Nat} (g : PV → Option PV) {xs : List PV} (hi : it.den c ρ S = .ok (.fix xs) S) (h : ∀ x ∈ xs, cmpStep c ρ e tg cond own x S = .ok (g x) S) : (F.comp e tg it cond own).den c ρ S = .ok (xs.filterMap g) S := by
  simp only [F.den, hi, R.bind_ok, srcItems]
  exact cmp_pure g rfl h
/-- every item is kept -/
theorem f_map {e : E} {tg : Tg} {it : It} {own : List Nat} (g : PV → PV) {xs : List PV} (hi : it.den c ρ S = .ok (.fix xs) S) (h : ∀ x ∈ xs, cmpStep c ρ e tg .none own x S = .ok (some (g x)) S) : (F.comp e tg it .none own).den c ρ S = .ok (xs.map g) S := by
  rw [f_comp (fun x => some (g x)) hi h, List.filterMap_eq_map']
theorem e_dcomp {t : Bool} {k v : E} {tg : Tg} {it : It} {own : List Nat} (g : PV → PV) {xs : List PV} {ks vs : List PV} (hi : it.den c ρ S = .ok (.fix xs) S) (h : ∀ x ∈ xs, kvStep c ρ k v tg own x S = .ok (some (g x)) S) (hp : putAll t (xs.map g) ([], []) = some (ks, vs)) :
    (E.dcomp t k v tg it own).den c ρ S = .ok (.dct t ks vs) S := by
  simp only [E.den, hi, R.bind_ok, srcItems]
  have e := cmp_pure (chk := srcChk (.fix xs) xs) (fun x => some (g x)) rfl h
  rw [List.filterMap_eq_map'] at e
  show ((compLoop (srcChk (.fix xs) xs) (kvStep c ρ k v tg own) xs S).bind _) = _
  rw [e, R.bind_ok, hp]
/-- a comprehension that draws -/
theorem cmp_inv {f : PV → Store → R (Option PV)} {chk : Store → Bool} (hc : ∀ S, chk S = true) (I : Nat → List PV → Store → Prop) : ∀ {xs : List PV} {i : Nat} {acc : List PV} {S : Store}, I i acc S → (∀ j x acc S, xs[j]? = some x → I (i + j) acc S → ∃ o S', f x S = .ok o S' ∧ I (i + j + 1) (acc ++ o.toList) S') →
    ∃ ys S', compLoop chk f xs S = .ok ys S' ∧ I (i + xs.length) (acc ++ ys) S'
  | [], i, acc, S, h, _ => by
    refine ⟨[], S, ?_, by simpa using h⟩
    unfold compLoop
    rw [if_pos (hc S)]
  | x :: xs, i, acc, S, h, hs => by
    obtain ⟨o, S1, e1, h1⟩ := hs 0 x acc S rfl (by simpa using h)
    obtain ⟨ys, S2, e2, h2⟩ := cmp_inv hc I (xs := xs) (i := i + 1) (acc := acc ++ o.toList) (S := S1) (by simpa using h1) fun j y acc' S' ej hj => by
      have := hs (j + 1) y acc' S' (by simpa using ej) (by rw [← Nat.add_assoc, Nat.add_right_comm]; exact hj)
      rwa [show i + (j + 1) + 1 = i + 1 + j + 1 by omega] at this
    refine ⟨o.toList ++ ys, S2, ?_, ?_⟩
    · unfold compLoop
      rw [if_pos (hc S), e1]
      dsimp only
      rw [e2]
    · rw [show i + (x :: xs).length = i + 1 + xs.length by simp; omega, ← List.append_assoc]; exact h2
theorem f_inv {e : E} {tg : Tg} {it : It} {cond : Eo} {own : List Nat} {xs : List PV} (I : Nat → List PV → Store → Prop) (hi : it.den c ρ S = .ok (.fix xs) S) (h0 : I 0 [] S) (h : ∀ i x acc S, xs[i]? = some x → I i acc S → ∃ o S', cmpStep c ρ e tg cond own x S = .ok o S' ∧ I (i + 1) (acc ++ o.toList) S') :
    ∃ ys S', (F.comp e tg it cond own).den c ρ S = .ok ys S' ∧ I xs.length ys S' := by
  obtain ⟨ys, S', e1, h1⟩ := cmp_inv (chk := srcChk (.fix xs) xs) (f := fun x S' => cmpStep c ρ e tg cond own x S') (fun _ => rfl) I h0 fun j x acc S ej hj => by
    have := h j x acc S ej (by simpa using hj)
    simpa using this
  refine ⟨ys, S', ?_, by simpa using h1⟩
  simp only [F.den, hi, R.bind_ok, srcItems]
  exact e1
end
end Pz
end
section
set_option Elab.async false
set_option linter.all false
set_option maxRecDepth 100000
set_option maxHeartbeats 800000
/-! Pz: values. -/
namespace Pz
open PySem
section
variable {S : Store}
@[simp] theorem tr_bl {b : Bool} : truthy S (.bl b) = some b := Eq.trans rfl rfl
@[simp] theorem tr_non : truthy S .non = some false := Eq.trans rfl rfl
@[simp] theorem tr_int {i : Int} : truthy S (.int i) = some (i != 0) := Eq.trans rfl rfl
@[simp] theorem tr_tup {xs : List PV} : truthy S (.tup xs) = some (!xs.isEmpty) := Eq.trans rfl rfl
@[simp] theorem tr_ktup {xs : List PV} : truthy S (.ktup xs) = some (!xs.isEmpty) := Eq.trans rfl rfl
@[simp] theorem tr_lst {xs : List PV} : truthy S (.lst xs) = some (!xs.isEmpty) := Eq.trans rfl rfl
@[simp] theorem lo_lst {xs : List PV} : listOf S (.lst xs) = some xs := Eq.trans rfl rfl
theorem lo_cell {n : Nat} {xs : List PV} (h : S[n]? = some (.lst xs)) : listOf S (.cell n) = some xs := by simp only [listOf, h]
@[simp] theorem sq_tup {xs : List PV} : seqOf S (.tup xs) = some xs := Eq.trans rfl rfl
@[simp] theorem sq_ktup {xs : List PV} : seqOf S (.ktup xs) = some xs := Eq.trans rfl rfl
@[simp] theorem sq_wtup {xs : List PV} : seqOf S (.wtup xs) = some xs := Eq.trans rfl rfl
@[simp] theorem sq_frz {xs : List PV} : seqOf S (.frz xs) = some xs := Eq.trans rfl rfl
@[simp] theorem sq_lst {xs : List PV} : seqOf S (.lst xs) = some xs := Eq.trans rfl rfl
theorem sq_cell {n : Nat} {xs : List PV} (h : S[n]? = some (.lst xs)) : seqOf S (.cell n) = some xs := by
  show listOf S (.cell n) = _
  exact lo_cell h
@[simp] theorem to_tup {xs : List PV} : tupOf (.tup xs) = some xs := Eq.trans rfl rfl
@[simp] theorem to_ktup {xs : List PV} : tupOf (.ktup xs) = some xs := Eq.trans rfl rfl
@[simp] theorem to_wtup {xs : List PV} : tupOf (.wtup xs) = some xs := Eq.trans rfl rfl
@[simp] theorem do_tup {xs : List PV} : dictOf S (.tup xs) = none := Eq.trans rfl rfl
@[simp] theorem do_ktup {xs : List PV} : dictOf S (.ktup xs) = none := Eq.trans rfl rfl
@[simp] theorem do_lst {xs : List PV} : dictOf S (.lst xs) = none := Eq.trans rfl rfl
@[simp] theorem do_frz {xs : List PV} : dictOf S (.frz xs) = none := Eq.trans rfl rfl
@[simp] theorem do_wtup {xs : List PV} : dictOf S (.wtup xs) = none := Eq.trans rfl rfl
@[simp] theorem do_str {x : Str} : dictOf S (.str x) = none := Eq.trans rfl rfl
@[simp] theorem do_dct {t : Bool} {ks vs : List PV} : dictOf S (.dct t ks vs) = some (t, ks, vs) := Eq.trans rfl rfl
theorem do_cell {n : Nat} {xs : List PV} (h : S[n]? = some (.lst xs)) : dictOf S (.cell n) = none := by simp only [dictOf, h]
/-! operators on whole numbers -/
@[simp] theorem bo_add {i j : Int} : binop S .add (.int i) (.int j) = some (.int (i + j)) := Eq.trans rfl rfl
@[simp] theorem bo_sub {i j : Int} : binop S .sub (.int i) (.int j) = some (.int (i - j)) := Eq.trans rfl rfl
theorem bo_mul {i j : Int} (h : smallI i = true ∨ smallI j = true) : binop S .mul (.int i) (.int j) = some (.int (i * j)) := by
  show (if _ then _ else _) = _
  rw [if_pos h]
theorem bo_mulL {i j : Int} (h1 : -(2 ^ 64) < i) (h2 : i < 2 ^ 64) : binop S .mul (.int i) (.int j) = some (.int (i * j)) := bo_mul (.inl (by unfold smallI; rw [decide_eq_true h1, decide_eq_true h2]; rfl))
theorem bo_mulR {i j : Int} (h1 : -(2 ^ 64) < j) (h2 : j < 2 ^ 64) : binop S .mul (.int i) (.int j) = some (.int (i * j)) := bo_mul (.inr (by unfold smallI; rw [decide_eq_true h1, decide_eq_true h2]; rfl))
theorem bo_fdiv {i j : Int} (h : 0 < j) (h2 : j < 1073741824) : binop S .fdiv (.int i) (.int j) = some (.int (i / j)) := by
  show (if _ then _ else _) = _
  rw [if_pos ⟨h, h2⟩]
theorem bo_mod {i j : Int} (h : 0 < j) : binop S .mod (.int i) (.int j) = some (.int (i % j)) := by
  show (if _ then _ else _) = _
  rw [if_pos h]
theorem bo_tup {xs ys : List PV} (h : xs.length + ys.length ≤ lim) : binop S .add (.tup xs) (.tup ys) = some (.tup (xs ++ ys)) := by
  show (if _ then _ else _) = _
  rw [if_pos h]
theorem bo_lst {xs ys : List PV} (h : xs.length + ys.length ≤ lim) : binop S .add (.lst xs) (.lst ys) = some (.lst (xs ++ ys)) := by
  show (if _ then _ else _) = _
  rw [if_pos h]
theorem bo_str {x y : Str} (h : x.length + y.length ≤ lim) : binop S .add (.str x) (.str y) = some (.str (x ++ y)) := by
  show (if _ then _ else _) = _
  rw [if_pos h]
/-! comparisons -/
theorem cp_int {i j : Int} : shapedO (dataOf S (.int i)) = some (.int i) := by
  show shapedO (some (.int i)) = _
  unfold shapedO SeqAt.shaped
  simp [PyData.canLay0, PyData.depth]
@[simp] theorem eq_int {i j : Int} : cmpop S .eq (.int i) (.int j) = some (.bl (decide (i = j))) := by
  show (match shapedO (dataOf S (.int i)), shapedO (dataOf S (.int j)) with
    | some x, some y => some (PV.bl (PyData.eqv x y))
    | _, _ => none) = _
  rw [cp_int (j := 0), cp_int (j := 0)]
  simp only [PyData.eqv]
  by_cases h : i = j <;> simp [h]
@[simp] theorem ne_int {i j : Int} : cmpop S .ne (.int i) (.int j) = some (.bl (decide (i ≠ j))) := by
  show (match shapedO (dataOf S (.int i)), shapedO (dataOf S (.int j)) with
    | some x, some y => some (PV.bl (!PyData.eqv x y))
    | _, _ => none) = _
  rw [cp_int (j := 0), cp_int (j := 0)]
  simp only [PyData.eqv]
  by_cases h : i = j <;> simp [h]
@[simp] theorem lt_int {i j : Int} : cmpop S .lt (.int i) (.int j) = some (.bl (decide (i < j))) := Eq.trans rfl rfl
@[simp] theorem le_int {i j : Int} : cmpop S .le (.int i) (.int j) = some (.bl (decide (i ≤ j))) := Eq.trans rfl rfl
@[simp] theorem gt_int {i j : Int} : cmpop S .gt (.int i) (.int j) = some (.bl (decide (j < i))) := Eq.trans rfl rfl
@[simp] theorem ge_int {i j : Int} : cmpop S .ge (.int i) (.int j) = some (.bl (decide (j ≤ i))) := Eq.trans rfl rfl
/-! data -/
/-- what == may be asked of: its data -/
def Dat (S : Store) (v : PV) (d : PyData) : Prop := shapedO (dataOf S v) = some d
theorem eq_dat {a b : PV} {x y : PyData} (h1 : Dat S a x) (h2 : Dat S b y) : cmpop S .eq a b = some (.bl (PyData.eqv x y)) := by
  show (match shapedO (dataOf S a), shapedO (dataOf S b) with
    | some x, some y => some (PV.bl (PyData.eqv x y))
    | _, _ => none) = _
  rw [h1, h2]
theorem ne_dat {a b : PV} {x y : PyData} (h1 : Dat S a x) (h2 : Dat S b y) : cmpop S .ne a b = some (.bl (!PyData.eqv x y)) := by
  show (match shapedO (dataOf S a), shapedO (dataOf S b) with
    | some x, some y => some (PV.bl (!PyData.eqv x y))
    | _, _ => none) = _
  rw [h1, h2]
theorem dat_of {v : PV} {d : PyData} (h : dataOf S v = some d) (h1 : d.canLay0 = true) (h2 : d.depth ≤ 64) : Dat S v d := by
  unfold Dat
  rw [h]
  show (if SeqAt.shaped d = true then some d else none) = some d
  rw [if_pos (by unfold SeqAt.shaped; rw [h1, decide_eq_true h2]; rfl)]
theorem dat_int {i : Int} : Dat S (.int i) (.int i) := cp_int (j := 0)
theorem dat_non : Dat S .non .none := dat_of rfl (by simp [PyData.canLay0]) (by simp [PyData.depth])
theorem dat_bl {b : Bool} : Dat S (.bl b) (.bool b) := dat_of rfl (by simp [PyData.canLay0]) (by simp [PyData.depth])
theorem dat_str {x : Str} (h : PyData.strOk x = true) : Dat S (.str x) (.str x) := dat_of rfl (by simpa [PyData.canLay0] using h) (by simp [PyData.depth])
/-! ends of calls -/
@[simp] theorem fin_int {i : Int} : (R.ok (.int i) S).fin S = .ok (.int i) S := fin_ok0 (Nat.zero_le _)
@[simp] theorem fin_bl {b : Bool} : (R.ok (.bl b) S).fin S = .ok (.bl b) S := fin_ok0 (Nat.zero_le _)
@[simp] theorem fin_non : (R.ok .non S).fin S = .ok .non S := fin_ok0 (Nat.zero_le _)
@[simp] theorem fin_str {x : Str} : (R.ok (.str x) S).fin S = .ok (.str x) S := fin_ok0 (Nat.zero_le _)
@[simp] theorem fin_excS {c x : Str} : (R.exc c (.str x) S : R PV).fin S = .exc c (.str x) S := fine_ok0 (Nat.zero_le _)
@[simp] theorem in_int {i : Int} {t : Ty} : inst S (.int i) t = some (decide (t = .int)) := Eq.trans rfl rfl
@[simp] theorem in_bl {b : Bool} {t : Ty} : inst S (.bl b) t = some (decide (t = .int) || decide (t = .bool)) := Eq.trans rfl rfl
@[simp] theorem in_str {x : Str} {t : Ty} : inst S (.str x) t = some (decide (t = .str)) := Eq.trans rfl rfl
@[simp] theorem in_non {t : Ty} : inst S .non t = some false := Eq.trans rfl rfl
@[simp] theorem in_tup {xs : List PV} {t : Ty} : inst S (.tup xs) t = some (decide (t = .tuple)) := Eq.trans rfl rfl
@[simp] theorem in_ktup {xs : List PV} {t : Ty} : inst S (.ktup xs) t = some (decide (t = .tuple)) := Eq.trans rfl rfl
@[simp] theorem in_wtup {xs : List PV} {t : Ty} : inst S (.wtup xs) t = some (decide (t = .tuple)) := Eq.trans rfl rfl
@[simp] theorem in_lst {xs : List PV} {t : Ty} : inst S (.lst xs) t = some (decide (t = .list)) := Eq.trans rfl rfl
@[simp] theorem len_tup {xs : List PV} : bi S .len [.tup xs] = some (.int xs.length) := Eq.trans rfl rfl
@[simp] theorem len_ktup {xs : List PV} : bi S .len [.ktup xs] = some (.int xs.length) := Eq.trans rfl rfl
@[simp] theorem len_wtup {xs : List PV} : bi S .len [.wtup xs] = some (.int xs.length) := Eq.trans rfl rfl
@[simp] theorem len_lst {xs : List PV} : bi S .len [.lst xs] = some (.int xs.length) := Eq.trans rfl rfl
@[simp] theorem len_frz {xs : List PV} : bi S .len [.frz xs] = some (.int xs.length) := Eq.trans rfl rfl
@[simp] theorem len_str {x : Str} : bi S .len [.str x] = some (.int x.length) := Eq.trans rfl rfl
@[simp] theorem len_dct {t : Bool} {ks vs : List PV} : bi S .len [.dct t ks vs] = some (.int ks.length) := Eq.trans rfl rfl
@[simp] theorem bi_abs {i : Int} : bi S .abs [.int i] = some (.int (if i < 0 then -i else i)) := Eq.trans rfl rfl
@[simp] theorem bi_int {i : Int} : bi S .int [.int i] = some (.int i) := Eq.trans rfl rfl
@[simp] theorem bi_all {xs : List PV} : bi S .all [.lst xs] = (boolsOf xs).map fun bs => .bl (bs.all id) := Eq.trans rfl rfl
@[simp] theorem bi_any {xs : List PV} : bi S .any [.lst xs] = (boolsOf xs).map fun bs => .bl (bs.any id) := Eq.trans rfl rfl
@[simp] theorem bi_sum {xs : List PV} : bi S .sum [.lst xs] = (intsOf xs).map fun is => .int is.sum := Eq.trans rfl rfl
@[simp] theorem bi_tupT {xs : List PV} : bi S .tuple [.tup xs] = some (.tup xs) := Eq.trans rfl rfl
@[simp] theorem bi_tupK {xs : List PV} : bi S .tuple [.ktup xs] = some (.ktup xs) := Eq.trans rfl rfl
@[simp] theorem bi_tupL {xs : List PV} : bi S .tuple [.lst xs] = some (.tup xs) := Eq.trans rfl rfl
theorem bi_tupC {n : Nat} {xs : List PV} (h : S[n]? = some (.lst xs)) : bi S .tuple [.cell n] = some (.tup xs) := by
  show (match listOf S (.cell n) with | some xs => some (PV.tup xs) | none => none) = _
  rw [lo_cell h]
@[simp] theorem boolsOf_map {α : Type} {xs : List α} {p : α → Bool} : boolsOf (xs.map fun x => .bl (p x)) = some (xs.map p) := by
  induction xs with
  | nil => rfl
  | cons x xs ih => simp [boolsOf, ih]
@[simp] theorem intsOf_map {α : Type} {xs : List α} {p : α → Int} : intsOf (xs.map fun x => .int (p x)) = some (xs.map p) := by
  induction xs with
  | nil => rfl
  | cons x xs ih => simp [intsOf, ih]
@[simp] theorem isNon_non : isNon .non = true := Eq.trans rfl rfl
/-! places -/
theorem atI_nat {α : Type} {xs : List α} {i : Nat} (h : i < xs.length) : L2.atI xs (i : Int) = xs[i]? := by
  unfold L2.atI L2.ixN
  rw [if_pos (by omega), if_pos (by omega)]
  simp
theorem index_nat {xs : List PV} {i : Nat} {v : PV} (h : xs[i]? = some v) : index S (.tup xs) (.int (i : Nat)) = some v := by
  have : i < xs.length := (List.getElem?_eq_some_iff.mp h).1
  show L2.atI xs (i : Int) = _
  rw [atI_nat this, h]
theorem index_natL {xs : List PV} {i : Nat} {v : PV} (h : xs[i]? = some v) : index S (.lst xs) (.int (i : Nat)) = some v := by
  have : i < xs.length := (List.getElem?_eq_some_iff.mp h).1
  show L2.atI xs (i : Int) = _
  rw [atI_nat this, h]
theorem index_natK {xs : List PV} {i : Nat} {v : PV} (h : xs[i]? = some v) : index S (.ktup xs) (.int (i : Nat)) = some v := by
  have : i < xs.length := (List.getElem?_eq_some_iff.mp h).1
  show L2.atI xs (i : Int) = _
  rw [atI_nat this, h]
theorem index_natF {xs : List PV} {i : Nat} {v : PV} (h : xs[i]? = some v) : index S (.frz xs) (.int (i : Nat)) = some v := by
  have : i < xs.length := (List.getElem?_eq_some_iff.mp h).1
  show L2.atI xs (i : Int) = _
  rw [atI_nat this, h]
theorem index_natC {n : Nat} {xs : List PV} {i : Nat} {v : PV} (hn : S[n]? = some (.lst xs)) (h : xs[i]? = some v) : index S (.cell n) (.int (i : Nat)) = some v := by
  have : i < xs.length := (List.getElem?_eq_some_iff.mp h).1
  unfold index
  rw [do_cell hn]
  dsimp only
  rw [sq_cell hn]
  show L2.atI xs (i : Int) = _
  rw [atI_nat this, h]
@[simp] theorem index_0 {x : PV} {xs : List PV} : index S (.tup (x :: xs)) (.int 0) = some x := index_nat (i := 0) rfl
@[simp] theorem index_1 {x y : PV} {xs : List PV} : index S (.tup (x :: y :: xs)) (.int 1) = some y := index_nat (i := 1) rfl
@[simp] theorem index_2 {x y z : PV} {xs : List PV} : index S (.tup (x :: y :: z :: xs)) (.int 2) = some z := index_nat (i := 2) rfl
@[simp] theorem index_3 {x y z w : PV} {xs : List PV} : index S (.tup (x :: y :: z :: w :: xs)) (.int 3) = some w := index_nat (i := 3) rfl
@[simp] theorem index_4 {x y z w u : PV} {xs : List PV} : index S (.tup (x :: y :: z :: w :: u :: xs)) (.int 4) = some u := index_nat (i := 4) rfl
@[simp] theorem indexK_0 {x : PV} {xs : List PV} : index S (.ktup (x :: xs)) (.int 0) = some x := index_natK (i := 0) rfl
@[simp] theorem indexK_1 {x y : PV} {xs : List PV} : index S (.ktup (x :: y :: xs)) (.int 1) = some y := index_natK (i := 1) rfl
@[simp] theorem indexL_0 {x : PV} {xs : List PV} : index S (.lst (x :: xs)) (.int 0) = some x := index_natL (i := 0) rfl
@[simp] theorem indexL_1 {x y : PV} {xs : List PV} : index S (.lst (x :: y :: xs)) (.int 1) = some y := index_natL (i := 1) rfl
@[simp] theorem indexL_2 {x y z : PV} {xs : List PV} : index S (.lst (x :: y :: z :: xs)) (.int 2) = some z := index_natL (i := 2) rfl
@[simp] theorem indexL_3 {x y z w : PV} {xs : List PV} : index S (.lst (x :: y :: z :: w :: xs)) (.int 3) = some w := index_natL (i := 3) rfl
@[simp] theorem indexL_4 {x y z w u : PV} {xs : List PV} : index S (.lst (x :: y :: z :: w :: u :: xs)) (.int 4) = some u := index_natL (i := 4) rfl
/-- a closed store -/
theorem topS_set {S : Store} {n : Nat} {o : PO} (h : topS S = 0) (ho : o.top = 0) : topS (S.set n o) = 0 := by
  induction S generalizing n with
  | nil => rfl
  | cons x S ih =>
    have h' : max x.top (topS S) = 0 := h
    cases n with
    | zero => show max o.top (topS S) = 0; omega
    | succ n =>
      show max x.top (topS (S.set n o)) = 0
      rw [ih (by omega)]; omega
theorem topS_app {S T : Store} : topS (S ++ T) = max (topS S) (topS T) := by
  induction S with
  | nil => show _ = max 0 _; simp
  | cons x S ih => show max x.top (topS (S ++ T)) = max (max x.top (topS S)) (topS T); rw [ih]; omega
theorem topL_map {α : Type} {l : List α} {f : α → PV} (h : ∀ x, (f x).top = 0) : PV.top.topL (l.map f) = 0 := by
  induction l with
  | nil => rfl
  | cons x l ih => show max (f x).top (PV.top.topL (l.map f)) = 0; rw [ih, h]; rfl
theorem topL_app {l m : List PV} : PV.top.topL (l ++ m) = max (PV.top.topL l) (PV.top.topL m) := by
  induction l with
  | nil => show _ = max 0 _; simp
  | cons x l ih => show max x.top (PV.top.topL (l ++ m)) = max (max x.top (PV.top.topL l)) (PV.top.topL m); rw [ih]; omega
theorem topL_mem {l : List PV} : PV.top.topL l = 0 ↔ ∀ x ∈ l, x.top = 0 := by
  induction l with
  | nil => exact ⟨fun _ x hx => absurd hx List.not_mem_nil, fun _ => rfl⟩
  | cons x l ih =>
    constructor
    · intro h y hy
      have h' : max x.top (PV.top.topL l) = 0 := h
      rcases List.mem_cons.mp hy with rfl | hy
      · omega
      · exact ih.mp (by omega) y hy
    · intro h
      show max x.top (PV.top.topL l) = 0
      rw [h x List.mem_cons_self, ih.mpr fun y hy => h y (List.mem_cons_of_mem _ hy)]; rfl
end
end Pz
end
section
set_option Elab.async false
set_option linter.all false
set_option maxRecDepth 100000
set_option maxHeartbeats 1600000
/-! Pz: rows, dicts, papers. -/
namespace Pz
open PySem
section
variable {S : Store} {α : Type}
/-! ### dicts of True -/
theorem putAll_new {t : Bool} {f : α → PV} {v : PV} {dk : α → DKey} (hk : ∀ x, keyOf t (f x) = some (dk x)) : ∀ {l : List α} {ks vs : List PV}, (l.map dk).Nodup → (∀ x ∈ l, ∀ k ∈ ks, keyOf t k ≠ some (dk x)) →
    putAll t (l.map fun x => .tup [f x, v]) (ks, vs) = some (ks ++ l.map f, vs ++ l.map fun _ => v)
  | [], ks, vs, _, _ => by simp [putAll]
  | x :: l, ks, vs, nd, fr => by
    obtain ⟨n1, n2⟩ := List.nodup_cons.mp nd
    show (match keyOf t (f x) with | some d => putAll t (l.map fun x => .tup [f x, v]) (putK t (f x) d v ks vs) | none => none) = _
    rw [hk x]
    dsimp only
    have e : putK t (f x) (dk x) v ks vs = (ks ++ [f x], vs ++ [v]) := by
      unfold putK
      rw [if_neg]
      simp only [List.any_eq_true, decide_eq_true_eq, not_exists, not_and]
      exact fun k hk' => fr x List.mem_cons_self k hk'
    rw [e, putAll_new hk n2 fun y hy k hk' => ?_]
    · simp
    · rcases List.mem_append.mp hk' with h | h
      · exact fr y (List.mem_cons_of_mem _ hy) k h
      · rw [List.mem_singleton.mp h, hk x]
        intro z
        injection z with z
        exact n1 (z ▸ List.mem_map.mpr ⟨y, hy, rfl⟩)
theorem lookK_some {t : Bool} {f : α → PV} {v : PV} {dk : α → DKey} (hk : ∀ x, keyOf t (f x) = some (dk x)) {d : DKey} : ∀ {l : List α}, (lookK t d (l.map f) (l.map fun _ => v)).isSome = true ↔ ∃ x ∈ l, dk x = d
  | [] => by simp [lookK]
  | x :: l => by
    show ((if keyOf t (f x) = some d then some v else lookK t d (l.map f) (l.map fun _ => v)).isSome = true) ↔ _
    rw [hk x]
    by_cases h : dk x = d
    · rw [if_pos (by rw [h])]
      exact ⟨fun _ => ⟨x, List.mem_cons_self, h⟩, fun _ => rfl⟩
    · rw [if_neg (fun z => h (by injection z))]
      rw [lookK_some hk]
      constructor
      · rintro ⟨y, hy, e⟩; exact ⟨y, List.mem_cons_of_mem _ hy, e⟩
      · rintro ⟨y, hy, e⟩
        rcases List.mem_cons.mp hy with rfl | hy
        · exact absurd e h
        · exact ⟨y, hy, e⟩
/-- a key is in a dict of True -/
theorem mem_dct [DecidableEq α] {t : Bool} {f : α → PV} {v : PV} {dk : α → DKey} (hk : ∀ x, keyOf t (f x) = some (dk x)) (inj : ∀ x y, dk x = dk y → x = y) (ns : ∀ x z, f x ≠ .str z) {l : List α} {x : α} : cmpop S .mem (f x) (.dct t (l.map f) (l.map fun _ => v)) = some (.bl (decide (x ∈ l))) := by
  show (isIn S (f x) (.dct t (l.map f) (l.map fun _ => v))).map PV.bl = _
  have e : isIn S (f x) (.dct t (l.map f) (l.map fun _ => v)) = some (decide (x ∈ l)) := by
    show isInDS S (f x) (.dct t (l.map f) (l.map fun _ => v)) = _
    unfold isInDS
    rw [do_dct]
    dsimp only
    rw [hk x]
    dsimp only
    congr 1
    rw [Bool.eq_iff_iff, lookK_some hk, decide_eq_true_eq]
    constructor
    · rintro ⟨y, hy, e⟩; rw [← inj y x e]; exact hy
    · exact fun h => ⟨x, h, rfl⟩
  rw [e]; rfl
theorem nmem_of {x y : PV} {b : Bool} (h : cmpop S .mem x y = some (.bl b)) : cmpop S .nmem x y = some (.bl (!b)) := by
  have h' : (isIn S x y).map PV.bl = some (.bl b) := h
  show (isIn S x y).map (fun t => PV.bl !t) = _
  cases e : isIn S x y with
  | none => rw [e] at h'; cases h'
  | some c =>
    rw [e] at h'
    simp at h'
    subst h'; rfl
/-! ### in rows -/
theorem isInSeq_of {x y : PV} {xs : List PV} {d : PyData} {ds : List PyData} (hs : seqOf S y = some xs) (hx : shapedO x.data = some d) (hd : PV.data.dataL xs = some ds) (h1 : PyData.canLayAll0 ds = true) (h2 : PyData.depthAll ds ≤ 63) : isInSeq S x y = some (ds.any fun z => PyData.eqv z d) := by
  unfold isInSeq
  rw [hs]
  dsimp only
  have e : shapedO ((PV.data.dataL xs).map PyData.list) = some (.list ds) := by
    rw [hd]
    show (if SeqAt.shaped (.list ds) = true then some (PyData.list ds) else none) = _
    rw [if_pos]
    unfold SeqAt.shaped
    have a : PyData.canLay0 (.list ds) = true := by rw [PyData.canLay0]; exact h1
    have b : PyData.depth (.list ds) ≤ 64 := by rw [PyData.depth]; omega
    rw [a, decide_eq_true b]; rfl
  rw [hx, e]
/-- a kind of values: their data -/
structure Kind (f : α → PV) (g : α → PyData) : Prop where
  dat : ∀ x, (f x).data = some (g x)
  lay : ∀ x, (g x).canLay0 = true
  dep : ∀ x, (g x).depth ≤ 60
theorem Kind.dataL {f : α → PV} {g : α → PyData} (h : Kind f g) : ∀ l : List α, PV.data.dataL (l.map f) = some (l.map g)
  | [] => rfl
  | x :: l => by
    show (match (f x).data, PV.data.dataL (l.map f) with | some d, some ds => some (d :: ds) | _, _ => none) = _
    rw [h.dat, h.dataL l]; rfl
theorem Kind.layL {f : α → PV} {g : α → PyData} (h : Kind f g) : ∀ l : List α, PyData.canLayAll0 (l.map g) = true
  | [] => by simp [PyData.canLayAll0]
  | x :: l => by simp only [List.map_cons, PyData.canLayAll0, h.lay, h.layL l, Bool.and_self]
theorem Kind.depL {f : α → PV} {g : α → PyData} (h : Kind f g) : ∀ l : List α, PyData.depthAll (l.map g) ≤ 60
  | [] => by simp [PyData.depthAll]
  | x :: l => by
    simp only [List.map_cons, PyData.depthAll]
    exact Nat.max_le.mpr ⟨h.dep x, h.depL l⟩
theorem Kind.sh {f : α → PV} {g : α → PyData} (h : Kind f g) (x : α) : shapedO (f x).data = some (g x) := by
  rw [h.dat]
  show (if SeqAt.shaped (g x) = true then some (g x) else none) = _
  rw [if_pos]
  unfold SeqAt.shaped
  rw [h.lay, decide_eq_true (Nat.le_trans (h.dep x) (by decide))]; rfl
/-- x in a row -/
theorem Kind.mem [DecidableEq α] {f : α → PV} {g : α → PyData} (h : Kind f g) (inj : ∀ x y, PyData.eqv (g x) (g y) = decide (x = y)) {l : List α} {x : α} {y : PV} (hs : seqOf S y = some (l.map f)) (hd : dictOf S y = none) (hy : ∀ z, y ≠ .str z) : cmpop S .mem (f x) y = some (.bl (decide (x ∈ l))) := by
  show (isIn S (f x) y).map PV.bl = _
  have e : isIn S (f x) y = some (decide (x ∈ l)) := by
    have e1 : isIn S (f x) y = isInDS S (f x) y := by
      cases y <;> first | rfl | exact absurd rfl (hy _)
    rw [e1]
    unfold isInDS
    rw [hd]
    dsimp only
    rw [isInSeq_of hs (h.sh x) (h.dataL l) (h.layL l) (Nat.le_trans (h.depL l) (by decide))]
    congr 1
    rw [List.any_map]
    rw [Bool.eq_iff_iff, List.any_eq_true, decide_eq_true_eq]
    constructor
    · rintro ⟨z, hz, e⟩
      have e' : PyData.eqv (g z) (g x) = true := e
      rw [inj, decide_eq_true_eq] at e'
      rw [← e']; exact hz
    · intro hx
      refine ⟨x, hx, ?_⟩
      show PyData.eqv (g x) (g x) = true
      rw [inj, decide_eq_true_eq]
  rw [e]; rfl
theorem Kind.memT [DecidableEq α] {f : α → PV} {g : α → PyData} (h : Kind f g) (inj : ∀ x y, PyData.eqv (g x) (g y) = decide (x = y)) {l : List α} {x : α} : cmpop S .mem (f x) (.tup (l.map f)) = some (.bl (decide (x ∈ l))) := h.mem inj rfl rfl (fun z e => by cases e)
theorem Kind.memL [DecidableEq α] {f : α → PV} {g : α → PyData} (h : Kind f g) (inj : ∀ x y, PyData.eqv (g x) (g y) = decide (x = y)) {l : List α} {x : α} : cmpop S .mem (f x) (.lst (l.map f)) = some (.bl (decide (x ∈ l))) := h.mem inj rfl rfl (fun z e => by cases e)
theorem eqvAll_map [DecidableEq α] {g : α → PyData} (inj : ∀ x y, PyData.eqv (g x) (g y) = decide (x = y)) : ∀ l m : List α, PyData.eqvAll (l.map g) (m.map g) = decide (l = m)
  | [], [] => by simp [PyData.eqvAll]
  | [], y :: m => by simp [PyData.eqvAll]
  | x :: l, [] => by simp [PyData.eqvAll]
  | x :: l, y :: m => by
    simp only [List.map_cons, PyData.eqvAll, inj, eqvAll_map inj l m]
    by_cases h1 : x = y <;> by_cases h2 : l = m <;> simp [h1, h2]
/-- whole numbers, pairs of them -/
def nI (n : Nat) : PV := .int (n : Nat)
def nP (p : Nat × Nat) : PV := .ktup [nI p.1, nI p.2]
theorem kind_n : Kind nI fun n => .int (n : Nat) := ⟨fun _ => rfl, fun _ => by simp [PyData.canLay0], fun _ => by simp [PyData.depth]⟩
theorem inj_n (x y : Nat) : PyData.eqv (.int (x : Nat)) (.int (y : Nat)) = decide (x = y) := by
  simp only [PyData.eqv]
  by_cases h : x = y
  · subst h; simp
  · have : ¬ ((x : Nat) : Int) = (y : Nat) := by omega
    simp [h, this]
theorem kind_p : Kind nP fun p => .tuple [.int (p.1 : Nat), .int (p.2 : Nat)] := ⟨fun _ => rfl, fun _ => by simp [PyData.canLay0, PyData.canLayAll0], fun _ => by simp [PyData.depth, PyData.depthAll]⟩
theorem inj_p (x y : Nat × Nat) : PyData.eqv (.tuple [.int (x.1 : Nat), .int (x.2 : Nat)]) (.tuple [.int (y.1 : Nat), .int (y.2 : Nat)]) = decide (x = y) := by
  obtain ⟨a, b⟩ := x
  obtain ⟨c, d⟩ := y
  simp only [PyData.eqv, PyData.eqvAll, Bool.and_true]
  by_cases h1 : a = c <;> by_cases h2 : b = d <;> simp [h1, h2] <;> omega
/-! ### comprehensions over what stands for typed things -/
variable {c : Cfg} {ρ : Env} {β : Type}
theorem cmp_T {chk : Store → Bool} {f : PV → Store → R (Option PV)} {e : β → PV} (g : β → Option PV) : ∀ {l : List β}, chk S = true → (∀ b ∈ l, f (e b) S = .ok (g b) S) → compLoop chk f (l.map e) S = .ok (l.filterMap g) S
  | [], hc, _ => by
    show compLoop chk f [] S = _
    unfold compLoop
    rw [if_pos hc]; rfl
  | b :: l, hc, h => by
    show compLoop chk f (e b :: l.map e) S = _
    unfold compLoop
    rw [if_pos hc, h b List.mem_cons_self]
    dsimp only
    rw [cmp_T g hc fun y hy => h y (List.mem_cons_of_mem _ hy)]
    dsimp only
    cases q : g b with
    | none => rw [List.filterMap_cons_none q]; rfl
    | some y => rw [List.filterMap_cons_some q]; rfl
theorem f_compT {x : E} {tg : Tg} {it : It} {cond : Eo} {own : List Nat} (l : List β) (e : β → PV) (g : β → Option PV) (hi : it.den c ρ S = .ok (.fix (l.map e)) S) (h : ∀ b ∈ l, cmpStep c ρ x tg cond own (e b) S = .ok (g b) S) : (F.comp x tg it cond own).den c ρ S = .ok (l.filterMap g) S := by
  simp only [F.den, hi, R.bind_ok, srcItems]
  exact cmp_T g rfl h
theorem f_mapT {x : E} {tg : Tg} {it : It} {own : List Nat} (l : List β) (e : β → PV) (g : β → PV) (hi : it.den c ρ S = .ok (.fix (l.map e)) S) (h : ∀ b ∈ l, cmpStep c ρ x tg .none own (e b) S = .ok (some (g b)) S) : (F.comp x tg it .none own).den c ρ S = .ok (l.map g) S := by
  rw [f_compT l e (fun b => some (g b)) hi h, List.filterMap_eq_map']
theorem f_filT {x : E} {tg : Tg} {it : It} {cond : Eo} {own : List Nat} (l : List β) (e : β → PV) (p : β → Bool) (g : β → PV) (hi : it.den c ρ S = .ok (.fix (l.map e)) S) (h : ∀ b ∈ l, cmpStep c ρ x tg cond own (e b) S = .ok (if p b = true then some (g b) else none) S) : (F.comp x tg it cond own).den c ρ S = .ok ((l.filter p).map g) S := by
  rw [f_compT l e _ hi h]
  congr 1
  clear hi h
  induction l with
  | nil => rfl
  | cons b l ih =>
    rw [List.filterMap_cons, List.filter_cons]
    by_cases q : p b = true
    · rw [if_pos q, if_pos q, List.map_cons, ← ih]
    · rw [if_neg q, if_neg q, ih]
theorem e_dcT {t : Bool} {k v : E} {tg : Tg} {it : It} {own : List Nat} (l : List β) (e : β → PV) (f : β → PV) (w : PV) (dk : β → DKey) (hk : ∀ x, keyOf t (f x) = some (dk x)) (hi : it.den c ρ S = .ok (.fix (l.map e)) S) (nd : (l.map dk).Nodup) (h : ∀ b ∈ l, kvStep c ρ k v tg own (e b) S = .ok (some (.tup [f b, w])) S) :
    (E.dcomp t k v tg it own).den c ρ S = .ok (.dct t (l.map f) (l.map fun _ => w)) S := by
  simp only [E.den, hi, R.bind_ok, srcItems]
  have e1 := cmp_T (chk := srcChk (.fix (l.map e)) (l.map e)) (e := e) (f := kvStep c ρ k v tg own) (fun b => some (.tup [f b, w])) rfl h
  rw [List.filterMap_eq_map'] at e1
  show ((compLoop (srcChk (.fix (l.map e)) (l.map e)) (kvStep c ρ k v tg own) (l.map e) S).bind _) = _
  rw [e1, R.bind_ok, putAll_new hk nd (by simp)]
  rfl
theorem empty_fil {l : List β} {p : β → Bool} {g : β → PV} : ((l.filter p).map g).isEmpty = !l.any p := by
  rw [Bool.eq_iff_iff]
  simp
/-- .. that hand back or raise at the first item that p picks -/
theorem walk_fT {t : Tg} {b : Sts} {l : List β} {e : β → PV} (I : Env → Prop) (r : SR → Prop) (p : β → Bool) (h0 : I ρ) (hs : ∀ x ∈ l, ∀ ρ, I ρ → if p x = true then r (turn c t b (e x) ρ S) ∧ ∀ ys, wlk c t b ys (turn c t b (e x) ρ S) = turn c t b (e x) ρ S else ∃ ρ', (turn c t b (e x) ρ S = .nx ρ' S ∨ turn c t b (e x) ρ S = .ct ρ' S) ∧ I ρ') :
    if l.any p = true then r (walk c t b (l.map e) ρ S) else ∃ ρ', walk c t b (l.map e) ρ S = .nx ρ' S ∧ I ρ' := by
  induction l generalizing ρ with
  | nil => exact ⟨ρ, rfl, h0⟩
  | cons x xs ih =>
    have h := hs x List.mem_cons_self ρ h0
    rw [List.map_cons, walk_cons, List.any_cons]
    by_cases px : p x = true
    · rw [if_pos px] at h
      rw [px, Bool.true_or, if_pos rfl, h.2]
      exact h.1
    · rw [if_neg px] at h
      have : p x = false := by simpa using px
      rw [this, Bool.false_or]
      obtain ⟨ρ', ht, h'⟩ := h
      have := ih h' (fun y hy => hs y (List.mem_cons_of_mem _ hy))
      rcases ht with ht | ht <;> rw [ht] <;> exact this
/-- it leaves the loops -/
def Stop (sr : SR) : Prop := (∃ x v ρ S, sr = .exc x v ρ S) ∨ ∃ v ρ S, sr = .rt v ρ S
theorem Stop.wlk {sr : SR} (h : Stop sr) {t : Tg} {b : Sts} {xs : List PV} : wlk c t b xs sr = sr := by
  rcases h with ⟨x, v, ρ, S, rfl⟩ | ⟨v, ρ, S, rfl⟩ <;> rfl
theorem Stop.thn {sr : SR} (h : Stop sr) {r : Sts} : SR.thn c r sr = sr := by
  rcases h with ⟨x, v, ρ, S, rfl⟩ | ⟨v, ρ, S, rfl⟩ <;> rfl
/-- one loop, left at the first item that p picks -/
theorem walk_s {i : Nat} {b : Sts} {l : List β} {e : β → PV} (I : Env → Prop) (r : SR → Prop) (hr : ∀ sr, r sr → Stop sr) (p : β → Bool) (h0 : I ρ) (hs : ∀ x ∈ l, ∀ ρ, I ρ → if p x = true then r (b.den c (ρ.set i (some (e x))) S) else ∃ ρ', (b.den c (ρ.set i (some (e x))) S = .nx ρ' S ∨ b.den c (ρ.set i (some (e x))) S = .ct ρ' S) ∧ I ρ') :
    if l.any p = true then r (walk c (.nm i) b (l.map e) ρ S) else ∃ ρ', walk c (.nm i) b (l.map e) ρ S = .nx ρ' S ∧ I ρ' := by
  refine walk_fT I r p h0 fun x hx ρ hρ => ?_
  have e1 : turn c (.nm i) b (e x) ρ S = b.den c (ρ.set i (some (e x))) S := by rw [turn_eq, g_nm, turnG_ok]
  rw [e1]
  have := hs x hx ρ hρ
  by_cases h : p x = true
  · rw [if_pos h] at this ⊢
    exact ⟨this, fun ys => (hr _ this).wlk⟩
  · rw [if_neg h] at this ⊢
    exact this
/-- two loops -/
theorem walk_2 {i j : Nat} {it2 : It} {b : Sts} {γ : Type} {l1 : List β} {l2 : List γ} {e1 : β → PV} {e2 : γ → PV} (I : Env → Prop) (J : β → Env → Prop) (r : SR → Prop) (hr : ∀ sr, r sr → Stop sr) (p : β → γ → Bool) (h0 : I ρ)
    (h1 : ∀ x ∈ l1, ∀ ρ, I ρ → it2.den c (ρ.set i (some (e1 x))) S = .ok (.fix (l2.map e2)) S ∧ J x (ρ.set i (some (e1 x)))) (h3 : ∀ x ρ, J x ρ → I ρ)
    (h2 : ∀ x ∈ l1, ∀ y ∈ l2, ∀ ρ, J x ρ → if p x y = true then r (b.den c (ρ.set j (some (e2 y))) S) else ∃ ρ', (b.den c (ρ.set j (some (e2 y))) S = .nx ρ' S ∨ b.den c (ρ.set j (some (e2 y))) S = .ct ρ' S) ∧ J x ρ') :
    if (l1.any fun x => l2.any (p x)) = true then r (walk c (.nm i) (.cons (.fo (.nm j) it2 b) .nil) (l1.map e1) ρ S) else ∃ ρ', walk c (.nm i) (.cons (.fo (.nm j) it2 b) .nil) (l1.map e1) ρ S = .nx ρ' S ∧ I ρ' := by
  refine walk_s I r hr (fun x => l2.any (p x)) h0 fun x hx ρ hρ => ?_
  obtain ⟨a1, a2⟩ := h1 x hx ρ hρ
  have w := walk_s (c := c) (S := S) (i := j) (b := b) (l := l2) (e := e2) (J x) r hr (p x) a2 fun y hy ρ hρ => h2 x hx y hy ρ hρ
  rw [s_cons', s_fo, a1, fo_fix]
  by_cases h : (l2.any (p x)) = true
  · rw [if_pos h] at w ⊢
    rw [(hr _ w).thn]
    exact w
  · rw [if_neg h] at w ⊢
    obtain ⟨ρ', ew, hj⟩ := w
    rw [ew, thn_nx, s_nil']
    exact ⟨ρ', .inl rfl, h3 x ρ' hj⟩
/-! ### ranges -/
theorem range_1 (n : Nat) : rangeP 0 1 n = (List.range n).map nI := by
  unfold rangeP
  refine List.map_congr_left fun i _ => ?_
  show PV.int _ = PV.int _
  congr 1
  omega
theorem range_2 (a n : Nat) : rangeP (a : Nat) 1 n = (List.range n).map fun i => nI (a + i) := by
  unfold rangeP
  refine List.map_congr_left fun i _ => ?_
  show PV.int _ = PV.int _
  congr 1
  omega
/-! ### rising rows -/
def risingB (lt : α → α → Bool) (l : List α) : Bool := (l.zip l.tail).all fun p => lt p.1 p.2
theorem zipP_map {f : α → PV} {h : β → PV} : ∀ {l : List α} {m : List β}, zipP (l.map f) (m.map h) = (l.zip m).map fun p => .ktup [f p.1, h p.2]
  | [], _ => by simp [zipP]
  | _ :: _, [] => by simp [zipP]
  | x :: l, y :: m => by
    simp only [List.map_cons, zipP, List.zip_cons_cons]
    rw [zipP_map]
theorem rising_at (lt : α → α → Bool) (l : List α) (d : α) : risingB lt l = (List.range (l.length - 1)).all fun k => lt (l.getD k d) (l.getD (k + 1) d) := by
  unfold risingB
  induction l with
  | nil => rfl
  | cons x l ih =>
    cases l with
    | nil => rfl
    | cons y l =>
      simp only [List.tail_cons, List.length_cons, Nat.add_sub_cancel] at ih ⊢
      rw [List.zip_cons_cons, List.all_cons, List.range_succ_eq_map, List.all_cons, ih, List.all_map]
      rfl
/-! ### slices -/
@[simp] theorem slc_tup {xs : List PV} {lo hi : Option Int} : slice S (.tup xs) lo hi = some (.tup (cut xs lo hi)) := Eq.trans rfl rfl
@[simp] theorem slc_lst {xs : List PV} {lo hi : Option Int} : slice S (.lst xs) lo hi = some (.lst (cut xs lo hi)) := Eq.trans rfl rfl
theorem cut_from {xs : List β} (i : Nat) : cut xs (some (i : Nat)) none = xs.drop i := by
  unfold cut
  rw [HT.sIx_nat, HT.sIx_none]
  by_cases h : i ≤ xs.length
  · rw [Nat.min_eq_left h, List.take_of_length_le (by simp)]
  · rw [Nat.min_eq_right (by omega), List.drop_length, List.drop_of_length_le (by omega)]
    simp
theorem cut_to {xs : List β} (i : Nat) : cut xs none (some (i : Nat)) = xs.take i := by
  unfold cut
  rw [HT.sIx_nat, HT.sIx_none, List.drop_zero, Nat.sub_zero]
  by_cases h : i ≤ xs.length
  · rw [Nat.min_eq_left h]
  · rw [Nat.min_eq_right (by omega), List.take_length, List.take_of_length_le (by omega)]
theorem cut_mid {xs : List β} (a b : Nat) : cut xs (some (a : Nat)) (some (b : Nat)) = (xs.drop a).take (b - a) := by
  unfold cut
  rw [HT.sIx_nat, HT.sIx_nat]
  by_cases h : a ≤ xs.length
  · rw [Nat.min_eq_left h]
    by_cases h2 : b ≤ xs.length
    · rw [Nat.min_eq_left h2]
    · rw [Nat.min_eq_right (by omega), List.take_of_length_le (by simp), List.take_of_length_le (by simp; omega)]
  · have e1 : min a xs.length = xs.length := Nat.min_eq_right (by omega)
    rw [e1, List.drop_length, List.drop_of_length_le (show xs.length ≤ a by omega)]
    simp
theorem cut_last {xs : List β} : cut xs none (some (-1)) = xs.take (xs.length - 1) := by
  unfold cut
  rw [HT.sIx_none, List.drop_zero, Nat.sub_zero]
  congr 1
  show (if (-1 : Int) < 0 then ((-1 : Int) + (xs.length : Nat)).toNat else min (-1 : Int).toNat xs.length) = xs.length - 1
  rw [if_pos (by decide)]
  omega
@[simp] theorem cut_1 {xs : List β} : cut xs (some 1) none = xs.drop 1 := cut_from 1
@[simp] theorem cut_t1 {xs : List β} : cut xs none (some 1) = xs.take 1 := cut_to 1
@[simp] theorem cut_t2 {xs : List β} : cut xs none (some 2) = xs.take 2 := cut_to 2
@[simp] theorem cut_t4 {xs : List β} : cut xs none (some 4) = xs.take 4 := cut_to 4
@[simp] theorem cut_23 {xs : List β} : cut xs (some 2) (some 3) = (xs.drop 2).take 1 := cut_mid 2 3
@[simp] theorem cut_l {xs : List β} : cut xs none (some (-1)) = xs.take (xs.length - 1) := cut_last
theorem zip_rw {f : α → PV} {l : List α} : zipP (l.map f) ((l.map f).drop 1) = (l.zip l.tail).map fun p => .ktup [f p.1, f p.2] := by
  rw [List.drop_one, ← List.map_tail, zipP_map]
theorem empty_fl {l : List β} {p : β → Bool} : (l.filter p).isEmpty = !l.any p := by
  rw [Bool.eq_iff_iff]
  simp
theorem zip_rows {f : α → PV} {l : List α} : zpS (.tup (l.map f)) (.tup ((l.map f).drop 1)) S = .ok (.fix ((l.zip l.tail).map fun p => .ktup [f p.1, f p.2])) S := by
  rw [zpS_tup, List.drop_one, ← List.map_tail, zipP_map]
theorem not_rising (lt : α → α → Bool) (l : List α) : ((l.zip l.tail).any fun q => !lt q.1 q.2) = !risingB lt l := by
  unfold risingB
  rw [List.not_all_eq_any_not]
/-! ### an invariant over typed turns -/
theorem walk_iT {j : Nat} {b : Sts} {l : List β} {e : β → PV} (I : Nat → Pz.Env → Store → Prop) (h0 : I 0 ρ S) (hs : ∀ i x ρ S, l[i]? = some x → I i ρ S → ∃ ρ' S', (b.den c (ρ.set j (some (e x))) S = .nx ρ' S' ∨ b.den c (ρ.set j (some (e x))) S = .ct ρ' S') ∧ I (i + 1) ρ' S') :
    ∃ ρ' S', walk c (.nm j) b (l.map e) ρ S = .nx ρ' S' ∧ I l.length ρ' S' := by
  have := walk_inv (c := c) (t := .nm j) (b := b) (xs := l.map e) I h0 fun i x ρ S hx h => by
    rw [List.getElem?_map] at hx
    obtain ⟨y, hy, rfl⟩ := Option.map_eq_some_iff.mp hx
    obtain ⟨ρ', S', ht, h'⟩ := hs i y ρ S hy h
    refine ⟨ρ', S', ?_, h'⟩
    rw [turn_eq, g_nm, turnG_ok]
    exact ht
  rwa [List.length_map] at this
/-- .. that may be left by break -/
theorem walk_iB {j : Nat} {b : Sts} {l : List β} {e : β → PV} (I X : Pz.Env → Store → Prop) (h0 : I ρ S) (hs : ∀ x ∈ l, ∀ ρ S, I ρ S → ∃ ρ' S', ((b.den c (ρ.set j (some (e x))) S = .nx ρ' S' ∨ b.den c (ρ.set j (some (e x))) S = .ct ρ' S') ∧ I ρ' S') ∨ (b.den c (ρ.set j (some (e x))) S = .bk ρ' S' ∧ X ρ' S')) :
    ∃ ρ' S', walk c (.nm j) b (l.map e) ρ S = .nx ρ' S' ∧ (I ρ' S' ∨ X ρ' S') := by
  induction l generalizing ρ S with
  | nil => exact ⟨ρ, S, rfl, .inl h0⟩
  | cons x l ih =>
    have e1 : turn c (.nm j) b (e x) ρ S = b.den c (ρ.set j (some (e x))) S := by rw [turn_eq, g_nm, turnG_ok]
    rw [List.map_cons, walk_cons, e1]
    obtain ⟨ρ', S', h | h⟩ := hs x List.mem_cons_self ρ S h0
    · obtain ⟨ht, hI⟩ := h
      have := ih hI fun y hy => hs y (List.mem_cons_of_mem _ hy)
      rcases ht with ht | ht <;> rw [ht] <;> exact this
    · rw [h.1]
      exact ⟨ρ', S', rfl, .inr h.2⟩
/-! ### sorted(set(..)) -/
theorem dd_map {β γ : Type} [DecidableEq β] [DecidableEq γ] {f : β → γ} (inj : ∀ x y, f x = f y → x = y) : ∀ l : List β, dd (l.map f) = (dd l).map f
  | [] => rfl
  | x :: l => by
    have e : f x ∈ l.map f ↔ x ∈ l := ⟨fun h => by
      obtain ⟨y, hy, e⟩ := List.mem_map.mp h
      rw [← inj y x e]; exact hy, fun h => List.mem_map.mpr ⟨x, h, rfl⟩⟩
    show (if f x ∈ l.map f then dd (l.map f) else f x :: dd (l.map f)) = (if x ∈ l then dd l else x :: dd l).map f
    rw [dd_map inj l]
    by_cases h : x ∈ l
    · rw [if_pos (e.mpr h), if_pos h]
    · rw [if_neg (fun z => h (e.mp z)), if_neg h]; rfl
theorem insBy_map {β γ : Type} {f : β → γ} {k : γ → Int} {x : β} : ∀ l : List β, insBy k (f x) (l.map f) = (insBy (fun y => k (f y)) x l).map f
  | [] => rfl
  | y :: l => by
    show (if k (f x) ≤ k (f y) then f x :: f y :: l.map f else f y :: insBy k (f x) (l.map f)) = (if k (f x) ≤ k (f y) then x :: y :: l else y :: insBy (fun y => k (f y)) x l).map f
    rw [insBy_map l]
    split <;> rfl
theorem sortBy_map {β γ : Type} {f : β → γ} {k : γ → Int} : ∀ l : List β, sortBy k (l.map f) = (sortBy (fun y => k (f y)) l).map f
  | [] => rfl
  | x :: l => by
    show insBy k (f x) (sortBy k (l.map f)) = _
    rw [sortBy_map l, insBy_map]; rfl
theorem intsOf_nI (l : List Nat) : intsOf (l.map nI) = some (l.map fun (n : Nat) => ((n : Nat) : Int)) := intsOf_map
/-- sorted(set(..)) of whole numbers below b -/
theorem srs_n {l : List Nat} {b : Nat} (hb : b ≤ 62) (h : ∀ n ∈ l, n < b) (hl : l.length < 4000) : ∃ l' : List Nat, srsOf (l.map nI) = some (l'.map nI) ∧ (∀ n, n ∈ l' ↔ n ∈ l) ∧ l'.length ≤ b := by
  have few : (dd l).length ≤ b := by
    have := nodup_le (nodup_dd l) (m := List.range b) fun n hn => List.mem_range.mpr (h n (mem_dd.mp hn))
    simpa using this
  have e : dd (l.map fun (n : Nat) => ((n : Nat) : Int)) = (dd l).map fun (n : Nat) => ((n : Nat) : Int) := dd_map (fun x y e => by omega) l
  have inj : Parts (fun n : Nat => ((n : Nat) : Int)) (dd l) := fun x _ y _ e => by
    have e : ((x : Nat) : Int) = ((y : Nat) : Int) := e
    omega
  refine ⟨sortBy (fun n : Nat => ((n : Nat) : Int)) (dd l), ?_, fun n => by rw [mem_sortBy, mem_dd], ?_⟩
  · unfold srsOf
    rw [intsOf_nI]
    dsimp only
    rw [if_pos (by rw [e, List.length_map, List.length_map]; omega), e, sortBy_map, List.map_map]
    rfl
  · have nd : (sortBy (fun n : Nat => ((n : Nat) : Int)) (dd l)).Nodup := (pw_sortBy (nodup_dd l) inj).imp fun {a b} h e => by subst e; exact absurd h (Int.lt_irrefl _)
    have := nodup_le nd (m := dd l) fun n hn => mem_sortBy.mp hn
    omega
theorem intsOf_nP {p : Nat × Nat} {l : List (Nat × Nat)} : intsOf ((p :: l).map nP) = none := by
  show intsOf (nP p :: l.map nP) = none
  unfold nP intsOf; rfl
theorem rowsK_nP : ∀ l : List (Nat × Nat), rowsK (l.map nP) = some (l.map fun p => [((p.1 : Nat) : Int), ((p.2 : Nat) : Int)])
  | [] => rfl
  | p :: l => by
    show rowsK (.ktup [nI p.1, nI p.2] :: l.map nP) = _
    unfold rowsK
    rw [rowsK_nP l]
    rfl
/-- .. of pairs of such -/
theorem srs_p {l : List (Nat × Nat)} {b : Nat} (hb : b ≤ 7) (h : ∀ p ∈ l, p.1 < b ∧ p.2 < b) (hne : l ≠ []) : ∃ l' : List (Nat × Nat), srsOf (l.map nP) = some (l'.map nP) ∧ (∀ p, p ∈ l' ↔ p ∈ l) ∧ l'.length ≤ b * b := by
  have few : (dd l).length ≤ b * b := by
    have := nodup_le (nodup_dd l) (m := (List.range b).flatMap fun i => (List.range b).map fun j => (i, j)) fun p hp => by
      obtain ⟨h1, h2⟩ := h p (mem_dd.mp hp)
      exact List.mem_flatMap.mpr ⟨p.1, List.mem_range.mpr h1, List.mem_map.mpr ⟨p.2, List.mem_range.mpr h2, rfl⟩⟩
    have e : ((List.range b).flatMap fun i => (List.range b).map fun j => (i, j)).length = b * b := by
      rw [List.length_flatMap]
      have : ∀ n : Nat, ((List.range n).map fun i => ((List.range b).map fun j => (i, j)).length).sum = n * b := fun n => by
        induction n with
        | zero => simp
        | succ n ih => rw [List.range_succ, List.map_append, List.sum_append, ih, Nat.succ_mul]; simp
      exact this b
    omega
  have few2 : b * b ≤ 49 := Nat.mul_le_mul hb hb
  let f : Nat × Nat → List Int := fun p => [((p.1 : Nat) : Int), ((p.2 : Nat) : Int)]
  have fi : ∀ x y, f x = f y → x = y := fun x y e => by
    have e' : [((x.1 : Nat) : Int), ((x.2 : Nat) : Int)] = [((y.1 : Nat) : Int), ((y.2 : Nat) : Int)] := e
    simp only [List.cons.injEq, and_true] at e'
    exact Prod.ext (by omega) (by omega)
  have e : dd (l.map f) = (dd l).map f := dd_map fi l
  have cd : ∀ p : Nat × Nat, codeB (f p) = (p.1 : Nat) * 64 + (p.2 : Nat) := fun p => by
    show ((p.1 : Nat) : Int) * 64 ^ 1 + (((p.2 : Nat) : Int) * 64 ^ 0 + 0) = _
    simp
  have inj : Parts (fun p => codeB (f p)) (dd l) := fun x hx y hy e => by
    have h1 := h x (mem_dd.mp hx)
    have h2 := h y (mem_dd.mp hy)
    have e' : codeB (f x) = codeB (f y) := e
    rw [cd, cd] at e'
    exact Prod.ext (by omega) (by omega)
  refine ⟨sortBy (fun p => codeB (f p)) (dd l), ?_, fun n => by rw [mem_sortBy, mem_dd], ?_⟩
  · cases l with
    | nil => exact absurd rfl hne
    | cons p l =>
      unfold srsOf
      rw [intsOf_nP]
      dsimp only
      rw [rowsK_nP]
      show (if 1 ≤ (f p).length ∧ (∀ q ∈ (p :: l).map f, q.length = (f p).length ∧ ∀ i ∈ q, 0 ≤ i ∧ i < 64) ∧ (dd ((p :: l).map f)).length < 63 then some ((sortBy codeB (dd ((p :: l).map f))).map fun q => PV.ktup (q.map .int)) else none) = _
      rw [e]
      rw [if_pos]
      · rw [sortBy_map, List.map_map]
        rfl
      · refine ⟨by show 1 ≤ 2; omega, fun q hq => ?_, by rw [List.length_map]; omega⟩
        obtain ⟨r, hr, rfl⟩ := List.mem_map.mp hq
        have := h r hr
        refine ⟨rfl, fun i hi => ?_⟩
        have hi' : i ∈ [((r.1 : Nat) : Int), ((r.2 : Nat) : Int)] := hi
        simp only [List.mem_cons, List.not_mem_nil, or_false] at hi'
        rcases hi' with rfl | rfl <;> omega
  · have nd : (sortBy (fun p => codeB (f p)) (dd l)).Nodup := (pw_sortBy (nodup_dd l) inj).imp fun {a b} h e => by subst e; exact absurd h (Int.lt_irrefl _)
    have := nodup_le nd (m := dd l) fun n hn => mem_sortBy.mp hn
    omega
end
end Pz
end
section
set_option Elab.async false
set_option linter.all false
set_option maxRecDepth 100000
set_option maxHeartbeats 1600000
namespace Q74
open PySem Pz
/-! ### machines -/
def gN (l : List Nat) (i : Nat) : Nat := l.getD i 0
def gL (l : List (List Nat)) (i : Nat) : List Nat := l.getD i []
def gT (l : List (List (List Nat))) (i : Nat) : List (List Nat) := l.getD i []
structure Mach where
  letters : Nat
  marked : Bool
  many : Nat
  /-- a table for each letter; for a text's letter the rows are all the same row -/
  rows : List (List (List Nat))
  good : List Nat
def iL (l : List Nat) : List PV := l.map fun n => .int (n : Nat)
def tup1 (l : List Nat) : PV := .tup (iL l)
def tup2 (l : List (List Nat)) : PV := .tup (l.map tup1)
def isText (M : Mach) (at_ : Nat) : Bool := decide (at_ % M.letters = M.letters - 1)
def rowV (M : Mach) (at_ : Nat) (t : List (List Nat)) : PV := if isText M at_ = true then tup1 (gL t 0) else tup2 t
def rowsV (M : Mach) : List PV := (List.range M.rows.length).map fun i => rowV M i (gT M.rows i)
def Mach.pv (M : Mach) : PV := .tup [.int (M.letters : Nat), .bl M.marked, .int (M.many : Nat), .tup (rowsV M), tup1 M.good]
structure Mach.Ok (M : Mach) : Prop where
  l3 : 3 ≤ M.letters
  l8 : M.letters ≤ 8
  m1 : 1 ≤ M.many
  m48 : M.many ≤ 48
  nr : M.rows.length = if M.marked = true then 2 * M.letters else M.letters
  tb : ∀ t ∈ M.rows, t.length = M.many ∧ ∀ r ∈ t, r.length = M.many ∧ ∀ n ∈ r, n < M.many
  gd : ∀ n ∈ M.good, n < M.many
  up : M.good.Pairwise (· < ·)
def Mach.moved (M : Mach) (l k r : Nat) : Nat := if isText M l = true then gN (gL (gT M.rows l) 0) r else gN (gL (gT M.rows l) k) r
section
variable {M : Mach} {S : Store}
theorem index_rows {i : Nat} (h : i < M.rows.length) : index S (.tup (rowsV M)) (.int (i : Nat)) = some (rowV M i (gT M.rows i)) := by
  refine index_nat ?_
  unfold rowsV
  rw [List.getElem?_map, List.getElem?_range h]; rfl
theorem index_tup1 {l : List Nat} {i : Nat} (h : i < l.length) : index S (tup1 l) (.int (i : Nat)) = some (.int (gN l i : Nat)) := by
  refine index_nat ?_
  unfold iL
  unfold gN
  rw [List.getElem?_map, List.getD_eq_getElem?_getD, List.getElem?_eq_getElem h]; rfl
theorem index_tup2 {l : List (List Nat)} {i : Nat} (h : i < l.length) : index S (tup2 l) (.int (i : Nat)) = some (tup1 (gL l i)) := by
  refine index_nat ?_
  unfold gL
  rw [List.getElem?_map, List.getD_eq_getElem?_getD, List.getElem?_eq_getElem h]; rfl
theorem row_ok (hM : M.Ok) {l : Nat} (h : l < M.rows.length) : (gT M.rows l).length = M.many ∧ ∀ r ∈ gT M.rows l, r.length = M.many ∧ ∀ n ∈ r, n < M.many := by
  unfold gT
  rw [List.getD_eq_getElem?_getD, List.getElem?_eq_getElem h]
  exact hM.tb _ (List.getElem_mem h)
theorem c_moved (hM : M.Ok) {m l k r : Nat} (hm : 1 ≤ m) (hl : l < M.rows.length) (hk : k < M.many) (hr : r < M.many) : ((cfg prog m).call "moved" [M.pv, .int (l : Nat), .int (k : Nat), .int (r : Nat)] S).fin S = .ok (.int (M.moved l k r : Nat)) S := by
  obtain ⟨m, rfl⟩ : ∃ j, m = j + 1 := ⟨m - 1, by omega⟩
  rw [call_at lk_moved rfl, run_at rfl]
  have h3 := hM.l3
  obtain ⟨r1, r2⟩ := row_ok hM hl
  have e1 : decide (((l : Nat) : Int) % ((M.letters : Nat) : Int) = ((M.letters : Nat) : Int) - 1) = isText M l := by
    unfold isText
    refine decide_eq_decide.mpr ?_
    omega
  simp only [d_moved, Mach.pv, List.map, List.replicate, List.cons_append, List.nil_append, s_cons', zs_asg, e_idx, e_var]
  simp [index_rows hl, bo_mod (show (0 : Int) < (M.letters : Nat) by omega), e1]
  have hk2 : ∀ k, k < M.many → (gL (gT M.rows l) k).length = M.many := fun k hk => by
    unfold gL
    rw [List.getD_eq_getElem?_getD, List.getElem?_eq_getElem (by omega)]
    exact (r2 _ (List.getElem_mem _)).1
  have hd := hk2 0 hM.m1
  have hk2 := hk2 k hk
  unfold rowV Mach.moved
  by_cases t : isText M l = true
  · simp [t, index_tup1 (show r < (gL (gT M.rows l) 0).length by omega)]
  · simp [t, index_tup2 (show k < (gT M.rows l).length by omega), index_tup1 (show r < (gL (gT M.rows l) k).length by omega)]
end
end Q74
end
section
set_option Elab.async false
set_option linter.all false
set_option maxRecDepth 100000
set_option maxHeartbeats 1600000
namespace Q74
open PySem Pz
/-! ### draws -/
structure DSt where
  xs : List Int
  c : Nat
  i : Nat
  s : Nat
def DSt.po (st : DSt) : PO := .lst [.lst (st.xs.map .int), .int (st.c : Nat), .int (st.i : Nat), .int (st.s : Nat)]
theorem DSt.top (st : DSt) : st.po.top = 0 := by
  show max (PV.top.topL (st.xs.map .int)) (max 0 (max 0 (max 0 0))) = 0
  rw [topL_map fun _ => rfl]; rfl
/-- the state stands in the cell n -/
structure At (S : Store) (n : Nat) (st : DSt) : Prop where
  g : S[n]? = some st.po
  t : topS S = 0
theorem At.lt {S : Store} {n : Nat} {st : DSt} (h : At S n st) : n < S.length := (List.getElem?_eq_some_iff.mp h.g).1
theorem At.set {S : Store} {n : Nat} {st : DSt} (h : At S n st) (st' : DSt) : At (S.set n st'.po) n st' := ⟨by rw [List.getElem?_set_self h.lt], topS_set h.t st'.top⟩
theorem At.app {S : Store} {n : Nat} {st : DSt} (h : At S n st) {X : Store} (hX : topS X = 0) : At (S ++ X) n st := ⟨by rw [List.getElem?_append_left h.lt]; exact h.g, by rw [topS_app, h.t, hX]; rfl⟩
theorem At.setApp {S : Store} {n : Nat} {st : DSt} (h : At S n st) {X : Store} {o : PO} : (S ++ X).set n o = S.set n o ++ X := by
  rw [List.set_append_left _ _ h.lt]
theorem At.fin {S X : Store} {n : Nat} {st : DSt} (h : At S n st) (st' : DSt) {v : PV} (hv : v.top ≤ S.length) : (R.ok v (S.set n st'.po ++ X)).fin S = .ok v (S.set n st'.po) :=
  fin_st (by simp) (by rw [(h.set st').t]; exact Nat.zero_le _) hv
theorem At.fin0 {S : Store} {n : Nat} {st : DSt} (h : At S n st) (st' : DSt) {v : PV} (hv : v.top ≤ S.length) : (R.ok v (S.set n st'.po)).fin S = .ok v (S.set n st'.po) :=
  fin_st0 (by simp) (by rw [(h.set st').t]; exact Nat.zero_le _) hv
theorem getset {S : Store} {n : Nat} {o : PO} (h : n < S.length) : (S.set n o)[n]? = some o := by rw [List.getElem?_set_self h]
theorem idxC {S : Store} {n : Nat} {xs : List PV} (hn : S[n]? = some (.lst xs)) (i : Nat) : index S (.cell n) (.int (i : Nat)) = xs[i]? := by
  by_cases h : i < xs.length
  · rw [List.getElem?_eq_getElem h]
    exact index_natC hn (List.getElem?_eq_getElem h)
  · unfold index
    rw [do_cell hn]
    dsimp only
    rw [sq_cell hn]
    show L2.atI xs (i : Int) = _
    unfold L2.atI L2.ixN
    rw [if_pos (by omega), if_neg (by omega), List.getElem?_eq_none (by omega)]; rfl
theorem putC {S : Store} {n : Nat} {xs : List PV} (hn : S[n]? = some (.lst xs)) (i : Nat) (v : PV) (h : i < xs.length) : putI S (.cell n) (.int (i : Nat)) v = some (S.set n (.lst (xs.set i v))) := by
  refine putI_lst hn ?_
  unfold L2.ixN
  rw [if_pos (by omega), if_pos (by omega)]
  simp
theorem At.i0 {S : Store} {n : Nat} {st : DSt} (h : At S n st) : index S (.cell n) (.int 0) = some (.lst (st.xs.map .int)) := idxC h.g 0
theorem At.i1 {S : Store} {n : Nat} {st : DSt} (h : At S n st) : index S (.cell n) (.int 1) = some (.int (st.c : Nat)) := idxC h.g 1
theorem At.i2 {S : Store} {n : Nat} {st : DSt} (h : At S n st) : index S (.cell n) (.int 2) = some (.int (st.i : Nat)) := idxC h.g 2
theorem At.i3 {S : Store} {n : Nat} {st : DSt} (h : At S n st) : index S (.cell n) (.int 3) = some (.int (st.s : Nat)) := idxC h.g 3
theorem At.p1 {S : Store} {n : Nat} {st : DSt} (h : At S n st) {x : Nat} : putI S (.cell n) (.int 1) (.int (x : Nat)) = some (S.set n { st with c := x : DSt }.po) := putC h.g 1 _ (by show 1 < 4; omega)
theorem At.p2 {S : Store} {n : Nat} {st : DSt} (h : At S n st) {x : Nat} : putI S (.cell n) (.int 2) (.int (x : Nat)) = some (S.set n { st with i := x : DSt }.po) := putC h.g 2 _ (by show 2 < 4; omega)
theorem At.p3 {S : Store} {n : Nat} {st : DSt} (h : At S n st) {x : Nat} : putI S (.cell n) (.int 3) (.int (x : Nat)) = some (S.set n { st with s := x : DSt }.po) := putC h.g 3 _ (by show 3 < 4; omega)
theorem bm1 {S : Store} {x : Int} : binop S .mul (.int x) (.int 48271) = some (.int (x * 48271)) := bo_mulR (by omega) (by omega)
theorem bm2 {S : Store} {x : Int} : binop S .mod (.int x) (.int 2147483629) = some (.int (x % 2147483629)) := bo_mod (by omega)
theorem bm3 {S : Store} {x : Int} : binop S .fdiv (.int x) (.int 13) = some (.int (x / 13)) := bo_fdiv (by omega) (by omega)
theorem draw1 {S : Store} {n : Nat} {xs : List Int} {i s s' : Nat} {m k : Nat} (hk : 0 < k) (h : At S n ⟨xs, 0, i, s⟩) (hi : xs.length ≤ i) (e1 : (((s : Nat) : Int) * 48271 + 69621) % 2147483629 = ((s' : Nat) : Int)) : ((cfg prog (m + 1)).call "_law_draw" [.cell n, .int (k : Nat)] S).fin S = .ok (.int (((s' / 13) % k : Nat) : Int)) (S.set n (DSt.mk xs 0 i s').po) := by
  rw [call_at lk__law_draw rfl, run_at rfl]
  have kp : (0 : Int) < (k : Nat) := Int.natCast_pos.mpr hk
  have h2 := h.set ⟨xs, 0, i, s'⟩
  have e2 : ((s' : Nat) : Int) / 13 % (k : Nat) = ((s' / 13 % k : Nat) : Int) := by simp
  have hb : ∀ S x, binop S .mod (.int x) (.int (k : Nat)) = some (.int (x % (k : Nat))) := fun _ _ => bo_mod kp
  have f := h.fin0 ⟨xs, 0, i, s'⟩ (v := .int ((s' / 13 % k : Nat) : Int)) (Nat.zero_le _)
  rw [← e2] at f
  simp only [d__law_draw]
  simp [h.i0, h.i1, h.i2, h.i3, hi, bm1, bm2, bm3, e1, h.p3, h2.i3, hb]
  exact f
theorem seed_step (s : Nat) : ∃ s' : Nat, (((s : Nat) : Int) * 48271 + 69621) % 2147483629 = ((s' : Nat) : Int) := ⟨((((s : Nat) : Int) * 48271 + 69621) % 2147483629).toNat, (Int.toNat_of_nonneg (Int.emod_nonneg _ (by decide))).symm⟩
theorem draw2 {S : Store} {n : Nat} {st : DSt} {m k : Nat} (hk : 0 < k) (hk2 : k < 1073741824) (h : At S n st) (hc : st.c ≠ 0) : ((cfg prog (m + 1)).call "_law_draw" [.cell n, .int (k : Nat)] S).fin S = .ok (.int ((st.c % k : Nat) : Int)) (S.set n { st with c := st.c / k : DSt }.po) := by
  rw [call_at lk__law_draw rfl, run_at rfl]
  have kp : (0 : Int) < (k : Nat) := by omega
  have hb : ∀ S x, binop S .mod (.int x) (.int (k : Nat)) = some (.int (x % (k : Nat))) := fun _ _ => bo_mod kp
  have hd : ∀ S x, binop S .fdiv (.int x) (.int (k : Nat)) = some (.int (x / (k : Nat))) := fun _ _ => bo_fdiv kp (by omega)
  have e1 : ((st.c : Nat) : Int) / (k : Nat) = ((st.c / k : Nat) : Int) := by simp
  have f := h.fin0 { st with c := st.c / k : DSt } (v := .int ((st.c % k : Nat) : Int)) (Nat.zero_le _)
  simp only [d__law_draw]
  simp [h.i0, h.i1, h.i2, h.i3, hc, hb, hd, -Int.natCast_ediv, e1, h.p1]
  exact f
theorem draw3 {S : Store} {n : Nat} {xs : List Int} {i s : Nat} {m k : Nat} (hk : 0 < k) (hk2 : k < 1073741824) (h : At S n ⟨xs, 0, i, s⟩) (hi : i < xs.length) : ∃ c, ((cfg prog (m + 1)).call "_law_draw" [.cell n, .int (k : Nat)] S).fin S = .ok (.int ((c % k : Nat) : Int)) (S.set n (DSt.mk xs (c / k) (i + 1) s).po) := by
  obtain ⟨x, hx⟩ : ∃ x, xs[i]? = some x := ⟨_, List.getElem?_eq_getElem hi⟩
  refine ⟨x.natAbs, ?_⟩
  rw [call_at lk__law_draw rfl, run_at rfl]
  have kp : (0 : Int) < (k : Nat) := by omega
  have hb : ∀ S x, binop S .mod (.int x) (.int (k : Nat)) = some (.int (x % (k : Nat))) := fun _ _ => bo_mod kp
  have hd : ∀ S x, binop S .fdiv (.int x) (.int (k : Nat)) = some (.int (x / (k : Nat))) := fun _ _ => bo_fdiv kp (by omega)
  have e0 : (if x < 0 then -x else x) = ((x.natAbs : Nat) : Int) := by omega
  have ix : index S (.lst (xs.map .int)) (.int (i : Nat)) = some (.int x) := index_natL (by rw [List.getElem?_map, hx]; rfl)
  generalize x.natAbs = c at e0
  have h1 := h.set ⟨xs, c, i, s⟩
  have h2 := h1.set ⟨xs, c, i + 1, s⟩
  have p2 := h1.p2 (x := i + 1)
  have e1 : ((c : Nat) : Int) / (k : Nat) = ((c / k : Nat) : Int) := by simp
  have f := h.fin0 ⟨xs, c / k, i + 1, s⟩ (v := .int ((c % k : Nat) : Int)) (Nat.zero_le _)
  rw [List.set_set] at h2 p2
  have hi' : ¬ xs.length ≤ i := by omega
  have e3 : ((i : Nat) : Int) + 1 = ((i + 1 : Nat) : Int) := by omega
  simp only [d__law_draw]
  simp [h.i0, h.i1, h.i2, hi', hb, hd, e0, ix, h.p1, h1.i2, -Int.natCast_ediv, e1, -Int.natCast_add, e3, p2, h2.i1, h2.p1]
  exact f
theorem c_draw {S : Store} {n : Nat} {st : DSt} {m k : Nat} (hm : 1 ≤ m) (hk : 0 < k) (hk2 : k < 1073741824) (h : At S n st) : ∃ t st', t < k ∧ ((cfg prog m).call "_law_draw" [.cell n, .int (k : Nat)] S).fin S = .ok (.int (t : Nat)) (S.set n (DSt.po st')) := by
  obtain ⟨m, rfl⟩ : ∃ j, m = j + 1 := ⟨m - 1, by omega⟩
  by_cases hc : st.c = 0
  · obtain ⟨xs, c, i, s⟩ := st
    cases (show c = 0 from hc)
    by_cases hi : xs.length ≤ i
    · obtain ⟨s', e1⟩ := seed_step s
      exact ⟨_, _, Nat.mod_lt _ hk, draw1 hk h hi e1⟩
    · obtain ⟨c, e⟩ := draw3 (m := m) hk hk2 h (by omega)
      exact ⟨_, _, Nat.mod_lt _ hk, e⟩
  · exact ⟨_, _, Nat.mod_lt _ hk, draw2 hk hk2 h hc⟩
end Q74
end
section
set_option Elab.async false
set_option linter.all false
set_option maxRecDepth 100000
set_option maxHeartbeats 1600000
namespace Q74
open PySem Pz
/-! ### looks at values -/
def plainV : PV → Bool
  | .non => true
  | .bl _ => true
  | .int _ => true
  | .str _ => true
  | .tup _ => true
  | .ktup _ => true
  | .lst _ => true
  | _ => false
def intB : PV → Bool
  | .int _ => true
  | _ => false
def numB (many : Nat) : PV → Bool
  | .int i => decide (0 ≤ i) && decide (i < (many : Nat))
  | _ => false
theorem up {k m : Nat} (h : k + 1 ≤ m) : ∃ j, m = j + 1 ∧ k ≤ j := ⟨m - 1, by omega, by omega⟩
section
variable {M : Mach} {S : Store} {m : Nat}
theorem c_is_integer {v : PV} (hv : plainV v = true) (hm : 1 ≤ m) : ((cfg prog m).call "is_integer" [v] S).fin S = .ok (.bl (intB v)) S := by
  obtain ⟨m, rfl, hk⟩ := up hm
  rw [call_at lk_is_integer rfl, run_at rfl]
  simp only [d_is_integer]
  cases v <;> first | (cases hv; done) | simp [intB]
theorem c_is_number {v : PV} (hv : plainV v = true) {many : Nat} (hm : 2 ≤ m) : ((cfg prog m).call "is_number" [v, .int (many : Nat)] S).fin S = .ok (.bl (numB many v)) S := by
  obtain ⟨m, rfl, hk⟩ := up hm
  rw [call_at lk_is_number rfl, run_at rfl]
  simp only [d_is_number]
  have h := c_is_integer (S := S) hv hk
  simp [h]
  cases v <;> first | (cases hv; done) | simp [intB, numB]
  rename_i i
  by_cases h0 : 0 ≤ i
  · simp [h0]
  · simp [h0]
theorem num_nI {k : Nat} {n : Nat} : numB n (nI k) = decide (k < n) := by
  show (decide ((0 : Int) ≤ (k : Nat)) && decide (((k : Nat) : Int) < (n : Nat))) = _
  rw [Bool.eq_iff_iff]
  simp
theorem c_is_number_n {k many : Nat} (hm : 2 ≤ m) : ((cfg prog m).call "is_number" [nI k, .int (many : Nat)] S).fin S = .ok (.bl (decide (k < many))) S := by
  rw [c_is_number rfl hm, num_nI]
theorem all_lt {l : List Nat} {many : Nat} (h : ∀ n ∈ l, n < many) : (l.map fun k => decide (k < many)).all id = true := by
  simpa using h
theorem c_are_numbers {l : List Nat} {many : Nat} (hm : 3 ≤ m) (hl : l.length = many) (h : ∀ n ∈ l, n < many) : ((cfg prog m).call "are_numbers" [tup1 l, .int (many : Nat)] S).fin S = .ok (.bl true) S := by
  obtain ⟨m, rfl, hk⟩ := up hm
  rw [call_at lk_are_numbers rfl, run_at rfl]
  simp only [d_are_numbers]
  have e : tup1 l = .tup (l.map nI) := rfl
  rw [e]
  simp [hl]
  rw [f_mapT l nI (fun k => .bl (decide (k < many))) ?_ ?_]
  · simp [-List.all_map, all_lt h]
  · simp
  · intro k _
    simp [cmpStep, wipe, c_is_number_n hk]
theorem c_is_row (hM : M.Ok) {i : Nat} (hm : 4 ≤ m) (hi : i < M.rows.length) : ((cfg prog m).call "is_row" [rowV M i (gT M.rows i), .int (M.many : Nat), .bl (isText M i)] S).fin S = .ok (.bl true) S := by
  obtain ⟨m, rfl, hk⟩ := up hm
  rw [call_at lk_is_row rfl, run_at rfl]
  obtain ⟨r1, r2⟩ := row_ok hM hi
  have g0 : gL (gT M.rows i) 0 ∈ gT M.rows i := by
    unfold gL
    rw [List.getD_eq_getElem?_getD, List.getElem?_eq_getElem (by have := hM.m1; omega)]
    exact List.getElem_mem _
  simp only [d_is_row]
  unfold rowV
  by_cases t : isText M i = true
  · simp [t, c_are_numbers hk (r2 _ g0).1 (r2 _ g0).2]
  · simp [t, tup2, r1]
    rw [f_mapT (gT M.rows i) tup1 (fun _ => .bl true) ?_ ?_]
    · simp
    · simp
    · intro r hr
      simp [cmpStep, wipe, c_are_numbers hk (r2 r hr).1 (r2 r hr).2]
/-- a kind of values with an order -/
theorem c_is_rising {α : Type} {f : α → PV} {lt : α → α → Bool} (hc : ∀ S a b, cmpop S .ge (f a) (f b) = some (.bl (!lt a b))) {l : List α} (h : prog.defs.lookup ("is_rising" : Str) = some d_is_rising) (hm : 1 ≤ m) : ((cfg prog m).call "is_rising" [.tup (l.map f)] S).fin S = .ok (.bl (risingB lt l)) S := by
  obtain ⟨m, rfl, hk⟩ := up hm
  rw [call_at h rfl, run_at rfl]
  simp only [d_is_rising]
  simp [-List.drop_one]
  rw [f_filT (l.zip l.tail) (fun p => .ktup [f p.1, f p.2]) (fun q => !lt q.1 q.2) (fun _ => .int 1) ?_ ?_]
  · simp [empty_fl, not_rising]
  · simp [-List.drop_one, zip_rw]
  · intro q _
    cases e : lt q.1 q.2 <;> simp [cmpStep, wipe, hc, e]
theorem ge_nI (S : Store) (a b : Nat) : cmpop S .ge (nI a) (nI b) = some (.bl (!decide (a < b))) := by
  show cmpop S .ge (.int (a : Nat)) (.int (b : Nat)) = _
  rw [ge_int]
  congr 2
  rw [Bool.eq_iff_iff]; simp
theorem enum_map {f : Nat → PV} (n : Nat) : ∀ k, enumP k ((List.range' k n).map f) = (List.range' k n).map fun i => .ktup [.int (i : Nat), f i] := by
  induction n with
  | zero => intro k; rfl
  | succ n ih =>
    intro k
    rw [List.range'_succ, List.map_cons, List.map_cons, enumP, ih]
theorem enum_rows : enumP 0 (rowsV M) = (List.range M.rows.length).map fun i => .ktup [.int (i : Nat), rowV M i (gT M.rows i)] := by
  unfold rowsV
  rw [List.range_eq_range']
  exact enum_map _ 0
theorem rising_of {l : List Nat} (h : l.Pairwise (· < ·)) : risingB (fun a b => decide (a < b)) l = true := by
  unfold risingB
  induction l with
  | nil => rfl
  | cons x l ih =>
    cases l with
    | nil => rfl
    | cons y l =>
      obtain ⟨h1, h2⟩ := List.pairwise_cons.mp h
      rw [List.tail_cons, List.zip_cons_cons, List.all_cons]
      have := ih h2
      rw [List.tail_cons] at this
      rw [this]
      simp [h1 y List.mem_cons_self]
theorem c_is_machine (hM : M.Ok) (hm : 5 ≤ m) : ((cfg prog m).call "is_machine" [M.pv] S).fin S = .ok (.bl true) S := by
  obtain ⟨m, rfl, hk⟩ := up hm
  rw [call_at lk_is_machine rfl, run_at rfl]
  have h3 := hM.l3
  have h8 := hM.l8
  have h1 := hM.m1
  have h48 := hM.m48
  have i1 : ∀ (n : Nat) (S : Store), ((cfg prog m).call "is_integer" [.int (n : Nat)] S).fin S = .ok (.bl true) S := fun n S => c_is_integer rfl (by omega)
  have hb : ∀ S x, binop S .mod (.int x) (.int (M.letters : Nat)) = some (.int (x % (M.letters : Nat))) := fun _ _ => bo_mod (by omega)
  have hmul : ∀ S, binop S .mul (.int 2) (.int (M.letters : Nat)) = some (.int (2 * (M.letters : Nat))) := fun _ => bo_mulL (by omega) (by omega)
  have nr : ((rowsV M).length : Int) = if M.marked = true then 2 * (M.letters : Nat) else (M.letters : Nat) := by
    unfold rowsV
    rw [List.length_map, List.length_range, hM.nr]
  simp only [d_is_machine]
  simp only [Mach.pv]
  cases hmk : M.marked
  all_goals
    rw [hmk] at nr
    simp only [if_true, Bool.false_eq_true, if_false] at nr
    simp [i1, show (3 : Int) ≤ (M.letters : Nat) by omega, show ((M.letters : Nat) : Int) ≤ 8 by omega, show (1 : Int) ≤ (M.many : Nat) by omega, show ((M.many : Nat) : Int) ≤ 48 by omega, nr, hmul]
    rw [f_mapT (List.range M.rows.length) (fun i => .ktup [.int (i : Nat), rowV M i (gT M.rows i)]) (fun _ => .bl true) ?_ ?_]
    rotate_left
    · simp [enum_rows]
    · intro i hi
      have e1 : decide (((i : Nat) : Int) % ((M.letters : Nat) : Int) = ((M.letters : Nat) : Int) - 1) = isText M i := by
        unfold isText
        refine decide_eq_decide.mpr ?_
        omega
      simp [cmpStep, wipe, hb, e1, c_is_row hM hk (List.mem_range.mp hi)]
    simp
    have eg : tup1 M.good = .tup (M.good.map nI) := rfl
    rw [eg]
    simp
    rw [f_mapT M.good nI (fun k => .bl (decide (k < M.many))) ?_ ?_]
    rotate_left
    · simp
    · intro k _
      simp [cmpStep, wipe, c_is_number_n (show 2 ≤ m by omega)]
    simp [-List.all_map, all_lt hM.gd, -List.drop_one]
    rw [f_filT (M.good.zip M.good.tail) (fun p => .ktup [nI p.1, nI p.2]) (fun q => !decide (q.1 < q.2)) (fun _ => .int 1) ?_ ?_]
    rotate_left
    · simp [-List.drop_one, zip_rw]
    · intro q _
      cases e : decide (q.1 < q.2) <;> simp [cmpStep, wipe, ge_nI, e]
    have := not_rising (fun a b => decide (a < b)) M.good
    rw [rising_of hM.up] at this
    simp [empty_fl, this]
end
end Q74
end
section
set_option Elab.async false
set_option linter.all false
set_option maxRecDepth 100000
set_option maxHeartbeats 1600000
namespace Q74
open PySem Pz
section
variable {M N : Mach} {S : Store} {m : Nat}
theorem top_iL (l : List Nat) : PV.top.topL (iL l) = 0 := topL_map fun _ => rfl
theorem top_tup1 (l : List Nat) : (tup1 l).top = 0 := top_iL l
theorem top_tup2 (l : List (List Nat)) : (tup2 l).top = 0 := topL_map top_tup1
theorem top_rowV (M : Mach) (i : Nat) (t : List (List Nat)) : (rowV M i t).top = 0 := by
  unfold rowV
  split
  · exact top_tup1 _
  · exact top_tup2 _
theorem top_rowsV (M : Mach) : PV.top.topL (rowsV M) = 0 := topL_map fun _ => top_rowV _ _ _
theorem top_pv (M : Mach) : M.pv.top = 0 := by
  show max 0 (max 0 (max 0 (max (PV.top.topL (rowsV M)) (max (tup1 M.good).top 0)))) = 0
  rw [top_rowsV, top_tup1]; rfl
theorem c_check_machine (hM : M.Ok) {x : PV} (hm : 6 ≤ m) : ((cfg prog m).call "check_machine" [M.pv, x] S).fin S = .ok .non S := by
  obtain ⟨m, rfl, hk⟩ := up hm
  rw [call_at lk_check_machine rfl, run_at rfl]
  simp only [d_check_machine]
  simp [c_is_machine hM hk]
theorem c_is_machine_non (hm : 1 ≤ m) : ((cfg prog m).call "is_machine" [.non] S).fin S = .ok (.bl false) S := by
  obtain ⟨m, rfl, hk⟩ := up hm
  rw [call_at lk_is_machine rfl, run_at rfl]
  simp only [d_is_machine]
  simp
theorem c_check_machine_non {x : Str} (hm : 2 ≤ m) : ((cfg prog m).call "check_machine" [.non, .str x] S).fin S = .exc "ArgumentError" (.str x) S := by
  obtain ⟨m, rfl, hk⟩ := up hm
  rw [call_at lk_check_machine rfl, run_at rfl]
  simp only [d_check_machine]
  simp [c_is_machine_non hk]
/-- a form: letters, whether marked -/
def formV (p : Nat × Bool) : PV := .tup [.int (p.1 : Nat), .bl p.2]
theorem ne_form (a c : Nat) (b d : Bool) : cmpop S .ne (.tup [.int (a : Nat), .bl b]) (.tup [.int (c : Nat), .bl d]) = some (.bl (decide ((a, b) ≠ (c, d)))) := by
  have h : ∀ (a : Nat) (b : Bool), Dat S (.tup [.int (a : Nat), .bl b]) (.tuple [.int (a : Nat), .bool b]) := fun a b => dat_of rfl (by simp [PyData.canLay0, PyData.canLayAll0]) (by simp [PyData.depth, PyData.depthAll])
  rw [ne_dat (h a b) (h c d)]
  congr 2
  simp only [PyData.eqv, PyData.eqvAll, Bool.and_true]
  by_cases h1 : a = c <;> by_cases h2 : b = d <;> simp [h1, h2]
  all_goals (try omega)
theorem c_check_two (hM : M.Ok) (hN : N.Ok) (hm : 7 ≤ m) : ((cfg prog m).call "check_two" [M.pv, N.pv] S).fin S = if M.letters = N.letters ∧ M.marked = N.marked then .ok .non S else .exc "ArgumentError" (.str "other") S := by
  obtain ⟨m, rfl, hk⟩ := up hm
  rw [call_at lk_check_two rfl, run_at rfl]
  simp only [d_check_two]
  have eM : M.pv = .tup [.int (M.letters : Nat), .bl M.marked, .int (M.many : Nat), .tup (rowsV M), tup1 M.good] := rfl
  have eN : N.pv = .tup [.int (N.letters : Nat), .bl N.marked, .int (N.many : Nat), .tup (rowsV N), tup1 N.good] := rfl
  simp [c_check_machine hM hk, c_check_machine hN hk]
  rw [eM, eN]
  simp [ne_form]
  by_cases h : M.letters = N.letters <;> by_cases h2 : M.marked = N.marked <;> simp [h, h2]
theorem c_check_two_non (hm : 3 ≤ m) {x : PV} : ((cfg prog m).call "check_two" [.non, x] S).fin S = .exc "ArgumentError" (.str "one") S := by
  obtain ⟨m, rfl, hk⟩ := up hm
  rw [call_at lk_check_two rfl, run_at rfl]
  simp only [d_check_two]
  simp [c_check_machine_non hk]
/-! ### lifted -/
def lift (M : Mach) : Mach := { M with marked := true, rows := M.rows ++ M.rows }
theorem lift_ok (hM : M.Ok) (h : M.marked = false) : (lift M).Ok where
  l3 := hM.l3
  l8 := hM.l8
  m1 := hM.m1
  m48 := hM.m48
  nr := by
    have := hM.nr
    rw [h] at this
    show (M.rows ++ M.rows).length = _
    simp only [Bool.false_eq_true, if_false] at this
    simp [lift, this]; omega
  tb := fun t ht => by
    rcases List.mem_append.mp (show t ∈ M.rows ++ M.rows from ht) with h | h <;> exact hM.tb t h
  gd := hM.gd
  up := hM.up
theorem lift_rows (hM : M.Ok) (h : M.marked = false) : rowsV (lift M) = rowsV M ++ rowsV M := by
  have nr := hM.nr
  have l3 := hM.l3
  rw [h] at nr
  simp only [Bool.false_eq_true, if_false] at nr
  unfold rowsV
  apply List.ext_getElem?
  intro i
  simp only [lift, List.length_append, List.getElem?_map]
  by_cases h1 : i < M.rows.length
  · rw [List.getElem?_range (by omega), List.getElem?_append_left (by simpa using h1), List.getElem?_map, List.getElem?_range h1]
    simp only [Option.map_some]
    unfold rowV gT isText
    rw [List.getD_eq_getElem?_getD, List.getD_eq_getElem?_getD, List.getElem?_append_left h1]
  · by_cases h2 : i < M.rows.length + M.rows.length
    · rw [List.getElem?_range h2, List.getElem?_append_right (by simpa using h1), List.getElem?_map, List.length_map, List.length_range, List.getElem?_range (by omega)]
      simp only [Option.map_some]
      have e : isText { M with marked := true, rows := M.rows ++ M.rows } i = isText M (i - M.rows.length) := by
        unfold isText
        dsimp only
        rw [nr]
        have : i % M.letters = (i - M.letters) % M.letters := by
          rw [← Nat.mod_eq_sub_mod (by omega)]
        rw [this]
      unfold rowV
      rw [e]
      unfold gT
      rw [List.getD_eq_getElem?_getD, List.getD_eq_getElem?_getD, List.getElem?_append_right (by omega)]
    · rw [List.getElem?_eq_none (by simpa using h2), List.getElem?_eq_none (by simp; omega)]
      rfl
theorem c_lifted (hM : M.Ok) (h : M.marked = false) (hm : 7 ≤ m) : ((cfg prog m).call "lifted" [M.pv] S).fin S = .ok (lift M).pv S := by
  obtain ⟨m, rfl, hk⟩ := up hm
  have c1 : ((cfg prog m).call "lifted_in" [M.pv] S).fin S = .ok (lift M).pv S := by
    obtain ⟨m, rfl, hk⟩ := up hk
    rw [call_at lk_lifted_in rfl, run_at rfl]
    simp only [d_lifted_in]
    have hl : (rowsV M).length ≤ 16 := by
      unfold rowsV
      rw [List.length_map, List.length_range, hM.nr]
      have := hM.l8
      split <;> omega
    have b1 : ∀ S, binop S .add (.tup (rowsV M)) (.tup (rowsV M)) = some (.tup (rowsV M ++ rowsV M)) := fun _ => bo_tup (by show _ ≤ 16777216; omega)
    have b2 : ∀ (xs ys : List PV) S, xs.length ≤ 100 → ys.length ≤ 100 → binop S .add (.tup xs) (.tup ys) = some (.tup (xs ++ ys)) := fun _ _ _ h1 h2 => bo_tup (by show _ ≤ 16777216; omega)
    have f := fin_ok0 (S := S) (v := (lift M).pv) (by rw [top_pv]; exact Nat.zero_le _)
    have e : (lift M).pv = .tup [.int (M.letters : Nat), .bl true, .int (M.many : Nat), .tup (rowsV M ++ rowsV M), tup1 M.good] := by
      rw [← lift_rows hM h]; rfl
    rw [e] at f ⊢
    simp [Mach.pv, b1, b2]
    exact f
  rw [call_at lk_lifted rfl, run_at rfl]
  simp only [d_lifted]
  have eM : M.pv = .tup [.int (M.letters : Nat), .bl M.marked, .int (M.many : Nat), .tup (rowsV M), tup1 M.good] := rfl
  have f := fin_ok0 (S := S) (v := (lift M).pv) (by rw [top_pv]; exact Nat.zero_le _)
  have ix : ∀ S, index S M.pv (.int 1) = some (.bl false) := fun S => by rw [← h]; exact index_1
  simp [c_check_machine hM hk, ix, c1]
  exact f
end
end Q74
end
section
set_option Elab.async false
set_option linter.all false
set_option maxRecDepth 100000
set_option maxHeartbeats 1600000
namespace Q74
open PySem Pz
/-! ### papers -/
def rowBad {α : Type} [DecidableEq α] (nl : Nat) (step : Nat → α → α → α) (ns : List α) : Bool := (List.range nl).any fun l => ns.any fun k => ns.any fun r => !decide (step l k r ∈ ns)
def due {α : Type} [DecidableEq α] (lt : α → α → Bool) (zero : α) (nl : Nat) (step : Nat → α → α → α) (bad : α → Bool) (ns : List α) : Option Str :=
  if risingB lt ns = false then some "form"
  else if zero ∈ ns then
    if rowBad nl step ns = true then some "row"
    else if ns.any bad = true then some "good" else none
  else some "begin"
def said (o : Option Str) (S : Store) : R PV := match o with
  | some w => .exc "PaperError" (.str w) S
  | none => .ok .non S
theorem moved_lt {M : Mach} (hM : M.Ok) {l k r : Nat} (hl : l < M.rows.length) (hk : k < M.many) (hr : r < M.many) : M.moved l k r < M.many := by
  obtain ⟨r1, r2⟩ := row_ok hM hl
  have g : ∀ k, k < M.many → gL (gT M.rows l) k ∈ gT M.rows l := fun k hk => by
    unfold gL
    rw [List.getD_eq_getElem?_getD, List.getElem?_eq_getElem (by omega)]
    exact List.getElem_mem _
  have n : ∀ t : List Nat, t ∈ gT M.rows l → gN t r < M.many := fun t ht => by
    obtain ⟨h1, h2⟩ := r2 t ht
    unfold gN
    rw [List.getD_eq_getElem?_getD, List.getElem?_eq_getElem (by omega)]
    exact h2 _ (List.getElem_mem _)
  unfold Mach.moved
  split
  · exact n _ (g 0 hM.m1)
  · exact n _ (g k hk)
section
variable {M N : Mach} {S : Store} {m : Nat}
abbrev dn (n : Nat) : DKey := .inl (.inl (n : Nat))
theorem key_n (n : Nat) : keyOf false (nI n) = some (dn n) := rfl
theorem dn_inj (x y : Nat) (h : dn x = dn y) : x = y := by
  injection h with h
  injection h with h
  omega
theorem nodup_dn {l : List Nat} (h : l.Nodup) : (l.map dn).Nodup := List.Pairwise.map _ (fun a b ne e => ne (dn_inj a b e)) h
theorem rising_lt : ∀ {l : List Nat}, risingB (fun a b => decide (a < b)) l = true → l.Pairwise (· < ·)
  | [], _ => List.Pairwise.nil
  | [x], _ => by simp
  | x :: y :: l, h => by
    unfold risingB at h
    rw [List.tail_cons, List.zip_cons_cons, List.all_cons, Bool.and_eq_true, decide_eq_true_eq] at h
    have ih := rising_lt (l := y :: l) (by unfold risingB; rw [List.tail_cons]; exact h.2)
    refine List.pairwise_cons.mpr ⟨fun z hz => ?_, ih⟩
    rcases List.mem_cons.mp hz with rfl | hz
    · exact h.1
    · exact Nat.lt_trans h.1 ((List.pairwise_cons.mp ih).1 z hz)
theorem mem_known {x : Nat} {l : List Nat} {v : PV} : cmpop S .mem (nI x) (.dct false (l.map nI) (l.map fun _ => v)) = some (.bl (decide (x ∈ l))) := mem_dct key_n dn_inj fun _ _ e => by cases e
theorem nmem_known {x : Nat} {l : List Nat} {v : PV} : cmpop S .nmem (nI x) (.dct false (l.map nI) (l.map fun _ => v)) = some (.bl (!decide (x ∈ l))) := nmem_of mem_known
theorem c_accept_closed (hM : M.Ok) {ns : List Nat} (hn : ∀ n ∈ ns, n < M.many) (hm : 7 ≤ m) : ((cfg prog m).call "accept_closed" [M.pv, .tup (ns.map nI)] S).fin S = said (due (fun a b => decide (a < b)) 0 M.rows.length M.moved (fun a => decide (a ∈ M.good)) ns) S := by
  obtain ⟨m, rfl, hk⟩ := up hm
  rw [call_at lk_accept_closed rfl, run_at rfl]
  have i2 : ∀ S, index S M.pv (.int 2) = some (.int (M.many : Nat)) := fun _ => index_2
  have i3 : ∀ S, index S M.pv (.int 3) = some (.tup (rowsV M)) := fun _ => index_3
  have i4 : ∀ S, index S M.pv (.int 4) = some (.tup (M.good.map nI)) := fun _ => index_4
  have nr : (rowsV M).length = M.rows.length := by unfold rowsV; simp
  have nr16 : M.rows.length ≤ 16 := by
    rw [hM.nr]
    have := hM.l8
    split <;> omega
  simp only [d_accept_closed]
  simp [c_check_machine hM hk]
  rw [f_mapT ns nI (fun k => .bl (decide (k < M.many))) ?_ ?_]
  rotate_left
  · simp
  · intro k _
    simp [cmpStep, wipe, i2, c_is_number_n (show 2 ≤ m by omega)]
  simp [-List.all_map, all_lt hn, c_is_rising ge_nI lk_is_rising (show 1 ≤ m by omega)]
  unfold due
  cases hr : risingB (fun a b => decide (a < b)) ns
  · simp [said]
  · simp
    have nd : ns.Nodup := (rising_lt hr).imp fun {a b} h => Nat.ne_of_lt h
    rw [e_dcT ns nI nI (.bl true) dn key_n ?_ (nodup_dn nd) ?_]
    rotate_left
    · simp
    · intro k _
      simp [kvStep, wipe]
    have h0 : ∀ S, cmpop S .nmem (.int 0) (.dct false (ns.map nI) (ns.map fun _ => .bl true)) = some (.bl (!decide (0 ∈ ns))) := fun _ => nmem_known (x := 0)
    by_cases z : 0 ∈ ns
    case neg => simp [h0, z, said]
    simp [h0, z, i3, nr, rg1_int (S := S) (show ((M.rows.length : Nat) : Int) ≤ 1000000 by omega) (by omega), range_1, l_accept_closed_1]
    have w := walk_2 (c := cfg prog m) (S := S) (i := 4) (j := 5) (it2 := .seq (.var 1)) (b := l_accept_closed_2) (l1 := List.range M.rows.length) (l2 := ns) (e1 := nI) (e2 := nI) (ρ := [some M.pv, some (PV.tup (ns.map nI)), none, some (.dct false (ns.map nI) (ns.map fun _ => .bl true)), none, none, none])
      (fun ρ => ∃ a b d e, ρ = [some M.pv, some (PV.tup (ns.map nI)), a, some (.dct false (ns.map nI) (ns.map fun _ => .bl true)), b, d, e])
      (fun l ρ => ∃ a d e, ρ = [some M.pv, some (PV.tup (ns.map nI)), a, some (.dct false (ns.map nI) (ns.map fun _ => .bl true)), some (nI l), d, e])
      (fun sr => ∃ ρ, sr = .exc "PaperError" (.str "row") ρ S) (fun sr ⟨ρ, h⟩ => .inl ⟨_, _, _, _, h⟩) (fun l k => ns.any fun r => !decide (M.moved l k r ∈ ns)) ⟨_, _, _, _, rfl⟩
      (fun l _ ρ ⟨a, b, d, e, h⟩ => by subst h; exact ⟨by simp, a, d, e, rfl⟩) (fun l ρ ⟨a, d, e, h⟩ => ⟨a, _, d, e, h⟩)
      (fun l hl k hk ρ ⟨a, d, e, h⟩ => by
        subst h
        have hl := List.mem_range.mp hl
        have e1 : l_accept_closed_2.den (cfg prog m) [some M.pv, some (PV.tup (ns.map nI)), a, some (.dct false (ns.map nI) (ns.map fun _ => .bl true)), some (nI l), some (nI k), e] S = if (ns.any fun r => !decide (M.moved l k r ∈ ns)) = true then .exc "PaperError" (.str "row") [some M.pv, some (PV.tup (ns.map nI)), a, some (.dct false (ns.map nI) (ns.map fun _ => .bl true)), some (nI l), some (nI k), e] S else .nx [some M.pv, some (PV.tup (ns.map nI)), a, some (.dct false (ns.map nI) (ns.map fun _ => .bl true)), some (nI l), some (nI k), e] S := by
          simp only [l_accept_closed_2]
          simp
          rw [f_filT ns nI (fun r => !decide (M.moved l k r ∈ ns)) (fun _ => .int 1) ?_ ?_]
          · cases q : (ns.any fun r => !decide (M.moved l k r ∈ ns)) <;> simp [empty_fl, -List.any_eq_true, -List.any_eq_false, q] <;> simpa using q
          · simp
          · intro r hr
            have cm : ((cfg prog m).call "moved" [M.pv, nI l, nI k, nI r] S).fin S = .ok (nI (M.moved l k r)) S := c_moved hM (by omega) hl (hn k hk) (hn r hr)
            cases q : decide (M.moved l k r ∈ ns) <;> simp [cmpStep, wipe, cm, nmem_known, q]
        show if (ns.any fun r => !decide (M.moved l k r ∈ ns)) = true then ∃ ρ, l_accept_closed_2.den (cfg prog m) [some M.pv, some (PV.tup (ns.map nI)), a, some (.dct false (ns.map nI) (ns.map fun _ => .bl true)), some (nI l), some (nI k), e] S = _ else _
        split
        · rename_i q
          exact ⟨_, by rw [e1, if_pos q]⟩
        · rename_i q
          exact ⟨_, .inl (e1.trans (if_neg q)), a, some (nI k), e, rfl⟩)
    have eb : ((List.range M.rows.length).any fun l => ns.any fun k => ns.any fun r => !decide (M.moved l k r ∈ ns)) = rowBad M.rows.length M.moved ns := rfl
    rw [eb] at w
    by_cases q : rowBad M.rows.length M.moved ns = true
    · rw [if_pos q] at w ⊢
      obtain ⟨ρ, w⟩ := w
      rw [w]
      simp [said]
    · rw [if_neg q] at w ⊢
      obtain ⟨ρ, w, a, b, d, e, rfl⟩ := w
      rw [w]
      simp
      rw [f_filT M.good nI (fun r => decide (r ∈ ns)) (fun _ => .int 1) ?_ ?_]
      rotate_left
      · simp [i4]
      · intro r hr
        cases q : decide (r ∈ ns) <;> simp [cmpStep, wipe, mem_known, q]
      have eg : (M.good.any fun r => decide (r ∈ ns)) = ns.any fun a => decide (a ∈ M.good) := by
        rw [Bool.eq_iff_iff]
        simp only [List.any_eq_true, decide_eq_true_eq]
        exact ⟨fun ⟨x, h1, h2⟩ => ⟨x, h2, h1⟩, fun ⟨x, h1, h2⟩ => ⟨x, h2, h1⟩⟩
      have e2 : (∃ x, x ∈ ns ∧ x ∈ M.good) ↔ (ns.any fun a => decide (a ∈ M.good)) = true := by simp
      simp only [e2]
      cases q : (ns.any fun a => decide (a ∈ M.good)) <;> simp [empty_fl, -List.any_eq_true, -List.any_eq_false, eg, q, said]
end
end Q74
end
section
set_option Elab.async false
set_option linter.all false
set_option maxRecDepth 100000
set_option maxHeartbeats 1600000
namespace Q74
open PySem Pz
section
variable {M N : Mach} {S : Store} {m : Nat}
theorem rows16 (hM : M.Ok) : M.rows.length ≤ 16 := by
  rw [hM.nr]
  have := hM.l8
  split <;> omega
theorem c__law_moved (hM : M.Ok) {l k r : Nat} (hm : 1 ≤ m) (hl : l < M.rows.length) (hk : k < M.many) (hr : r < M.many) : ((cfg prog m).call "_law_moved" [M.pv, nI l, nI k, nI r] S).fin S = .ok (nI (M.moved l k r)) S := by
  obtain ⟨m, rfl, _⟩ := up hm
  rw [call_at lk__law_moved rfl, run_at rfl]
  have h3 := hM.l3
  have h16 := rows16 hM
  obtain ⟨r1, r2⟩ := row_ok hM hl
  have hd : ∀ S x, binop S .fdiv (.int x) (.int (M.letters : Nat)) = some (.int (x / (M.letters : Nat))) := fun _ _ => bo_fdiv (by omega) (by have := hM.l8; omega)
  have hmul : ∀ S x, binop S .mul (.int x) (.int (M.letters : Nat)) = some (.int (x * (M.letters : Nat))) := fun _ _ => bo_mulR (by omega) (by have := hM.l8; omega)
  have e1 : decide (((l : Nat) : Int) - ((l : Nat) : Int) / ((M.letters : Nat) : Int) * ((M.letters : Nat) : Int) = ((M.letters : Nat) : Int) - 1) = isText M l := by
    unfold isText
    refine decide_eq_decide.mpr ?_
    have e2 : ((l : Nat) : Int) - ((l : Nat) : Int) / ((M.letters : Nat) : Int) * ((M.letters : Nat) : Int) = ((l % M.letters : Nat) : Int) := by
      have := Int.emod_add_mul_ediv (l : Nat) (M.letters : Nat)
      rw [Int.natCast_emod, Int.mul_comm]
      omega
    rw [e2]
    omega
  have hk2 : ∀ k, k < M.many → (gL (gT M.rows l) k).length = M.many := fun k hk => by
    unfold gL
    rw [List.getD_eq_getElem?_getD, List.getElem?_eq_getElem (by omega)]
    exact (r2 _ (List.getElem_mem _)).1
  have hd0 := hk2 0 hM.m1
  have hk3 := hk2 k hk
  simp only [d__law_moved, nI]
  simp [Mach.pv, index_rows hl, hd, hmul, e1]
  unfold rowV Mach.moved
  by_cases t : isText M l = true
  · simp [t, index_tup1 (show r < (gL (gT M.rows l) 0).length by omega)]
  · simp [t, index_tup2 (show k < (gT M.rows l).length by omega), index_tup1 (show r < (gL (gT M.rows l) k).length by omega)]
theorem c__law_is_state {v : PV} (hv : plainV v = true) {many : Nat} (hm : 1 ≤ m) : ((cfg prog m).call "_law_is_state" [v, .int (many : Nat)] S).fin S = .ok (.bl (numB many v)) S := by
  obtain ⟨m, rfl, hk⟩ := up hm
  rw [call_at lk__law_is_state rfl, run_at rfl]
  simp only [d__law_is_state]
  cases v <;> first | (cases hv; done) | simp [numB]
  rename_i i
  by_cases h0 : 0 ≤ i
  · simp [h0]
  · simp [h0]
theorem c__law_is_state_n {k many : Nat} (hm : 1 ≤ m) : ((cfg prog m).call "_law_is_state" [nI k, .int (many : Nat)] S).fin S = .ok (.bl (decide (k < many))) S := by
  rw [c__law_is_state rfl hm, num_nI]
theorem p_form : ("paper " : Str) ++ ("form" : Str) = ("paper form" : Str) := by decide +kernel
theorem p_begin : ("paper " : Str) ++ ("begin" : Str) = ("paper begin" : Str) := by decide +kernel
theorem p_row : ("paper " : Str) ++ ("row" : Str) = ("paper row" : Str) := by decide +kernel
theorem p_good : ("paper " : Str) ++ ("good" : Str) = ("paper good" : Str) := by decide +kernel
/-- how a law tells what is due -/
def dueV (o : Option Str) : PV := match o with
  | some w => .str ("paper " ++ w)
  | none => .non
theorem any_nlt {l : List Nat} {many : Nat} (h : ∀ n ∈ l, n < many) : (l.any fun k => !decide (k < many)) = false := by
  simpa using h
theorem mem_n {x : Nat} {l : List Nat} : cmpop S .mem (nI x) (.tup (l.map nI)) = some (.bl (decide (x ∈ l))) := kind_n.memT inj_n
theorem nmem_n {x : Nat} {l : List Nat} : cmpop S .nmem (nI x) (.tup (l.map nI)) = some (.bl (!decide (x ∈ l))) := nmem_of mem_n
theorem memL_n {x : Nat} {l : List Nat} : cmpop S .mem (nI x) (.lst (l.map nI)) = some (.bl (decide (x ∈ l))) := kind_n.memL inj_n
theorem nmemL_n {x : Nat} {l : List Nat} : cmpop S .nmem (nI x) (.lst (l.map nI)) = some (.bl (!decide (x ∈ l))) := nmem_of memL_n
theorem getD_map {α : Type} {f : α → PV} {l : List α} {k : Nat} {d : α} (h : k < l.length) : (l.map f)[k]? = some (f (l.getD k d)) := by
  rw [List.getElem?_map, List.getD_eq_getElem?_getD, List.getElem?_eq_getElem h]; rfl
def riseK {α : Type} (lt : α → α → Bool) (l : List α) (d : α) (k : Nat) : Bool := !lt (l.getD k d) (l.getD (k + 1) d)
/-- the law's own look: rising by places -/
theorem law_rise {α : Type} {f : α → PV} {lt : α → α → Bool} (hc : ∀ S a b, cmpop S .ge (f a) (f b) = some (.bl (!lt a b))) (d : α) {l : List α} {c : Cfg} {ρ : Pz.Env} {i j : Nat} (hl : l.length ≤ 1000) (hi : ρ[i]? = some (some (PV.tup (l.map f)))) (hij : i ≠ j) (hj : j < ρ.length) :
    (F.comp (.var j) (.nm j) (.rng2 (.con (.int 1)) (.bi .len (.cons (.var i) .nil))) (.some (.cmp .ge (.idx (.var i) (.bin .sub (.var j) (.con (.int 1)))) (.idx (.var i) (.var j)))) [j]).den c ρ S = .ok (((List.range (l.length - 1)).filter (riseK lt l d)).map fun k => nI (1 + k)) S := by
  refine f_filT (List.range (l.length - 1)) (fun k => nI (1 + k)) (riseK lt l d) (fun k => nI (1 + k)) ?_ fun k hk => ?_
  · have r := rg2_int (S := S) (i := 1) (j := (l.length : Nat)) (by omega) (by omega) (by omega) (by omega)
    have e : (((l.length : Nat) : Int) - 1).toNat = l.length - 1 := by omega
    rw [e] at r
    have r2 := range_2 1 (l.length - 1)
    simp [hi, r]
    exact r2
  · have hk := List.mem_range.mp hk
    have h1 : (ρ.set j none)[i]? = some (some (PV.tup (l.map f))) := by rw [List.getElem?_set_ne (Ne.symm hij)]; exact hi
    have h2 : ((ρ.set j none).set j (some (nI (1 + k))))[i]? = some (some (PV.tup (l.map f))) := by rw [List.getElem?_set_ne (Ne.symm hij)]; exact h1
    have h3 : ((ρ.set j none).set j (some (nI (1 + k))))[j]? = some (some (nI (1 + k))) := by rw [List.getElem?_set_self (by simpa using hj)]
    have a1 : index S (.tup (l.map f)) (.int (((1 + k : Nat) : Int) - 1)) = some (f (l.getD k d)) := by
      rw [show (((1 + k : Nat) : Int) - 1) = ((k : Nat) : Int) by omega]
      exact index_nat (getD_map (by omega))
    have a2 : index S (.tup (l.map f)) (nI (1 + k)) = some (f (l.getD (k + 1) d)) := by
      rw [Nat.add_comm 1 k]
      exact index_nat (getD_map (by omega))
    have b : binop S .sub (nI (1 + k)) (.int 1) = some (.int (((1 + k : Nat) : Int) - 1)) := bo_sub
    simp only [cmpStep, wipe, g_nm, R.bind_ok, cmpK2_eq, eb_some, e_cmp, e_idx, e_bin, e_var, e_con, h2, h3, vr_some, k2_eq, binK_eq, b, ofO_some, idxK_eq, a1, a2, cmpK_eq, hc, tstK_eq, tr_bl, cndK_eq]
    unfold riseK
    cases lt (l.getD k d) (l.getD (k + 1) d) <;> simp
theorem rise_any {α : Type} (lt : α → α → Bool) (l : List α) (d : α) : ((List.range (l.length - 1)).any (riseK lt l d)) = !risingB lt l := by
  rw [rising_at lt l d, List.not_all_eq_any_not]; rfl
theorem c__law_closed_due (hM : M.Ok) {ns : List Nat} (hn : ∀ n ∈ ns, n < M.many) (hl : ns.length ≤ 1000) (hm : 2 ≤ m) : ((cfg prog m).call "_law_closed_due" [M.pv, .tup (ns.map nI)] S).fin S = .ok (dueV (due (fun a b => decide (a < b)) 0 M.rows.length M.moved (fun a => decide (a ∈ M.good)) ns)) S := by
  obtain ⟨m, rfl, hk⟩ := up hm
  rw [call_at lk__law_closed_due rfl, run_at rfl]
  have i2 : ∀ S, index S M.pv (.int 2) = some (.int (M.many : Nat)) := fun _ => index_2
  have i3 : ∀ S, index S M.pv (.int 3) = some (.tup (rowsV M)) := fun _ => index_3
  have i4 : ∀ S, index S M.pv (.int 4) = some (.tup (M.good.map nI)) := fun _ => index_4
  have nr : (rowsV M).length = M.rows.length := by unfold rowsV; simp
  have nr16 := rows16 hM
  simp only [d__law_closed_due]
  simp
  rw [f_filT ns nI (fun k => !decide (k < M.many)) nI ?_ ?_]
  rotate_left
  · simp
  · intro k _
    cases q : decide (k < M.many) <;> simp [cmpStep, wipe, i2, c__law_is_state_n hk, q]
  simp [empty_fl, -List.any_eq_true, -List.any_eq_false, any_nlt hn]
  rw [law_rise ge_nI 0 hl rfl (by decide) (by simp)]
  unfold due
  cases hr : risingB (fun a b => decide (a < b)) ns
  · simp [empty_fl, -List.any_eq_true, -List.any_eq_false, rise_any, hr, dueV, p_form]
  · simp [empty_fl, -List.any_eq_true, -List.any_eq_false, rise_any, hr]
    have h0 : ∀ S, cmpop S .nmem (.int 0) (.tup (ns.map nI)) = some (.bl (!decide (0 ∈ ns))) := fun _ => nmem_n (x := 0)
    by_cases z : 0 ∈ ns
    case neg => simp [h0, z, dueV, p_begin]
    simp [h0, z, i3, nr, rg1_int (S := S) (show ((M.rows.length : Nat) : Int) ≤ 1000000 by omega) (by omega), range_1, l__law_closed_due_1]
    have w := walk_2 (c := cfg prog m) (S := S) (i := 4) (j := 5) (it2 := .seq (.var 1)) (b := l__law_closed_due_2) (l1 := List.range M.rows.length) (l2 := ns) (e1 := nI) (e2 := nI) (ρ := [some M.pv, some (PV.tup (ns.map nI)), none, none, none, none, none])
      (fun ρ => ∃ a b c d e, ρ = [some M.pv, some (PV.tup (ns.map nI)), a, c, b, d, e])
      (fun l ρ => ∃ a c d e, ρ = [some M.pv, some (PV.tup (ns.map nI)), a, c, some (nI l), d, e])
      (fun sr => ∃ ρ, sr = .rt (.str "paper row") ρ S) (fun sr ⟨ρ, h⟩ => .inr ⟨_, _, _, h⟩) (fun l k => ns.any fun r => !decide (M.moved l k r ∈ ns)) ⟨_, _, _, _, _, rfl⟩
      (fun l _ ρ ⟨a, b, c, d, e, h⟩ => by subst h; exact ⟨by simp, a, c, d, e, rfl⟩) (fun l ρ ⟨a, c, d, e, h⟩ => ⟨a, _, c, d, e, h⟩)
      (fun l hl k hk ρ ⟨a, c, d, e, h⟩ => by
        subst h
        have hl := List.mem_range.mp hl
        have e1 : l__law_closed_due_2.den (cfg prog m) [some M.pv, some (PV.tup (ns.map nI)), a, c, some (nI l), some (nI k), e] S = if (ns.any fun r => !decide (M.moved l k r ∈ ns)) = true then .rt (.str "paper row") [some M.pv, some (PV.tup (ns.map nI)), a, c, some (nI l), some (nI k), e] S else .nx [some M.pv, some (PV.tup (ns.map nI)), a, c, some (nI l), some (nI k), e] S := by
          simp only [l__law_closed_due_2]
          simp
          rw [f_filT ns nI (fun r => !decide (M.moved l k r ∈ ns)) nI ?_ ?_]
          · cases q : (ns.any fun r => !decide (M.moved l k r ∈ ns)) <;> simp [empty_fl, -List.any_eq_true, -List.any_eq_false, q] <;> simpa using q
          · simp
          · intro r hr
            have cm : ((cfg prog m).call "_law_moved" [M.pv, nI l, nI k, nI r] S).fin S = .ok (nI (M.moved l k r)) S := c__law_moved hM (by omega) hl (hn k hk) (hn r hr)
            cases q : decide (M.moved l k r ∈ ns) <;> simp [cmpStep, wipe, cm, nmem_n, q]
        show if (ns.any fun r => !decide (M.moved l k r ∈ ns)) = true then ∃ ρ, l__law_closed_due_2.den (cfg prog m) [some M.pv, some (PV.tup (ns.map nI)), a, c, some (nI l), some (nI k), e] S = _ else _
        split
        · rename_i q
          exact ⟨_, by rw [e1, if_pos q]⟩
        · rename_i q
          exact ⟨_, .inl (e1.trans (if_neg q)), a, c, some (nI k), e, rfl⟩)
    have eb : ((List.range M.rows.length).any fun l => ns.any fun k => ns.any fun r => !decide (M.moved l k r ∈ ns)) = rowBad M.rows.length M.moved ns := rfl
    rw [eb] at w
    by_cases q : rowBad M.rows.length M.moved ns = true
    · rw [if_pos q] at w ⊢
      obtain ⟨ρ, w⟩ := w
      rw [w]
      simp [dueV, p_row]
    · rw [if_neg q] at w ⊢
      obtain ⟨ρ, w, a, b, c, d, e, rfl⟩ := w
      rw [w]
      simp
      rw [f_filT ns nI (fun r => decide (r ∈ M.good)) nI ?_ ?_]
      rotate_left
      · simp
      · intro r hr
        cases q : decide (r ∈ M.good) <;> simp [cmpStep, wipe, i4, mem_n, q]
      have e2 : (∃ x, x ∈ ns ∧ x ∈ M.good) ↔ (ns.any fun a => decide (a ∈ M.good)) = true := by simp
      simp only [e2]
      cases q : (ns.any fun a => decide (a ∈ M.good)) <;> simp [empty_fl, -List.any_eq_true, -List.any_eq_false, q, dueV, p_good]
end
end Q74
end
section
set_option Elab.async false
set_option linter.all false
set_option maxRecDepth 100000
set_option maxHeartbeats 1600000
namespace Q74
open PySem Pz
section
variable {M N : Mach} {S : Store} {m : Nat}
/-! ### papers that are none -/
/-- no row of states -/
def BadC (many : Nat) (p : PV) : Prop := p = .non ∨ (∃ xs, p = .lst xs) ∨ ∃ xs, p = .tup xs ∧ (∀ x ∈ xs, plainV x = true) ∧ (xs.all (numB many)) = false
theorem boolsP {xs : List PV} {p : PV → Bool} : boolsOf (xs.map fun x => .bl (p x)) = some (xs.map p) := boolsOf_map
theorem c_accept_closed_bad (hM : M.Ok) {p : PV} (hp : BadC M.many p) (hm : 7 ≤ m) : ((cfg prog m).call "accept_closed" [M.pv, p] S).fin S = .exc "PaperError" (.str "form") S := by
  obtain ⟨m, rfl, hk⟩ := up hm
  rw [call_at lk_accept_closed rfl, run_at rfl]
  have i2 : ∀ S, index S M.pv (.int 2) = some (.int (M.many : Nat)) := fun _ => index_2
  simp only [d_accept_closed]
  rcases hp with rfl | ⟨xs, rfl⟩ | ⟨xs, rfl, h1, h2⟩
  · simp [c_check_machine hM hk]
  · simp [c_check_machine hM hk]
  · simp [c_check_machine hM hk]
    rw [f_map (fun x => .bl (numB M.many x)) (xs := xs) ?_ ?_]
    rotate_left
    · simp
    · intro x hx
      simp [cmpStep, wipe, i2, c_is_number (h1 x hx) (show 2 ≤ m by omega)]
    have h3 : (xs.map (numB M.many)).all id = false := by rw [List.all_map]; exact h2
    simp [-List.all_map, h3]
theorem c__law_closed_due_bad (hM : M.Ok) {p : PV} (hp : BadC M.many p) (hm : 2 ≤ m) : ((cfg prog m).call "_law_closed_due" [M.pv, p] S).fin S = .ok (.str "paper form") S := by
  obtain ⟨m, rfl, hk⟩ := up hm
  rw [call_at lk__law_closed_due rfl, run_at rfl]
  have i2 : ∀ S, index S M.pv (.int 2) = some (.int (M.many : Nat)) := fun _ => index_2
  simp only [d__law_closed_due]
  rcases hp with rfl | ⟨xs, rfl⟩ | ⟨xs, rfl, h1, h2⟩
  · simp
  · simp
  · simp
    rw [f_filT xs id (fun x => !numB M.many x) id ?_ ?_]
    rotate_left
    · simp
    · intro x hx
      cases q : numB M.many x <;> simp [cmpStep, wipe, i2, c__law_is_state (h1 x hx) hk, q]
    have h3 : (xs.any fun x => !numB M.many x) = true := by
      rw [← Bool.not_eq_false, ← List.not_all_eq_any_not] ; simpa using h2
    simp [empty_fl, -List.any_eq_true, -List.any_eq_false, h3]
/-! ### all states that are reached -/
theorem find_ext {n : Nat} {S : Store} {X : Store} : (S ++ X).length = S.length + X.length := List.length_append
theorem getApp {S X : Store} {o : PO} : (S ++ (o :: X))[S.length]? = some o := by simp
theorem setApp {S X : Store} {o o' : PO} : (S ++ (o :: X)).set S.length o' = S ++ (o' :: X) := by simp
/-- one letter and one state as kids: what comes of them is put to the list in the cell behind S -/
theorem reach_in (hM : M.Ok) {ns : List Nat} (hn : ∀ n ∈ ns, n < M.many) {ms : List Nat} (hms : ms.length + ns.length ≤ 4000) {l k : Nat} (hl : l < M.rows.length) (hk : k < M.many) {t z : Option PV} (hm : 1 ≤ m) :
    l__law_reached_3.den (cfg prog m) [some M.pv, some (.lst (ns.map nI)), t, some (.cell S.length), some (nI l), some (nI k), z] (S ++ [.lst (ms.map nI)]) = .nx [some M.pv, some (.lst (ns.map nI)), t, some (.cell S.length), some (nI l), some (nI k), z] (S ++ [.lst ((ms ++ ns.map fun r => M.moved l k r).map nI)]) := by
  simp only [l__law_reached_3]
  have c1 := celAt_cell (S := S ++ [.lst (ms.map nI)]) (n := S.length) (xs := ms.map nI) getApp
  simp [c1]
  rw [f_mapT ns nI (fun r => nI (M.moved l k r)) ?_ ?_]
  rotate_left
  · simp
  · intro r hr
    have cm : ∀ S, ((cfg prog m).call "_law_moved" [M.pv, nI l, nI k, nI r] S).fin S = .ok (nI (M.moved l k r)) S := fun _ => c__law_moved hM hm hl hk (hn r hr)
    simp [cmpStep, wipe, cm]
  have le : ms.length + ns.length ≤ lim := by show _ ≤ 16777216; omega
  simp [c1, le, setApp]
theorem bo_cat {xs ys : List PV} {n : Nat} (h : S[n]? = some (.lst ys)) (hl : xs.length + ys.length ≤ lim) : binop S .add (.lst xs) (.cell n) = some (.lst (xs ++ ys)) := by
  show catL S (.lst xs) (.cell n) = _
  unfold catL
  rw [lo_cell h, lo_lst]
  dsimp only
  rw [if_pos hl]
theorem mul_mono {a b c : Nat} (h : a ≤ b) : a * c ≤ b * c := Nat.mul_le_mul_right c h
/-- one turn -/
theorem reach_turn (hM : M.Ok) (h4 : M.many ≤ 4) {ns : List Nat} (hn : ∀ n ∈ ns, n < M.many) (h0 : 0 ∈ ns) (hl : ns.length ≤ M.many) {t a b d e : Option PV} (hm : 1 ≤ m) :
    ∃ (ns' ms : List Nat) (a' b' d' e' : Option PV), l__law_reached_1.den (cfg prog m) [some M.pv, some (.lst (ns.map nI)), t, a, b, d, e] S = .nx [some M.pv, some (.lst (ns'.map nI)), t, a', b', d', e'] (S ++ [.lst (ms.map nI)]) ∧ (∀ n ∈ ns', n < M.many) ∧ 0 ∈ ns' ∧ ns'.length ≤ M.many := by
  have i3 : ∀ S, index S M.pv (.int 3) = some (.tup (rowsV M)) := fun _ => index_3
  have nr : (rowsV M).length = M.rows.length := by unfold rowsV; simp
  have nr16 := rows16 hM
  obtain ⟨ρ', T, e1, ms, b', d', e', eT, eρ, hms, hlen⟩ := walk_iT (c := cfg prog m) (j := 4) (b := l__law_reached_2) (l := List.range M.rows.length) (e := nI) (ρ := [some M.pv, some (.lst (ns.map nI)), t, some (.cell S.length), b, d, e]) (S := S ++ [PO.lst []])
    (fun i ρ T => ∃ (ms : List Nat) (b' d' e' : Option PV), T = S ++ [.lst (ms.map nI)] ∧ ρ = [some M.pv, some (.lst (ns.map nI)), t, some (.cell S.length), b', d', e'] ∧ (∀ n ∈ ms, n < M.many) ∧ ms.length = i * (ns.length * ns.length))
    ⟨[], b, d, e, rfl, rfl, by simp, by simp⟩ (fun i x ρ T hx ⟨ms, b', d', e', eT, eρ, hms, hlen⟩ => by
      subst eT eρ
      have hx1 : i < M.rows.length ∧ x = i := by
        have := List.getElem?_eq_some_iff.mp hx
        obtain ⟨h1, h2⟩ := this
        rw [List.length_range] at h1
        rw [List.getElem_range] at h2
        exact ⟨h1, h2.symm⟩
      obtain ⟨hx1, rfl⟩ := hx1
      obtain ⟨ρ', T, e1, ms', d2, e2, eT, eρ, hms', hlen'⟩ := walk_iT (c := cfg prog m) (j := 5) (b := l__law_reached_3) (l := ns) (e := nI) (ρ := [some M.pv, some (.lst (ns.map nI)), t, some (.cell S.length), some (nI x), d', e']) (S := S ++ [PO.lst (ms.map nI)])
        (fun k ρ T => ∃ (ms' : List Nat) (d2 e2 : Option PV), T = S ++ [.lst (ms'.map nI)] ∧ ρ = [some M.pv, some (.lst (ns.map nI)), t, some (.cell S.length), some (nI x), d2, e2] ∧ (∀ n ∈ ms', n < M.many) ∧ ms'.length = x * (ns.length * ns.length) + k * ns.length)
        ⟨ms, d', e', rfl, rfl, hms, by simpa using hlen⟩ (fun k y ρ T hy ⟨ms', d2, e2, eT, eρ, hms', hlen'⟩ => by
          subst eT eρ
          have hy1 : y ∈ ns := List.mem_of_getElem? hy
          have hk : k < ns.length := (List.getElem?_eq_some_iff.mp hy).1
          have b1 : x * (ns.length * ns.length) ≤ 15 * 16 := Nat.mul_le_mul (by omega) (Nat.mul_le_mul (show ns.length ≤ 4 by omega) (show ns.length ≤ 4 by omega))
          have b2 : k * ns.length ≤ 4 * 4 := Nat.mul_le_mul (by omega) (by omega)
          refine ⟨_, _, .inl (reach_in hM hn (ms := ms') (by omega) hx1 (hn y hy1) hm), ms' ++ ns.map (fun r => M.moved x y r), some (nI y), e2, rfl, rfl, fun n hn' => ?_, ?_⟩
          · rcases List.mem_append.mp hn' with h | h
            · exact hms' n h
            · obtain ⟨r, hr, rfl⟩ := List.mem_map.mp h
              exact moved_lt hM hx1 (hn y hy1) (hn r hr)
          · rw [List.length_append, List.length_map, hlen', Nat.succ_mul]; omega)
      subst eT eρ
      refine ⟨[some M.pv, some (.lst (ns.map nI)), t, some (.cell S.length), some (nI x), d2, e2], S ++ [.lst (ms'.map nI)], .inl ?_, ms', some (nI x), d2, e2, rfl, rfl, hms', by rw [hlen', Nat.succ_mul]⟩
      simp only [l__law_reached_2]
      simp [e1])
  subst eT eρ
  have gm : (S ++ [PO.lst (ms.map nI)])[S.length]? = some (.lst (ms.map nI)) := getApp
  have lm : ms.length ≤ 16 * 16 := by
    rw [hlen, List.length_range]
    exact Nat.mul_le_mul nr16 (Nat.mul_le_mul (show ns.length ≤ 4 by omega) (show ns.length ≤ 4 by omega))
  have bc := bo_cat (S := S ++ [PO.lst (ms.map nI)]) (xs := ns.map nI) gm (by rw [List.length_map, List.length_map]; show _ ≤ 16777216; omega)
  obtain ⟨ns', es, hmem, hlen2⟩ := srs_n (l := ns ++ ms) (b := M.many) (by omega) (fun n h => by
    rcases List.mem_append.mp h with h | h
    · exact hn n h
    · exact hms n h) (by rw [List.length_append]; omega)
  rw [List.map_append] at es
  refine ⟨ns', ms, some (.cell S.length), b', d', e', ?_, fun n h => ?_, (hmem 0).mpr (List.mem_append_left _ h0), hlen2⟩
  · simp only [l__law_reached_1]
    simp [i3, nr, rg1_int (show ((M.rows.length : Nat) : Int) ≤ 1000000 by omega) (by omega), range_1, e1, bc, es]
  · rcases List.mem_append.mp ((hmem n).mp h) with h | h
    · exact hn n h
    · exact hms n h
theorem c__law_reached (hM : M.Ok) (h4 : M.many ≤ 4) (hm : 2 ≤ m) : ∃ ns : List Nat, (∀ n ∈ ns, n < M.many) ∧ 0 ∈ ns ∧ ns.length ≤ 4 ∧ ((cfg prog m).call "_law_reached" [M.pv] S).fin S = .ok (.lst (ns.map nI)) S := by
  obtain ⟨m, rfl, hk⟩ := up hm
  have i2 : ∀ S, index S M.pv (.int 2) = some (.int (M.many : Nat)) := fun _ => index_2
  obtain ⟨ρ', T, e1, ns, X, t, a, b, d, e, eT, eρ, h1, h2, h3⟩ := walk_iT (c := cfg prog m) (j := 2) (b := l__law_reached_1) (l := List.range M.many) (e := nI) (ρ := [some M.pv, some (.lst (([0] : List Nat).map nI)), none, none, none, none, none]) (S := S)
    (fun i ρ T => ∃ (ns : List Nat) (X : Store) (t a b d e : Option PV), T = S ++ X ∧ ρ = [some M.pv, some (.lst (ns.map nI)), t, a, b, d, e] ∧ (∀ n ∈ ns, n < M.many) ∧ 0 ∈ ns ∧ ns.length ≤ M.many)
    ⟨[0], [], none, none, none, none, none, by simp, rfl, fun n hn => by have := hM.m1; rw [List.mem_singleton.mp hn]; omega, List.mem_singleton.mpr rfl, hM.m1⟩ (fun i x ρ T hx ⟨ns, X, t, a, b, d, e, eT, eρ, h1, h2, h3⟩ => by
      subst eT eρ
      obtain ⟨ns', ms, a', b', d', e', ev, k1, k2, k3⟩ := reach_turn (S := S ++ X) hM h4 h1 h2 h3 (t := some (nI x)) (a := a) (b := b) (d := d) (e := e) hk
      exact ⟨_, _, .inl ev, ns', X ++ [.lst (ms.map nI)], some (nI x), a', b', d', e', by rw [List.append_assoc], rfl, k1, k2, k3⟩)
  subst eT eρ
  refine ⟨ns, h1, h2, by omega, ?_⟩
  rw [call_at lk__law_reached rfl, run_at rfl]
  have f := fin_ok (S := S) (X := X) (v := .lst (ns.map nI)) (by show PV.top.topL (ns.map nI) ≤ _; rw [topL_map fun _ => rfl]; exact Nat.zero_le _)
  have e1' : walk (cfg prog m) (.nm 2) l__law_reached_1 ((List.range M.many).map nI) [some M.pv, some (.lst [PV.int 0]), none, none, none, none, none] S = .nx [some M.pv, some (.lst (ns.map nI)), t, a, b, d, e] (S ++ X) := e1
  simp only [d__law_reached]
  simp [i2, rg1_int (show ((M.many : Nat) : Int) ≤ 1000000 by omega) (by omega), range_1, e1']
  exact f
end
end Q74
end
section
set_option Elab.async false
set_option linter.all false
set_option maxRecDepth 100000
set_option maxHeartbeats 1600000
namespace Q74
open PySem Pz
section
variable {M N : Mach} {S T : Store} {m n : Nat} {st : DSt}
theorem At.self (h : At T n st) : T.set n st.po = T := by
  apply List.ext_getElem?
  intro i
  by_cases e : i = n
  · subst e; rw [List.getElem?_set_self h.lt, h.g]
  · rw [List.getElem?_set_ne (Ne.symm e)]
theorem getApp' {X : Store} {o p : PO} : (S.set n p ++ (o :: X))[S.length]? = some o := by
  have := getApp (S := S.set n p) (X := X) (o := o)
  rwa [List.length_set] at this
theorem setApp' {X : Store} {o o' p : PO} : (S.set n p ++ (o :: X)).set S.length o' = S.set n p ++ (o' :: X) := by
  have := setApp (S := S.set n p) (X := X) (o := o) (o' := o')
  rwa [List.length_set] at this
theorem rg1_n {k : Nat} (h : k ≤ 1000) : rg1 (nI k) S = .ok (.fix ((List.range k).map nI)) S := by
  have := rg1_int (S := S) (j := (k : Nat)) (by omega) (by omega)
  rw [← range_1]
  exact this
theorem get2 {ρ : Pz.Env} {i j : Nat} {v : PV} {o o' : Option PV} (h : ρ[i]? = some (some v)) (hij : i ≠ j) : ((ρ.set j o).set j o')[i]? = some (some v) := by
  rw [List.getElem?_set_ne (Ne.symm hij), List.getElem?_set_ne (Ne.symm hij)]; exact h
/-- a drawn row -/
theorem draw_row (h : At T n st) {ρ : Pz.Env} {many : Nat} (h0 : ρ[0]? = some (some (PV.cell n))) (h4 : ρ[4]? = some (some (nI many))) (hk : 0 < many) (hk2 : many ≤ 48) (hm : 1 ≤ m) :
    ∃ (l : List Nat) (st' : DSt), l.length = many ∧ (∀ x ∈ l, x < many) ∧ (F.comp (.call "_law_draw" (.cons (.var 0) (.cons (.var 4) .nil)) []) (.nm 7) (.rng1 (.var 4)) .none [7]).den (cfg prog m) ρ T = .ok (l.map nI) (T.set n st'.po) := by
  obtain ⟨ys, T', ev, l, st', e1, e2, e3, e4⟩ := f_inv (c := cfg prog m) (ρ := ρ) (S := T) (e := .call "_law_draw" (.cons (.var 0) (.cons (.var 4) .nil)) []) (tg := .nm 7) (it := .rng1 (.var 4)) (cond := .none) (own := [7]) (xs := (List.range many).map nI)
    (fun i acc T' => ∃ (l : List Nat) (st' : DSt), T' = T.set n st'.po ∧ acc = l.map nI ∧ l.length = i ∧ ∀ x ∈ l, x < many)
    (by simp [h4, rg1_n (show many ≤ 1000 by omega)]) ⟨[], st, h.self.symm, rfl, rfl, by simp⟩ (fun i x acc T' hx ⟨l, st', e1, e2, e3, e4⟩ => by
      subst e1 e2
      obtain ⟨t, st2, ht, ed⟩ := c_draw (m := m) hm hk (by omega) (h.set st')
      rw [List.set_set] at ed
      have ed' : ((cfg prog m).call "_law_draw" [.cell n, nI many] (T.set n st'.po)).fin (T.set n st'.po) = .ok (nI t) (T.set n st2.po) := ed
      refine ⟨some (nI t), T.set n st2.po, ?_, l ++ [t], st2, rfl, by simp, by simp [e3], fun y hy => ?_⟩
      · have a0 := get2 (o := none) (o' := some x) h0 (show 0 ≠ 7 by decide)
        have a4 := get2 (o := none) (o' := some x) h4 (show 4 ≠ 7 by decide)
        simp only [cmpStep, wipe, g_nm, R.bind_ok, cmpK2_eq, eb_none, cndK_eq, if_true, e_call, es_cons, es_nil, e_var, a0, a4, vr_some, esK_eq, esC_eq, callK_eq, List.append_nil, ed', someK_eq]
      · rcases List.mem_append.mp hy with hy | hy
        · exact e4 y hy
        · rw [List.mem_singleton.mp hy]; exact ht)
  subst e1 e2
  rw [List.length_map, List.length_range] at e3
  exact ⟨l, st', e3, e4, ev⟩
/-- a drawn table -/
theorem draw_tab (h : At T n st) {ρ : Pz.Env} {many : Nat} (h0 : ρ[0]? = some (some (PV.cell n))) (h4 : ρ[4]? = some (some (nI many))) (hk : 0 < many) (hk2 : many ≤ 48) (hm : 1 ≤ m) :
    ∃ (t : List (List Nat)) (st' : DSt), t.length = many ∧ (∀ r ∈ t, r.length = many ∧ ∀ x ∈ r, x < many) ∧
      (F.comp (.bi .tuple (.cons (.ro (.comp (.call "_law_draw" (.cons (.var 0) (.cons (.var 4) .nil)) []) (.nm 7) (.rng1 (.var 4)) .none [7])) .nil)) (.nm 8) (.rng1 (.var 4)) .none [8]).den (cfg prog m) ρ T = .ok (t.map tup1) (T.set n st'.po) := by
  obtain ⟨ys, T', ev, l, st', e1, e2, e3, e4⟩ := f_inv (c := cfg prog m) (ρ := ρ) (S := T) (e := .bi .tuple (.cons (.ro (.comp (.call "_law_draw" (.cons (.var 0) (.cons (.var 4) .nil)) []) (.nm 7) (.rng1 (.var 4)) .none [7])) .nil)) (tg := .nm 8) (it := .rng1 (.var 4)) (cond := .none) (own := [8]) (xs := (List.range many).map nI)
    (fun i acc T' => ∃ (t : List (List Nat)) (st' : DSt), T' = T.set n st'.po ∧ acc = t.map tup1 ∧ t.length = i ∧ ∀ r ∈ t, r.length = many ∧ ∀ x ∈ r, x < many)
    (by simp [h4, rg1_n (show many ≤ 1000 by omega)]) ⟨[], st, h.self.symm, rfl, rfl, by simp⟩ (fun i x acc T' hx ⟨t, st', e1, e2, e3, e4⟩ => by
      subst e1 e2
      have a0 := get2 (o := none) (o' := some x) h0 (show 0 ≠ 8 by decide)
      have a4 := get2 (o := none) (o' := some x) h4 (show 4 ≠ 8 by decide)
      obtain ⟨r, st2, r1, r2, ed⟩ := draw_row (h.set st') a0 a4 hk hk2 hm
      have e5 : (T.set n st'.po).set n st2.po = T.set n st2.po := List.set_set ..
      rw [e5] at ed
      refine ⟨some (tup1 r), T.set n st2.po, ?_, t ++ [r], st2, rfl, by simp, by simp [e3], fun y hy => ?_⟩
      · simp only [cmpStep, wipe, g_nm, R.bind_ok, cmpK2_eq, eb_none, cndK_eq, if_true, e_bi, es_cons, e_ro, ed, lstK_eq, esK_eq, es_nil, esC_eq, biK_eq, bi_tupL, ofO_some, someK_eq]
        rfl
      · rcases List.mem_append.mp hy with hy | hy
        · exact e4 y hy
        · rw [List.mem_singleton.mp hy]; exact ⟨r1, r2⟩)
  subst e1 e2
  rw [List.length_map, List.length_range] at e3
  exact ⟨l, st', e3, e4, ev⟩
/-- a drawn row, as a value -/
def RowOk (L many : Nat) (at_ : Nat) (t : List (List Nat)) : Prop := t.length = many ∧ ∀ r ∈ t, r.length = many ∧ ∀ x ∈ r, x < many
theorem length_rep {α : Type} (n : Nat) (a : α) : (List.replicate n a).length = n := List.length_replicate
/-- one turn: a row is put to the list in the cell behind S -/
theorem mach_turn (h : At S n st) {L many : Nat} (hL : 3 ≤ L) (hL8 : L ≤ 8) (hk : 0 < many) (hk2 : many ≤ 48) {b2 most : PV} {i : Nat} (hi : i < 16) {xs : List PV} (hxs : xs.length ≤ 16) (tx : PV.top.topL xs = 0) {k j g o : Option PV} (hm : 1 ≤ m) :
    ∃ (t : List (List Nat)) (st' : DSt), (t.length = many ∧ ∀ r ∈ t, r.length = many ∧ ∀ x ∈ r, x < many) ∧ l__law_machine_1.den (cfg prog m) [some (.cell n), some (nI L), some b2, some most, some (nI many), some (.cell S.length), some (nI i), k, j, g, o] (S ++ [.lst xs]) =
      .nx [some (.cell n), some (nI L), some b2, some most, some (nI many), some (.cell S.length), some (nI i), k, j, g, o] (S.set n st'.po ++ [.lst (xs ++ [if i % L = L - 1 then tup1 (gL t 0) else tup2 t])]) := by
  have hT : At (S ++ [.lst xs]) n st := h.app (by show max (PV.top.topL xs) 0 = 0; rw [tx]; rfl)
  have hd : ∀ S x, binop S .fdiv (.int x) (nI L) = some (.int (x / (L : Nat))) := fun _ _ => bo_fdiv (by omega) (by omega)
  have hmul : ∀ S x, binop S .mul (.int x) (nI L) = some (.int (x * (L : Nat))) := fun _ _ => bo_mulR (by omega) (by omega)
  have e1 : decide (((i : Nat) : Int) - ((i : Nat) : Int) / ((L : Nat) : Int) * ((L : Nat) : Int) = ((L : Nat) : Int) - 1) = decide (i % L = L - 1) := by
    refine decide_eq_decide.mpr ?_
    have e2 : ((i : Nat) : Int) - ((i : Nat) : Int) / ((L : Nat) : Int) * ((L : Nat) : Int) = ((i % L : Nat) : Int) := by
      have := Int.emod_add_mul_ediv (i : Nat) (L : Nat)
      rw [Int.natCast_emod, Int.mul_comm]
      omega
    rw [e2]
    omega
  have nn : n ≠ S.length := Nat.ne_of_lt h.lt
  have lx : xs.length < lim := by show _ < 16777216; omega
  have c1 := celAt_cell (S := S ++ [.lst xs]) (n := S.length) (xs := xs) getApp
  by_cases ht : i % L = L - 1
  · obtain ⟨l, st', l1, l2, ed⟩ := draw_row (m := m) hT (ρ := [some (.cell n), some (nI L), some b2, some most, some (nI many), some (.cell S.length), some (nI i), k, j, g, o]) (many := many) rfl rfl hk hk2 hm
    rw [h.setApp] at ed
    have c2 := celAt_cell (S := S.set n st'.po ++ [.lst xs]) (n := S.length) (xs := xs) getApp'
    have s2 : ∀ o', (S.set n st'.po ++ [PO.lst xs]).set S.length o' = S.set n st'.po ++ [o'] := fun o' => setApp'
    refine ⟨List.replicate many l, st', ⟨length_rep _ _, fun r hr => by rw [(List.mem_replicate.mp hr).2]; exact ⟨l1, l2⟩⟩, ?_⟩
    have g0 : gL (List.replicate many l) 0 = l := by
      unfold gL
      rw [List.getD_eq_getElem?_getD, List.getElem?_replicate, if_pos hk]; rfl
    simp only [l__law_machine_1]
    simp only [nI] at e1 hd hmul ed ⊢
    simp [hd, hmul, e1, ht, c1, ed, c2, lx, s2, g0]
    rfl
  · obtain ⟨t, st', l1, l2, ed⟩ := draw_tab (m := m) hT (ρ := [some (.cell n), some (nI L), some b2, some most, some (nI many), some (.cell S.length), some (nI i), k, j, g, o]) (many := many) rfl rfl hk hk2 hm
    rw [h.setApp] at ed
    have c2 := celAt_cell (S := S.set n st'.po ++ [.lst xs]) (n := S.length) (xs := xs) getApp'
    have s2 : ∀ o', (S.set n st'.po ++ [PO.lst xs]).set S.length o' = S.set n st'.po ++ [o'] := fun o' => setApp'
    refine ⟨t, st', ⟨l1, l2⟩, ?_⟩
    simp only [l__law_machine_1]
    simp only [nI] at e1 hd hmul ed ⊢
    simp [hd, hmul, e1, ht, c1, ed, c2, lx, s2]
    rfl
def rw1 (L i : Nat) (t : List (List Nat)) : PV := if i % L = L - 1 then tup1 (gL t 0) else tup2 t
theorem rowV_eq (M : Mach) (i : Nat) (t : List (List Nat)) : rowV M i t = rw1 M.letters i t := by
  unfold rowV rw1 isText
  by_cases h : i % M.letters = M.letters - 1 <;> simp [h]
theorem top_rw1 (L i : Nat) (t : List (List Nat)) : (rw1 L i t).top = 0 := by
  unfold rw1
  split
  · exact top_tup1 _
  · exact top_tup2 _
def rowsL (L : Nat) (tabs : List (List (List Nat))) : List PV := (List.range tabs.length).map fun i => rw1 L i (gT tabs i)
theorem rowsV_eq (M : Mach) : rowsV M = rowsL M.letters M.rows := by
  unfold rowsV rowsL
  exact List.map_congr_left fun i _ => rowV_eq M i _
theorem rowsL_snoc (L : Nat) (tabs : List (List (List Nat))) (t : List (List Nat)) : rowsL L (tabs ++ [t]) = rowsL L tabs ++ [rw1 L tabs.length t] := by
  unfold rowsL
  rw [List.length_append, List.length_singleton, List.range_succ, List.map_append]
  congr 1
  · refine List.map_congr_left fun i hi => ?_
    have := List.mem_range.mp hi
    unfold gT
    rw [List.getD_eq_getElem?_getD, List.getD_eq_getElem?_getD, List.getElem?_append_left this]
  · show [rw1 L tabs.length (gT (tabs ++ [t]) tabs.length)] = _
    unfold gT
    rw [List.getD_eq_getElem?_getD, List.getElem?_append_right (Nat.le_refl _), Nat.sub_self]; rfl
theorem rowsL_len (L : Nat) (tabs : List (List (List Nat))) : (rowsL L tabs).length = tabs.length := by unfold rowsL; simp
theorem top_rowsL (L : Nat) (tabs : List (List (List Nat))) : PV.top.topL (rowsL L tabs) = 0 := topL_map fun _ => top_rw1 _ _ _
/-- drawn good states -/
theorem draw_good (h : At T n st) {ρ : Pz.Env} {many : Nat} (h0 : ρ[0]? = some (some (PV.cell n))) (h4 : ρ[4]? = some (some (nI many))) (hρ : 10 < ρ.length) (hk2 : many ≤ 48) (hm : 1 ≤ m) :
    ∃ (l : List Nat) (st' : DSt), (∀ x ∈ l, x < many) ∧ l.Pairwise (· < ·) ∧ (F.comp (.var 10) (.nm 10) (.rng1 (.var 4)) (.some (.cmp .eq (.call "_law_draw" (.cons (.var 0) (.cons (.con (.int 2)) .nil)) []) (.con (.int 0)))) [10]).den (cfg prog m) ρ T = .ok (l.map nI) (T.set n st'.po) := by
  obtain ⟨ys, T', ev, l, st', e1, e2, e3, e4⟩ := f_inv (c := cfg prog m) (ρ := ρ) (S := T) (e := .var 10) (tg := .nm 10) (it := .rng1 (.var 4)) (cond := .some (.cmp .eq (.call "_law_draw" (.cons (.var 0) (.cons (.con (.int 2)) .nil)) []) (.con (.int 0)))) (own := [10]) (xs := (List.range many).map nI)
    (fun i acc T' => ∃ (l : List Nat) (st' : DSt), T' = T.set n st'.po ∧ acc = l.map nI ∧ (∀ x ∈ l, x < i) ∧ l.Pairwise (· < ·))
    (by simp [h4, rg1_n (show many ≤ 1000 by omega)]) ⟨[], st, h.self.symm, rfl, by simp, List.Pairwise.nil⟩ (fun i x acc T' hx ⟨l, st', e1, e2, e3, e4⟩ => by
      subst e1 e2
      have hx1 : x = nI i := by
        rw [List.getElem?_map] at hx
        obtain ⟨q, hq, rfl⟩ := Option.map_eq_some_iff.mp hx
        obtain ⟨h1, h2⟩ := List.getElem?_eq_some_iff.mp hq
        rw [List.getElem_range] at h2
        rw [h2]
      subst hx1
      obtain ⟨t, st2, ht, ed⟩ := c_draw (m := m) hm (show 0 < 2 by decide) (by decide) (h.set st')
      have e5 : (T.set n st'.po).set n st2.po = T.set n st2.po := List.set_set ..
      rw [e5] at ed
      have ed' : ((cfg prog m).call "_law_draw" [.cell n, .int 2] (T.set n st'.po)).fin (T.set n st'.po) = .ok (.int (t : Nat)) (T.set n st2.po) := ed
      have a0 := get2 (o := none) (o' := some (nI i)) h0 (show 0 ≠ 10 by decide)
      have a10 : ((ρ.set 10 none).set 10 (some (nI i)))[10]? = some (some (nI i)) := by rw [List.getElem?_set_self (by simpa using hρ)]
      by_cases t0 : t = 0
      · refine ⟨some (nI i), T.set n st2.po, ?_, l ++ [i], st2, rfl, by simp, fun y hy => ?_, ?_⟩
        · simp only [cmpStep, wipe, g_nm, R.bind_ok, cmpK2_eq, eb_some, e_cmp, e_call, es_cons, es_nil, e_var, e_con, a0, vr_some, esK_eq, esC_eq, callK_eq, List.append_nil, ed', k2_eq, cmpK_eq, eq_int, ofO_some, tstK_eq, tr_bl, cndK_eq, a10, someK_eq]
          simp [t0]
        · rcases List.mem_append.mp hy with hy | hy
          · have := e3 y hy; omega
          · rw [List.mem_singleton.mp hy]; omega
        · exact List.pairwise_append.mpr ⟨e4, by simp, fun a ha b hb => by rw [List.mem_singleton.mp hb]; exact e3 a ha⟩
      · refine ⟨none, T.set n st2.po, ?_, l, st2, rfl, by simp, fun y hy => by have := e3 y hy; omega, e4⟩
        simp only [cmpStep, wipe, g_nm, R.bind_ok, cmpK2_eq, eb_some, e_cmp, e_call, es_cons, es_nil, e_var, e_con, a0, vr_some, esK_eq, esC_eq, callK_eq, List.append_nil, ed', k2_eq, cmpK_eq, eq_int, ofO_some, tstK_eq, tr_bl, cndK_eq]
        simp [t0])
  subst e1 e2
  rw [List.length_map, List.length_range] at e3
  exact ⟨l, st', e3, e4, ev⟩
theorem c__law_machine (h : At S n st) {L most : Nat} {b : Bool} (hL : 3 ≤ L) (hL8 : L ≤ 8) (h1 : 0 < most) (h48 : most ≤ 48) (hm : 2 ≤ m) :
    ∃ (M : Mach) (st' : DSt), M.Ok ∧ M.letters = L ∧ M.marked = b ∧ M.many ≤ most ∧ ((cfg prog m).call "_law_machine" [.cell n, nI L, .bl b, nI most] S).fin S = .ok M.pv (S.set n st'.po) := by
  obtain ⟨m, rfl, hk⟩ := up hm
  obtain ⟨t0, st1, ht0, ed⟩ := c_draw (m := m) hk h1 (by omega) h
  have ed' : ((cfg prog m).call "_law_draw" [.cell n, nI most] S).fin S = .ok (.int (t0 : Nat)) (S.set n st1.po) := ed
  have H1 := h.set st1
  obtain ⟨K, hKd⟩ : ∃ K, K = if b = true then 2 * L else L := ⟨_, rfl⟩
  have hK : K ≤ 16 := by rw [hKd]; split <;> omega
  obtain ⟨many, hmd⟩ : ∃ many, many = 1 + t0 := ⟨_, rfl⟩
  have hmany : many ≤ most := by omega
  have emany : (.int (1 + ((t0 : Nat) : Int)) : PV) = nI many := by show PV.int _ = PV.int _; congr 1; omega
  obtain ⟨ρ', T, e1, tabs, st2, a6, eT, eρ, htab, hlen⟩ := walk_iT (c := cfg prog m) (j := 6) (b := l__law_machine_1) (l := List.range K) (e := nI) (ρ := [some (.cell n), some (nI L), some (.bl b), some (nI most), some (nI many), some (.cell S.length), none, none, none, none, none]) (S := S.set n st1.po ++ [PO.lst (rowsL L [])])
    (fun i ρ T => ∃ (tabs : List (List (List Nat))) (st2 : DSt) (a6 : Option PV), T = S.set n st2.po ++ [.lst (rowsL L tabs)] ∧ ρ = [some (.cell n), some (nI L), some (.bl b), some (nI most), some (nI many), some (.cell S.length), a6, none, none, none, none] ∧ (∀ t ∈ tabs, t.length = many ∧ ∀ r ∈ t, r.length = many ∧ ∀ x ∈ r, x < many) ∧ tabs.length = i)
    ⟨[], st1, none, rfl, rfl, by simp, rfl⟩ (fun i x ρ T hx ⟨tabs, st2, a6, eT, eρ, htab, hlen⟩ => by
      subst eT eρ
      have hx1 : i < K ∧ x = i := by
        obtain ⟨h1, h2⟩ := List.getElem?_eq_some_iff.mp hx
        rw [List.length_range] at h1
        rw [List.getElem_range] at h2
        exact ⟨h1, h2.symm⟩
      obtain ⟨hx1, rfl⟩ := hx1
      have H2 := h.set st2
      obtain ⟨t, st3, ht, ev⟩ := mach_turn H2 hL hL8 (show 0 < many by omega) (show many ≤ 48 by omega) (b2 := .bl b) (most := nI most) (i := x) (by omega) (xs := rowsL L tabs) (by rw [rowsL_len, hlen]; omega) (top_rowsL _ _) (k := none) (j := none) (g := none) (o := none) hk
      have e5 : (S.set n st2.po).set n st3.po = S.set n st3.po := List.set_set ..
      rw [e5, List.length_set] at ev
      refine ⟨_, _, .inl ev, tabs ++ [t], st3, some (nI x), ?_, rfl, fun u hu => ?_, by simp [hlen]⟩
      · rw [rowsL_snoc, hlen]; rfl
      · rcases List.mem_append.mp hu with hu | hu
        · exact htab u hu
        · rw [List.mem_singleton.mp hu]; exact ht)
  subst eT eρ
  rw [List.length_range] at hlen
  have H2 : At (S.set n st2.po ++ [PO.lst (rowsL L tabs)]) n st2 := (h.set st2).app (by show max (PV.top.topL (rowsL L tabs)) 0 = 0; rw [top_rowsL]; rfl)
  obtain ⟨gd, st3, g1, g2, eg⟩ := draw_good (m := m) H2 (ρ := [some (.cell n), some (nI L), some (.bl b), some (nI most), some (nI many), some (.cell S.length), a6, none, none, none, none]) (many := many) rfl rfl (by simp) (by omega) hk
  have e5 : (S.set n st2.po).set n st3.po = S.set n st3.po := List.set_set ..
  rw [(h.set st2).setApp, e5] at eg
  refine ⟨⟨L, b, many, tabs, gd⟩, st3, ⟨hL, hL8, by show 1 ≤ many; omega, by show many ≤ 48; omega, by rw [hlen, hKd], htab, g1, g2⟩, rfl, rfl, hmany, ?_⟩
  rw [call_at lk__law_machine rfl, run_at rfl]
  have f := h.fin st3 (X := [.lst (rowsL L tabs)]) (v := (Mach.mk L b many tabs gd).pv) (by rw [top_pv]; exact Nat.zero_le _)
  have er : rowsV (Mach.mk L b many tabs gd) = rowsL L tabs := rowsV_eq _
  have ep : (Mach.mk L b many tabs gd).pv = .tup [nI L, .bl b, nI many, .tup (rowsL L tabs), .tup (gd.map nI)] := by
    show PV.tup [_, _, _, .tup (rowsV (Mach.mk L b many tabs gd)), _] = _
    rw [er]; rfl
  have tc : ∀ p, bi (S.set n p ++ [PO.lst (rowsL L tabs)]) .tuple [.cell S.length] = some (.tup (rowsL L tabs)) := fun p => bi_tupC getApp'
  have hmul : ∀ S, binop S .mul (.int 2) (nI L) = some (.int (2 * (L : Nat))) := fun _ => bo_mulL (by omega) (by omega)
  have rg : ∀ S, rg1 (.int (2 * ((L : Nat) : Int))) S = .ok (.fix ((List.range (2 * L)).map nI)) S := fun S => rg1_n (S := S) (k := 2 * L) (by omega)
  have rg' : ∀ S, rg1 (nI L) S = .ok (.fix ((List.range L).map nI)) S := fun S => rg1_n (S := S) (by omega)
  rw [ep] at f ⊢
  have e1' : walk (cfg prog m) (.nm 6) l__law_machine_1 ((List.range K).map nI) [some (.cell n), some (nI L), some (.bl b), some (nI most), some (nI many), some (.cell S.length), none, none, none, none, none] (S.set n st1.po ++ [PO.lst []]) = .nx [some (.cell n), some (nI L), some (.bl b), some (nI most), some (nI many), some (.cell S.length), a6, none, none, none, none] (S.set n st2.po ++ [.lst (rowsL L tabs)]) := e1
  simp only [d__law_machine]
  cases b
  · simp only [Bool.false_eq_true, if_false] at hKd
    subst hKd
    simp [ed', emany, rg', e1', eg, tc]
    exact f
  · simp only [if_true] at hKd
    subst hKd
    simp [ed', emany, hmul, rg, e1', eg, tc]
    exact f
end
end Q74
end
section
set_option Elab.async false
set_option linter.all false
set_option maxRecDepth 100000
set_option maxHeartbeats 1600000
namespace Q74
open PySem Pz
section
variable {M N : Mach} {S T : Store} {m n : Nat} {st : DSt}
/-- some of its good states -/
def cutGood (M : Mach) (p : Nat → Bool) : Mach := { M with good := M.good.filter p }
theorem cutGood_ok (hM : M.Ok) (p : Nat → Bool) : (cutGood M p).Ok := ⟨hM.l3, hM.l8, hM.m1, hM.m48, hM.nr, hM.tb, fun n hn => hM.gd n (List.mem_filter.mp hn).1, hM.up.filter _⟩
theorem c__law_some_machine (h : At S n st) {L : Nat} (hL : 3 ≤ L) (hL8 : L ≤ 8) (hm : 9 ≤ m) :
    ∃ (M : Mach) (st' : DSt), M.Ok ∧ M.letters = L ∧ M.marked = true ∧ M.many ≤ 4 ∧ ((cfg prog m).call "_law_some_machine" [.cell n, nI L] S).fin S = .ok M.pv (S.set n st'.po) := by
  obtain ⟨m, rfl, hk⟩ := up hm
  obtain ⟨t0, st1, ht0, e0⟩ := c_draw (m := m) (k := 3) (by omega) (by omega) (by omega) h
  have e0' : ((cfg prog m).call "_law_draw" [.cell n, .int 3] S).fin S = .ok (.int (t0 : Nat)) (S.set n st1.po) := e0
  have H1 := h.set st1
  -- the machine, before it is cut
  have first : ∃ (M : Mach) (st2 : DSt), M.Ok ∧ M.letters = L ∧ M.marked = true ∧ M.many ≤ 4 ∧ (E.ite (.cmp .eq (.call "_law_draw" (.cons (.var 0) (.cons (.con (.int 3)) .nil)) []) (.con (.int 0))) (.call "lifted" (.cons (.call "_law_machine" (.cons (.var 0) (.cons (.var 1) (.cons (.con (.bl false)) (.cons (.con (.int 4)) .nil)))) []) .nil) []) (.call "_law_machine" (.cons (.var 0) (.cons (.var 1) (.cons (.con (.bl true)) (.cons (.con (.int 4)) .nil)))) [])).den (cfg prog m) [some (.cell n), some (nI L), none, none] S = .ok M.pv (S.set n st2.po) := by
    by_cases z : t0 = 0
    · obtain ⟨M, st2, a1, a2, a3, a4, ev⟩ := c__law_machine (m := m) (b := false) H1 hL hL8 (show 0 < 4 by decide) (by decide) (by omega)
      have e5 : (S.set n st1.po).set n st2.po = S.set n st2.po := List.set_set ..
      rw [e5] at ev
      have ev' : ((cfg prog m).call "_law_machine" [.cell n, nI L, .bl false, .int 4] (S.set n st1.po)).fin (S.set n st1.po) = .ok M.pv (S.set n st2.po) := ev
      refine ⟨lift M, st2, lift_ok a1 a3, a2, rfl, a4, ?_⟩
      simp [e0', z, ev', c_lifted a1 a3 (show 7 ≤ m by omega)]
    · obtain ⟨M, st2, a1, a2, a3, a4, ev⟩ := c__law_machine (m := m) (b := true) H1 hL hL8 (show 0 < 4 by decide) (by decide) (by omega)
      have e5 : (S.set n st1.po).set n st2.po = S.set n st2.po := List.set_set ..
      rw [e5] at ev
      have ev' : ((cfg prog m).call "_law_machine" [.cell n, nI L, .bl true, .int 4] (S.set n st1.po)).fin (S.set n st1.po) = .ok M.pv (S.set n st2.po) := ev
      refine ⟨M, st2, a1, a2, a3, a4, ?_⟩
      simp [e0', z, ev']
  obtain ⟨M, st2, a1, a2, a3, a4, ev⟩ := first
  obtain ⟨t1, st3, ht1, e1⟩ := c_draw (m := m) (k := 2) (by omega) (by omega) (by omega) (h.set st2)
  have e5 : (S.set n st2.po).set n st3.po = S.set n st3.po := List.set_set ..
  rw [e5] at e1
  have e1' : ((cfg prog m).call "_law_draw" [.cell n, .int 2] (S.set n st2.po)).fin (S.set n st2.po) = .ok (.int (t1 : Nat)) (S.set n st3.po) := e1
  have ff : ∀ M : Mach, (R.ok M.pv (S.set n st3.po)).fin S = .ok M.pv (S.set n st3.po) := fun M => h.fin0 st3 (by rw [top_pv]; exact Nat.zero_le _)
  by_cases z : t1 = 0
  · obtain ⟨ns, _, _, _, er⟩ := c__law_reached (S := S.set n st3.po) a1 a4 (show 2 ≤ m by omega)
    refine ⟨cutGood M fun k => !decide (k ∈ ns), st3, cutGood_ok a1 _, a2, a3, a4, ?_⟩
    rw [call_at lk__law_some_machine rfl, run_at rfl]
    have i4 : ∀ S, index S M.pv (.int 4) = some (.tup (M.good.map nI)) := fun _ => index_4
    have sl : ∀ S, slice S M.pv none (some 4) = some (.tup [.int (M.letters : Nat), .bl M.marked, .int (M.many : Nat), .tup (rowsV M)]) := fun S => by
      show slice S (.tup _) none (some 4) = _
      rw [slc_tup, cut_t4]; rfl
    have b2 : ∀ (xs ys : List PV) S, xs.length ≤ 100 → ys.length ≤ 100 → binop S .add (.tup xs) (.tup ys) = some (.tup (xs ++ ys)) := fun _ _ _ h1 h2 => bo_tup (by show _ ≤ 16777216; omega)
    have f := ff (cutGood M fun k => !decide (k ∈ ns))
    have ep : (cutGood M fun k => !decide (k ∈ ns)).pv = .tup [.int (M.letters : Nat), .bl M.marked, .int (M.many : Nat), .tup (rowsV M), .tup ((M.good.filter fun k => !decide (k ∈ ns)).map nI)] := rfl
    rw [ep] at f ⊢
    simp only [d__law_some_machine]
    simp only [List.map, List.cons_append, List.nil_append, s_cons', zs_asg]
    simp only [show d__law_some_machine.slots - d__law_some_machine.params = 2 from rfl, List.replicate, List.cons_append, List.nil_append]
    rw [ev]
    simp [e1', z, sl]
    rw [f_filT M.good nI (fun k => !decide (k ∈ ns)) nI ?_ ?_]
    rotate_left
    · simp [i4]
    · intro k _
      cases q : decide (k ∈ ns) <;> simp [cmpStep, wipe, er, nmemL_n, q]
    simp [b2]
    simpa using f
  · refine ⟨M, st3, a1, a2, a3, a4, ?_⟩
    rw [call_at lk__law_some_machine rfl, run_at rfl]
    have f := ff M
    simp only [d__law_some_machine]
    simp only [List.map, List.cons_append, List.nil_append, s_cons', zs_asg]
    simp only [show d__law_some_machine.slots - d__law_some_machine.params = 2 from rfl, List.replicate, List.cons_append, List.nil_append]
    rw [ev]
    simp [e1', z]
    exact f
theorem c__law_pick (h : At S n st) {xs : List PV} (h0 : 0 < xs.length) (h1 : xs.length ≤ 1000) (ht : PV.top.topL xs = 0) (hm : 2 ≤ m) : ∃ (v : PV) (st' : DSt), v ∈ xs ∧ ((cfg prog m).call "_law_pick" [.cell n, .lst xs] S).fin S = .ok v (S.set n st'.po) := by
  obtain ⟨m, rfl, hk⟩ := up hm
  obtain ⟨t, st1, ht1, e0⟩ := c_draw (m := m) (k := xs.length) hk h0 (by omega) h
  have ix : ∀ S, index S (.lst xs) (.int (t : Nat)) = some xs[t] := fun S => index_natL (List.getElem?_eq_getElem ht1)
  refine ⟨xs[t], st1, List.getElem_mem ht1, ?_⟩
  rw [call_at lk__law_pick rfl, run_at rfl]
  have f := h.fin0 st1 (v := xs[t]) (by rw [topL_mem.mp ht _ (List.getElem_mem ht1)]; exact Nat.zero_le _)
  simp only [d__law_pick]
  simp [e0, ix]
  exact f
/-! ### spoilt papers -/
/-- what a paper is made of -/
def Pc {α : Type} (f : α → PV) (good : α → Prop) (y : PV) : Prop := (∃ a, y = f a ∧ good a) ∨ y = .non ∨ y = .bl true
def Pap {α : Type} (f : α → PV) (good : α → Prop) (p : PV) : Prop := p = .non ∨ (∃ ys, p = .lst ys) ∨ ∃ ys, p = .tup ys ∧ ys.length ≤ 48 ∧ ∀ y ∈ ys, Pc f good y
theorem index_last {xs : List PV} (h : 0 < xs.length) : index S (.tup xs) (.int (-1)) = some (xs[xs.length - 1]) := by
  show L2.atI xs (-1) = _
  unfold L2.atI L2.ixN
  rw [if_neg (by decide), if_pos (by omega)]
  show xs[((-1 : Int) + (xs.length : Nat)).toNat]? = _
  rw [show ((-1 : Int) + (xs.length : Nat)).toNat = xs.length - 1 by omega, List.getElem?_eq_getElem (by omega)]
theorem slc_at {xs : List PV} {t : Nat} : slice S (.tup xs) none (some ((t : Nat) : Int)) = some (.tup (xs.take t)) := by rw [slc_tup, cut_to]
theorem slc_from {xs : List PV} {t : Nat} : slice S (.tup xs) (some (((t : Nat) : Int) + 1)) none = some (.tup (xs.drop (t + 1))) := by
  rw [slc_tup, show (((t : Nat) : Int) + 1) = ((t + 1 : Nat) : Int) by omega, cut_from]
theorem bo_t {xs ys : List PV} (h1 : xs.length ≤ 1000) (h2 : ys.length ≤ 1000) : binop S .add (.tup xs) (.tup ys) = some (.tup (xs ++ ys)) := bo_tup (by show _ ≤ 16777216; omega)
theorem c__law_spoilt {α : Type} {f : α → PV} {good : α → Prop} (hf : ∀ a, (f a).top = 0) (h : At S n st) {l : List α} (h0 : 0 < l.length) (h1 : l.length ≤ 40) (hg : ∀ x ∈ l, good x) {a : α} (ha : good a) {l' : List α} (hs : srsOf ((l ++ [a]).map f) = some (l'.map f)) (hl' : ∀ x ∈ l', x ∈ l ++ [a]) (hl2 : l'.length ≤ 40) (hm : 3 ≤ m) :
    ∃ (p : PV) (st' : DSt), Pap f good p ∧ p.top = 0 ∧ ((cfg prog m).call "_law_spoilt" [.cell n, .tup (l.map f), f a] S).fin S = .ok p (S.set n st'.po) := by
  obtain ⟨m, rfl, hk⟩ := up hm
  obtain ⟨t, st1, ht1, e0⟩ := c_draw (m := m) (k := l.length) (by omega) h0 (by omega) h
  obtain ⟨X, hX⟩ : ∃ X, X = l.map f := ⟨_, rfl⟩
  have lX : X.length = l.length := by rw [hX, List.length_map]
  have pX : ∀ y ∈ X, Pc f good y := fun y hy => by
    rw [hX] at hy
    obtain ⟨x, hx, rfl⟩ := List.mem_map.mp hy
    exact .inl ⟨x, rfl, hg x hx⟩
  have pa : Pc f good (f a) := .inl ⟨a, rfl, ha⟩
  have tX : PV.top.topL X = 0 := by rw [hX]; exact topL_map hf
  have tP : ∀ y, Pc f good y → y.top = 0 := fun y hy => by
    rcases hy with ⟨b, rfl, _⟩ | rfl | rfl
    · exact hf b
    · rfl
    · rfl
  rw [← hX]
  obtain ⟨V, hV⟩ : ∃ V, V = PV.tup X := ⟨_, rfl⟩
  obtain ⟨A, hA⟩ : ∃ A, A = X.take t := ⟨_, rfl⟩
  obtain ⟨B, hB⟩ : ∃ B, B = X.drop (t + 1) := ⟨_, rfl⟩
  obtain ⟨C, hC⟩ : ∃ C, C = X.drop 1 := ⟨_, rfl⟩
  obtain ⟨la, hla⟩ : ∃ la, la = X[X.length - 1]'(by omega) := ⟨_, rfl⟩
  obtain ⟨F, hF⟩ : ∃ F, F = X.take (X.length - 1) := ⟨_, rfl⟩
  obtain ⟨Z, hZ⟩ : ∃ Z, Z = X.take 1 := ⟨_, rfl⟩
  obtain ⟨W, hW⟩ : ∃ W, W = X.reverse := ⟨_, rfl⟩
  obtain ⟨Y, hY⟩ : ∃ Y, Y = l'.map f := ⟨_, rfl⟩
  have sub : ∀ (Q : List PV), (∀ y ∈ Q, y ∈ X) → ∀ y ∈ Q, Pc f good y := fun Q hQ y hy => pX y (hQ y hy)
  have pA := sub A fun y hy => by rw [hA] at hy; exact List.mem_of_mem_take hy
  have pB := sub B fun y hy => by rw [hB] at hy; exact List.mem_of_mem_drop hy
  have pC := sub C fun y hy => by rw [hC] at hy; exact List.mem_of_mem_drop hy
  have pF := sub F fun y hy => by rw [hF] at hy; exact List.mem_of_mem_take hy
  have pZ := sub Z fun y hy => by rw [hZ] at hy; exact List.mem_of_mem_take hy
  have pW := sub W fun y hy => by rw [hW] at hy; exact List.mem_reverse.mp hy
  have pla : Pc f good la := pX la (by rw [hla]; exact List.getElem_mem _)
  have pY : ∀ y ∈ Y, Pc f good y := fun y hy => by
    rw [hY] at hy
    obtain ⟨x, hx, rfl⟩ := List.mem_map.mp hy
    rcases List.mem_append.mp (hl' x hx) with q | q
    · exact .inl ⟨x, rfl, hg x q⟩
    · rw [List.mem_singleton.mp q]; exact pa
  have lA : A.length ≤ 40 := by rw [hA, List.length_take]; omega
  have lB : B.length ≤ 40 := by rw [hB, List.length_drop]; omega
  have lAB : A.length + B.length ≤ 40 := by rw [hA, hB, List.length_take, List.length_drop]; omega
  have lC : C.length ≤ 40 := by rw [hC, List.length_drop]; omega
  have lF : F.length ≤ 40 := by rw [hF, List.length_take]; omega
  have lZ : Z.length ≤ 40 := by rw [hZ, List.length_take]; omega
  have lW : W.length ≤ 40 := by rw [hW, List.length_reverse]; omega
  have lY : Y.length ≤ 40 := by rw [hY, List.length_map]; exact hl2
  have f0 : ∀ S, bi S .len [V] = some (.int (l.length : Nat)) := fun S => by rw [hV, len_tup, lX]
  have f1 : ∀ S, index S V (.int (-1)) = some la := fun S => by rw [hV, hla]; exact index_last (by omega)
  have f2 : ∀ S, slice S V none (some ((t : Nat) : Int)) = some (.tup A) := fun S => by rw [hV, hA]; exact slc_at
  have f3 : ∀ S, slice S V (some (((t : Nat) : Int) + 1)) none = some (.tup B) := fun S => by rw [hV, hB]; exact slc_from
  have f4 : ∀ S, slice S V (some 1) none = some (.tup C) := fun S => by rw [hV, hC, slc_tup, cut_1]
  have f5 : ∀ S, slice S V none (some (-1)) = some (.tup F) := fun S => by rw [hV, hF, slc_tup, cut_l]
  have f6 : ∀ S, slice S V none (some 1) = some (.tup Z) := fun S => by rw [hV, hZ, slc_tup, cut_t1]
  have f7 : (tupOf V).map (fun xs => PV.tup xs.reverse) = some (.tup W) := by rw [hV, hW]; rfl
  have f8 : ∀ S, seqOf S V = some X := fun S => by rw [hV]; rfl
  have g1 : ∀ S, binop S .add (.tup A) (.tup B) = some (.tup (A ++ B)) := fun S => bo_t (by omega) (by omega)
  have g2 : ∀ (x : PV) S, binop S .add V (.tup [x]) = some (.tup (X ++ [x])) := fun x S => by rw [hV]; exact bo_t (by omega) (by simp)
  have g3 : ∀ S, binop S .add (.tup F) (.tup [f a]) = some (.tup (F ++ [f a])) := fun S => bo_t (by omega) (by simp)
  have g4 : ∀ S, binop S .add (.tup A) (.tup [.bl true]) = some (.tup (A ++ [.bl true])) := fun S => bo_t (by omega) (by simp)
  have g5 : ∀ S, binop S .add (.tup (A ++ [.bl true])) (.tup B) = some (.tup (A ++ [.bl true] ++ B)) := fun S => bo_t (by simp; omega) (by omega)
  have g6 : srsOf (X ++ [f a]) = some Y := by rw [hX, hY, ← hs, List.map_append]; rfl
  obtain ⟨R, hR⟩ : ∃ R, R = [V, V, .tup (A ++ B), .tup C, .tup W, .tup (X ++ [la]), .tup (F ++ [f a]), .tup Y, .tup (X ++ [.non]), .lst X, .non, .tup (A ++ [.bl true] ++ B), .tup [], .tup Z] := ⟨_, rfl⟩
  have gR : ∀ xs ys : List PV, xs.length ≤ 100 → ys.length ≤ 100 → ∀ S, binop S .add (.lst xs) (.lst ys) = some (.lst (xs ++ ys)) := fun xs ys h1 h2 S => bo_lst (by show _ ≤ 16777216; omega)
  have tup_ok : ∀ ys : List PV, ys.length ≤ 48 → (∀ y ∈ ys, Pc f good y) → Pap f good (.tup ys) ∧ (PV.tup ys).top = 0 := fun ys l p => ⟨.inr (.inr ⟨ys, rfl, l, p⟩), topL_mem.mpr fun y hy => tP y (p y hy)⟩
  have app2 : ∀ {P Q : List PV}, (∀ y ∈ P, Pc f good y) → (∀ y ∈ Q, Pc f good y) → ∀ y ∈ P ++ Q, Pc f good y := fun hP hQ y hy => by
    rcases List.mem_append.mp hy with q | q
    · exact hP y q
    · exact hQ y q
  have one : ∀ {x : PV}, Pc f good x → ∀ y ∈ [x], Pc f good y := fun hx y hy => by rw [List.mem_singleton.mp hy]; exact hx
  have aR : ∀ p ∈ R, Pap f good p ∧ p.top = 0 := fun p hp => by
    rw [hR] at hp
    simp only [List.mem_cons, List.not_mem_nil, or_false] at hp
    rcases hp with rfl | rfl | rfl | rfl | rfl | rfl | rfl | rfl | rfl | rfl | rfl | rfl | rfl | rfl
    · rw [hV]; exact tup_ok _ (by omega) pX
    · rw [hV]; exact tup_ok _ (by omega) pX
    · exact tup_ok _ (by rw [List.length_append]; omega) (app2 pA pB)
    · exact tup_ok _ (by omega) pC
    · exact tup_ok _ (by omega) pW
    · exact tup_ok _ (by rw [List.length_append, List.length_singleton]; omega) (app2 pX (one pla))
    · exact tup_ok _ (by rw [List.length_append, List.length_singleton]; omega) (app2 pF (one pa))
    · exact tup_ok _ (by omega) pY
    · exact tup_ok _ (by rw [List.length_append, List.length_singleton]; omega) (app2 pX (one (.inr (.inl rfl))))
    · exact ⟨.inr (.inl ⟨_, rfl⟩), tX⟩
    · exact ⟨.inl rfl, rfl⟩
    · exact tup_ok _ (by rw [List.length_append, List.length_append, List.length_singleton]; omega) (app2 (app2 pA (one (.inr (.inr rfl)))) pB)
    · exact tup_ok _ (by simp) (by simp)
    · exact tup_ok _ (by omega) pZ
  obtain ⟨p, st2, hp, e1⟩ := c__law_pick (m := m) (h.set st1) (xs := R) (by rw [hR]; simp) (by rw [hR]; simp) (topL_mem.mpr fun y hy => (aR y hy).2) hk
  have e5 : (S.set n st1.po).set n st2.po = S.set n st2.po := List.set_set ..
  rw [e5, hR] at e1
  refine ⟨p, st2, (aR p hp).1, (aR p hp).2, ?_⟩
  rw [call_at lk__law_spoilt rfl, run_at rfl]
  have ff := h.fin0 st2 (v := p) (by rw [(aR p hp).2]; exact Nat.zero_le _)
  rw [← hV]
  simp only [d__law_spoilt]
  simp [f0, f1, f2, f3, f4, f5, f6, f7, f8, g1, g2, g3, g4, g5, g6, gR, e0, -List.append_assoc]
  rw [e1]
  simp
  exact ff
end
end Q74
end
section
set_option Elab.async false
set_option linter.all false
set_option maxRecDepth 100000
set_option maxHeartbeats 1600000
namespace Q74
open PySem Pz
section
variable {M N : Mach} {S T : Store} {m n : Nat} {st : DSt}
/-! ### what is heard -/
/-- an error with a word, and how it is told -/
structure Told (y : Str) (w s : Str) : Prop where
  e : y ∈ prog.fld.map (·.1)
  t : ("TreeError" : Str) ∈ y :: (prog.sub.lookup y).getD []
  h : hotP prog "_law_word" y (.str w) = some s
  l : s.length ≤ lim
  o : PyData.strOk s = true
theorem told_form : Told "PaperError" "form" "paper form" := ⟨by decide +kernel, by decide +kernel, by decide +kernel, by decide +kernel, by decide +kernel⟩
theorem told_begin : Told "PaperError" "begin" "paper begin" := ⟨by decide +kernel, by decide +kernel, by decide +kernel, by decide +kernel, by decide +kernel⟩
theorem told_row : Told "PaperError" "row" "paper row" := ⟨by decide +kernel, by decide +kernel, by decide +kernel, by decide +kernel, by decide +kernel⟩
theorem told_good : Told "PaperError" "good" "paper good" := ⟨by decide +kernel, by decide +kernel, by decide +kernel, by decide +kernel, by decide +kernel⟩
theorem told_other : Told "ArgumentError" "other" "argument other" := ⟨by decide +kernel, by decide +kernel, by decide +kernel, by decide +kernel, by decide +kernel⟩
theorem told_word : Told "ArgumentError" "word" "argument word" := ⟨by decide +kernel, by decide +kernel, by decide +kernel, by decide +kernel, by decide +kernel⟩
theorem told_one : Told "ArgumentError" "one" "argument one" := ⟨by decide +kernel, by decide +kernel, by decide +kernel, by decide +kernel, by decide +kernel⟩
theorem Told.try {y w s : Str} (t : Told y w s) {i : Nat} {ρ : Pz.Env} (hi : i < ρ.length) : tryR (cfg prog m) "TreeError" "_law_word" i (.exc y (.str w) ρ S) = .rt (.str s) ρ S :=
  tryR_exc (by rw [cfg_errs]; exact t.e) (by rw [cfg_sub]; exact t.t) (by rw [cfg_hot]; exact t.h) hi t.l
theorem asked2_ok {g : Str} {a b v : PV} (hm : 1 ≤ m) (hc : ((cfg prog (m - 1)).call g [a, b] S).fin S = .ok v S) (hv : v.top = 0) : ((cfg prog m).call "_law_asked" [.fn g, .lst [a, b]] S).fin S = .ok (.lst [v]) S := by
  obtain ⟨m, rfl, hk⟩ := up hm
  rw [call_at lk__law_asked rfl, run_at rfl]
  have f := fin_ok0 (S := S) (v := .lst [v]) (by show max v.top 0 ≤ _; rw [hv]; exact Nat.zero_le _)
  have hc : ((cfg prog m).call g [a, b] S).fin S = .ok v S := hc
  simp only [d__law_asked]
  simp [hc]
  exact f
theorem asked2_exc {g : Str} {a b : PV} {y w s : Str} (hm : 1 ≤ m) (hc : ((cfg prog (m - 1)).call g [a, b] S).fin S = .exc y (.str w) S) (t : Told y w s) : ((cfg prog m).call "_law_asked" [.fn g, .lst [a, b]] S).fin S = .ok (.str s) S := by
  obtain ⟨m, rfl, hk⟩ := up hm
  rw [call_at lk__law_asked rfl, run_at rfl]
  have hc : ((cfg prog m).call g [a, b] S).fin S = .exc y (.str w) S := hc
  simp only [d__law_asked]
  simp [hc, t.try]
theorem asked4_ok {g : Str} {a b c d v : PV} (hm : 1 ≤ m) (hc : ((cfg prog (m - 1)).call g [a, b, c, d] S).fin S = .ok v S) (hv : v.top = 0) : ((cfg prog m).call "_law_asked" [.fn g, .lst [a, b, c, d]] S).fin S = .ok (.lst [v]) S := by
  obtain ⟨m, rfl, hk⟩ := up hm
  rw [call_at lk__law_asked rfl, run_at rfl]
  have f := fin_ok0 (S := S) (v := .lst [v]) (by show max v.top 0 ≤ _; rw [hv]; exact Nat.zero_le _)
  have hc : ((cfg prog m).call g [a, b, c, d] S).fin S = .ok v S := hc
  simp only [d__law_asked]
  simp [hc]
  exact f
theorem asked4_exc {g : Str} {a b c d : PV} {y w s : Str} (hm : 1 ≤ m) (hc : ((cfg prog (m - 1)).call g [a, b, c, d] S).fin S = .exc y (.str w) S) (t : Told y w s) : ((cfg prog m).call "_law_asked" [.fn g, .lst [a, b, c, d]] S).fin S = .ok (.str s) S := by
  obtain ⟨m, rfl, hk⟩ := up hm
  rw [call_at lk__law_asked rfl, run_at rfl]
  have hc : ((cfg prog m).call g [a, b, c, d] S).fin S = .exc y (.str w) S := hc
  simp only [d__law_asked]
  simp [hc, t.try]
theorem c__law_heard_str {x : Str} (hm : 1 ≤ m) : ((cfg prog m).call "_law_heard" [.str x] S).fin S = .ok (.str x) S := by
  obtain ⟨m, rfl, hk⟩ := up hm
  rw [call_at lk__law_heard rfl, run_at rfl]
  simp only [d__law_heard]
  simp
theorem c__law_heard_non (hm : 1 ≤ m) : ((cfg prog m).call "_law_heard" [.lst [.non]] S).fin S = .ok .non S := by
  obtain ⟨m, rfl, hk⟩ := up hm
  rw [call_at lk__law_heard rfl, run_at rfl]
  simp only [d__law_heard]
  simp
/-- the same word, or none -/
theorem ne_str {x : Str} (h : PyData.strOk x = true) : cmpop S .ne (.str x) (.str x) = some (.bl false) := by
  rw [ne_dat (dat_str h) (dat_str h)]
  simp [PyData.eqv]
theorem ne_non : cmpop S .ne .non .non = some (.bl false) := by
  rw [ne_dat dat_non dat_non]
  simp [PyData.eqv]
theorem due_cases {α : Type} [DecidableEq α] (lt : α → α → Bool) (zero : α) (nl : Nat) (step : Nat → α → α → α) (bad : α → Bool) (ns : List α) : due lt zero nl step bad ns = none ∨ due lt zero nl step bad ns = some "form" ∨ due lt zero nl step bad ns = some "begin" ∨ due lt zero nl step bad ns = some "row" ∨ due lt zero nl step bad ns = some "good" := by
  unfold due
  split
  · simp
  · split
    · split
      · simp
      · split <;> simp
    · simp
/-- a paper of numbers: rows of states, or none -/
theorem paper_cases {many : Nat} {p : PV} (h : Pap nI (fun n => n < many) p) : (∃ ns : List Nat, p = .tup (ns.map nI) ∧ (∀ n ∈ ns, n < many) ∧ ns.length ≤ 48) ∨ BadC many p := by
  rcases h with rfl | ⟨ys, rfl⟩ | ⟨ys, rfl, hl, hy⟩
  · exact .inr (.inl rfl)
  · exact .inr (.inr (.inl ⟨ys, rfl⟩))
  · by_cases ha : ys.all (numB many) = true
    · refine .inl ?_
      have key : ∀ zs : List PV, (∀ y ∈ zs, Pc nI (fun n => n < many) y) → zs.all (numB many) = true → ∃ ns : List Nat, zs = ns.map nI ∧ ∀ n ∈ ns, n < many := by
        intro zs
        induction zs with
        | nil => intro _ _; exact ⟨[], rfl, by simp⟩
        | cons z zs ih =>
          intro h1 h2
          rw [List.all_cons, Bool.and_eq_true] at h2
          obtain ⟨ns, e, hn⟩ := ih (fun y hy => h1 y (List.mem_cons_of_mem _ hy)) h2.2
          rcases h1 z List.mem_cons_self with ⟨a, rfl, ha⟩ | rfl | rfl
          · refine ⟨a :: ns, by rw [e]; rfl, fun n hn' => ?_⟩
            rcases List.mem_cons.mp hn' with rfl | hn'
            · exact ha
            · exact hn n hn'
          · cases h2.1
          · cases h2.1
      obtain ⟨ns, rfl, hn⟩ := key ys hy ha
      exact ⟨ns, rfl, hn, by simpa using hl⟩
    · refine .inr (.inr (.inr ⟨ys, rfl, fun y h => ?_, by simpa using ha⟩))
      rcases hy y h with ⟨a, rfl, _⟩ | rfl | rfl <;> rfl
/-- one turn of the states' test -/
theorem states_one (hM : M.Ok) {p : PV} (hp : Pap nI (fun n => n < M.many) p) (hm : 9 ≤ m) : (E.cmp .ne (.call "_law_heard" (.cons (.call "_law_asked" (.cons (.glo "accept_closed" (.fn "accept_closed")) (.cons (.ro (.disp (.cons (.var 1) (.cons (.var 4) .nil)))) .nil)) []) .nil) []) (.call "_law_closed_due" (.cons (.var 1) (.cons (.var 4) .nil)) [])).den (cfg prog m) [some (.cell n), some M.pv, T1, T3, some p] S = .ok (.bl false) S := by
  rcases paper_cases hp with ⟨ns, rfl, hn, hl⟩ | hb
  · have a1 := c_accept_closed (S := S) hM hn (m := m - 1) (by omega)
    have a2 := c__law_closed_due (S := S) hM hn (by omega) (m := m) (by omega)
    rcases due_cases (fun a b => decide (a < b)) 0 M.rows.length M.moved (fun a => decide (a ∈ M.good)) ns with e | e | e | e | e
    · rw [e] at a1 a2
      have a3 := asked2_ok (m := m) (by omega) a1 rfl
      simp [a3, a2, c__law_heard_non (show 1 ≤ m by omega), dueV, ne_non]
    · rw [e] at a1 a2
      have a3 := asked2_exc (m := m) (by omega) a1 told_form
      simp [a3, a2, c__law_heard_str (show 1 ≤ m by omega), dueV, p_form, ne_str told_form.o]
    · rw [e] at a1 a2
      have a3 := asked2_exc (m := m) (by omega) a1 told_begin
      simp [a3, a2, c__law_heard_str (show 1 ≤ m by omega), dueV, p_begin, ne_str told_begin.o]
    · rw [e] at a1 a2
      have a3 := asked2_exc (m := m) (by omega) a1 told_row
      simp [a3, a2, c__law_heard_str (show 1 ≤ m by omega), dueV, p_row, ne_str told_row.o]
    · rw [e] at a1 a2
      have a3 := asked2_exc (m := m) (by omega) a1 told_good
      simp [a3, a2, c__law_heard_str (show 1 ≤ m by omega), dueV, p_good, ne_str told_good.o]
  · have a1 := c_accept_closed_bad (S := S) hM hb (m := m - 1) (by omega)
    have a2 := c__law_closed_due_bad (S := S) hM hb (m := m) (by omega)
    have a3 := asked2_exc (m := m) (by omega) a1 told_form
    simp [a3, a2, c__law_heard_str (show 1 ≤ m by omega), ne_str told_form.o]
end
end Q74
end
section
set_option Elab.async false
set_option linter.all false
set_option maxRecDepth 100000
set_option maxHeartbeats 1600000
namespace Q74
open PySem Pz
section
variable {M N : Mach} {S T : Store} {m n : Nat} {st : DSt}
theorem states_turn (h : At S n st) (hM : M.Ok) (h4 : M.many ≤ 4) {ns : List Nat} (hn : ∀ x ∈ ns, x < M.many) (h0 : 0 ∈ ns) (hl : ns.length ≤ 4) {t p : Option PV} (hm : 9 ≤ m) :
    ∃ (p' : Option PV) (st' : DSt), l__law_states_hold_1.den (cfg prog m) [some (.cell n), some M.pv, some (.tup (ns.map nI)), t, p] S = .nx [some (.cell n), some M.pv, some (.tup (ns.map nI)), t, p'] (S.set n st'.po) := by
  obtain ⟨a, st1, ha, e0⟩ := c_draw (m := m) (k := M.many) (by omega) hM.m1 (by omega) h
  have e0' : ((cfg prog m).call "_law_draw" [.cell n, .int (M.many : Nat)] S).fin S = .ok (nI a) (S.set n st1.po) := e0
  have i2 : ∀ S, index S M.pv (.int 2) = some (.int (M.many : Nat)) := fun _ => index_2
  obtain ⟨l', hs, hmem, hlen⟩ := srs_n (l := ns ++ [a]) (b := M.many) (by omega) (fun x hx => by
    rcases List.mem_append.mp hx with q | q
    · exact hn x q
    · rw [List.mem_singleton.mp q]; exact ha) (by rw [List.length_append, List.length_singleton]; omega)
  obtain ⟨q, st2, hp, htop, e1⟩ := c__law_spoilt (f := nI) (good := fun x => x < M.many) (fun _ => rfl) (h.set st1) (l := ns) (List.length_pos_of_mem h0) (by omega) hn (a := a) ha hs (fun x hx => (hmem x).mp hx) (by omega) (m := m) (by omega)
  have e5 : (S.set n st1.po).set n st2.po = S.set n st2.po := List.set_set ..
  rw [e5] at e1
  have ev := states_one (S := S.set n st2.po) (n := n) (T1 := some (.tup (ns.map nI))) (T3 := t) hM hp hm
  refine ⟨some q, st2, ?_⟩
  simp only [l__law_states_hold_1, s_cons', zs_asg, zs_ite]
  simp only [e_call, es_cons, es_nil, e_var, e_idx, e_con, List.getElem?_cons_zero, List.getElem?_cons_succ, vr_some, R.bind_ok, k2_eq, idxK_eq, i2, ofO_some, esK_eq, esC_eq, callK_eq, List.append_nil, e0', e1, asgR_ok, g_nm, asgG_ok, thn_nx, List.set_cons_succ, List.set_cons_zero]
  rw [s_cons', zs_ite, ev]
  simp
theorem c__law_states_hold (h : At S n st) (hm : 10 ≤ m) : ∃ (st' : DSt), ((cfg prog m).call "_law_states_hold" [.cell n] S).fin S = .ok (.bl true) (S.set n st'.po) := by
  obtain ⟨m, rfl, hk⟩ := up hm
  obtain ⟨a, st1, ha, e0⟩ := c_draw (m := m) (k := 2) (by omega) (by omega) (by omega) h
  have e0' : ((cfg prog m).call "_law_draw" [.cell n, .int 2] S).fin S = .ok (.int (a : Nat)) (S.set n st1.po) := e0
  obtain ⟨M, st2, a1, a2, a3, a4, e1⟩ := c__law_some_machine (m := m) (h.set st1) (L := 3 + a) (by omega) (by omega) (by omega)
  have e5 : (S.set n st1.po).set n st2.po = S.set n st2.po := List.set_set ..
  rw [e5] at e1
  have eL : (nI (3 + a) : PV) = .int (3 + ((a : Nat) : Int)) := by show PV.int _ = _; congr 1
  rw [eL] at e1
  obtain ⟨ns, b1, b2, b3, e2⟩ := c__law_reached (S := S.set n st2.po) a1 a4 (show 2 ≤ m by omega)
  obtain ⟨ρ', T, e3, st3, t, p, eT, eρ⟩ := walk_iT (c := cfg prog m) (j := 3) (b := l__law_states_hold_1) (l := List.range 6) (e := nI) (ρ := [some (.cell n), some M.pv, some (.tup (ns.map nI)), none, none]) (S := S.set n st2.po)
    (fun i ρ T => ∃ (st3 : DSt) (t p : Option PV), T = S.set n st3.po ∧ ρ = [some (.cell n), some M.pv, some (.tup (ns.map nI)), t, p])
    ⟨st2, none, none, rfl, rfl⟩ (fun i x ρ T _ ⟨st3, t, p, eT, eρ⟩ => by
      subst eT eρ
      obtain ⟨p', st4, ev⟩ := states_turn (h.set st3) a1 a4 b1 b2 b3 (t := some (nI x)) (p := p) hk
      have e6 : (S.set n st3.po).set n st4.po = S.set n st4.po := List.set_set ..
      rw [e6] at ev
      exact ⟨_, _, .inl ev, st4, some (nI x), p', rfl, rfl⟩)
  subst eT eρ
  refine ⟨st3, ?_⟩
  rw [call_at lk__law_states_hold rfl, run_at rfl]
  have f := h.fin0 st3 (v := .bl true) (Nat.zero_le _)
  have r6 : ∀ S, rg1 (.int 6) S = .ok (.fix ((List.range 6).map nI)) S := fun S => rg1_n (S := S) (k := 6) (by omega)
  simp only [d__law_states_hold]
  simp [e0', e1, e2, r6, e3]
  exact f
end
end Q74
end
section
set_option Elab.async false
set_option linter.all false
set_option maxRecDepth 100000
set_option maxHeartbeats 1600000
namespace Q74
open PySem Pz
section
variable {M N : Mach} {S T : Store} {m n : Nat} {st : DSt}
/-! ### pairs -/
def ltP (p q : Nat × Nat) : Bool := decide (p.1 < q.1) || (decide (p.1 = q.1) && decide (p.2 < q.2))
theorem ge_nP (S : Store) (a b : Nat × Nat) : cmpop S .ge (nP a) (nP b) = some (.bl (!ltP a b)) := by
  obtain ⟨a1, a2⟩ := a
  obtain ⟨b1, b2⟩ := b
  show some (PV.bl (lexG (fun i j => decide (j ≤ i)) (fun i j => decide (j ≤ i)) [((a1 : Nat) : Int), ((a2 : Nat) : Int)] [((b1 : Nat) : Int), ((b2 : Nat) : Int)])) = _
  congr 2
  unfold ltP
  simp only [lexG]
  by_cases h1 : a1 = b1
  · subst h1
    by_cases h2 : a2 = b2
    · subst h2; simp
    · have h2' : ¬ ((a2 : Nat) : Int) = (b2 : Nat) := by omega
      simp [h2']
      rw [Bool.eq_iff_iff]; simp
  · have h1' : ¬ ((a1 : Nat) : Int) = (b1 : Nat) := by omega
    simp [h1, h1']
    rw [Bool.eq_iff_iff]; simp
theorem c_is_pair_p {p : Nat × Nat} (h1 : p.1 < M.many) (h2 : p.2 < N.many) (hm : 3 ≤ m) : ((cfg prog m).call "is_pair" [nP p, M.pv, N.pv] S).fin S = .ok (.bl true) S := by
  obtain ⟨m, rfl, hk⟩ := up hm
  rw [call_at lk_is_pair rfl, run_at rfl]
  have i2 : ∀ (M : Mach) S, index S M.pv (.int 2) = some (.int (M.many : Nat)) := fun _ _ => index_2
  simp only [d_is_pair, nP]
  simp [i2, c_is_number_n hk, h1, h2]
theorem c_is_pair_no {v : PV} (hv : v = .non ∨ v = .bl true) (hm : 1 ≤ m) : ((cfg prog m).call "is_pair" [v, M.pv, N.pv] S).fin S = .ok (.bl false) S := by
  obtain ⟨m, rfl, hk⟩ := up hm
  rw [call_at lk_is_pair rfl, run_at rfl]
  simp only [d_is_pair]
  rcases hv with rfl | rfl <;> simp
theorem c__law_is_pair_p {p : Nat × Nat} (h1 : p.1 < M.many) (h2 : p.2 < N.many) (hm : 2 ≤ m) : ((cfg prog m).call "_law_is_pair" [nP p, M.pv, N.pv] S).fin S = .ok (.bl true) S := by
  obtain ⟨m, rfl, hk⟩ := up hm
  rw [call_at lk__law_is_pair rfl, run_at rfl]
  have i2 : ∀ (M : Mach) S, index S M.pv (.int 2) = some (.int (M.many : Nat)) := fun _ _ => index_2
  simp only [d__law_is_pair, nP]
  simp [i2, c__law_is_state_n hk, h1, h2]
theorem c__law_is_pair_no {v : PV} (hv : v = .non ∨ v = .bl true) (hm : 1 ≤ m) : ((cfg prog m).call "_law_is_pair" [v, M.pv, N.pv] S).fin S = .ok (.bl false) S := by
  obtain ⟨m, rfl, hk⟩ := up hm
  rw [call_at lk__law_is_pair rfl, run_at rfl]
  simp only [d__law_is_pair]
  rcases hv with rfl | rfl <;> simp
/-- both moved -/
def moved2 (M N : Mach) (l : Nat) (k r : Nat × Nat) : Nat × Nat := (M.moved l k.1 r.1, N.moved l k.2 r.2)
theorem top_nP (p : Nat × Nat) : (nP p).top = 0 := rfl
theorem c__law_both_moved (hM : M.Ok) (hN : N.Ok) {l : Nat} {k r : Nat × Nat} (hl : l < M.rows.length) (hl2 : l < N.rows.length) (k1 : k.1 < M.many) (k2 : k.2 < N.many) (r1 : r.1 < M.many) (r2 : r.2 < N.many) (hm : 2 ≤ m) :
    ((cfg prog m).call "_law_both_moved" [M.pv, N.pv, nI l, nP k, nP r] S).fin S = .ok (nP (moved2 M N l k r)) S := by
  obtain ⟨m, rfl, hk⟩ := up hm
  rw [call_at lk__law_both_moved rfl, run_at rfl]
  have f := fin_ok0 (S := S) (v := nP (moved2 M N l k r)) (Nat.zero_le _)
  simp only [d__law_both_moved, nP]
  simp [c__law_moved hM hk hl k1 r1, c__law_moved hN hk hl2 k2 r2]
  exact f
/-! ### the class Two -/
def two (M N : Mach) (w : Str) : PO := .ins "Two" [("letters", .int (M.letters : Nat)), ("marked", .bl M.marked), ("one", M.pv), ("other", N.pv), ("word", .str w)]
theorem two_top (M N : Mach) (w : Str) : (two M N w).top = 0 := by
  show max 0 (max 0 (max M.pv.top (max N.pv.top (max 0 0)))) = 0
  rw [top_pv, top_pv]; rfl
section
variable {a b c d e : PV}
theorem pf1 : putF "letters" a [] = [(("letters" : Str), a)] := by kernel_rfl
theorem pf2 : putF "marked" b [(("letters" : Str), a)] = [(("letters" : Str), a), (("marked" : Str), b)] := by kernel_rfl
theorem pf3 : putF "one" c [(("letters" : Str), a), (("marked" : Str), b)] = [(("letters" : Str), a), (("marked" : Str), b), (("one" : Str), c)] := by kernel_rfl
theorem pf4 : putF "other" d [(("letters" : Str), a), (("marked" : Str), b), (("one" : Str), c)] = [(("letters" : Str), a), (("marked" : Str), b), (("one" : Str), c), (("other" : Str), d)] := by kernel_rfl
theorem pf5 : putF "word" e [(("letters" : Str), a), (("marked" : Str), b), (("one" : Str), c), (("other" : Str), d)] = [(("letters" : Str), a), (("marked" : Str), b), (("one" : Str), c), (("other" : Str), d), (("word" : Str), e)] := by kernel_rfl
theorem lf1 : List.lookup ("one" : Str) [(("letters" : Str), a), ("marked", b), ("one", c), ("other", d), ("word", e)] = some c := by kernel_rfl
theorem lf2 : List.lookup ("other" : Str) [(("letters" : Str), a), ("marked", b), ("one", c), ("other", d), ("word", e)] = some d := by kernel_rfl
theorem lf3 : List.lookup ("word" : Str) [(("letters" : Str), a), ("marked", b), ("one", c), ("other", d), ("word", e)] = some e := by kernel_rfl
theorem lf4 : List.lookup ("step" : Str) [(("letters" : Str), a), ("marked", b), ("one", c), ("other", d), ("word", e)] = none := by kernel_rfl
theorem lf5 : List.lookup ("is_good" : Str) [(("letters" : Str), a), ("marked", b), ("one", c), ("other", d), ("word", e)] = none := by kernel_rfl
end
theorem at1 : ("letters" : Str) ∈ (cfg prog m).attrs "Two" := by rw [cfg_attrs]; decide +kernel
theorem at2 : ("marked" : Str) ∈ (cfg prog m).attrs "Two" := by rw [cfg_attrs]; decide +kernel
theorem at3 : ("one" : Str) ∈ (cfg prog m).attrs "Two" := by rw [cfg_attrs]; decide +kernel
theorem at4 : ("other" : Str) ∈ (cfg prog m).attrs "Two" := by rw [cfg_attrs]; decide +kernel
theorem at5 : ("word" : Str) ∈ (cfg prog m).attrs "Two" := by rw [cfg_attrs]; decide +kernel
theorem insApp {C : Str} {fs : List (Str × PV)} : insAt (S ++ [.ins C fs]) (.cell S.length) = some (S.length, C, fs) := insAt_cell getApp
/-- Two(one, other, word) -/
theorem make_two {w : Str} (tS : topS S = 0) {ρ : Pz.Env} {ea eb ec : E} (h1 : ∀ S, ea.den (cfg prog m) ρ S = .ok M.pv S) (h2 : ∀ S, eb.den (cfg prog m) ρ S = .ok N.pv S) (h3 : ∀ S, ec.den (cfg prog m) ρ S = .ok (.str w) S) (hm : 2 ≤ m) :
    (E.make "Two" (.cons ea (.cons eb (.cons ec .nil)))).den (cfg prog m) ρ S = .ok (.cell S.length) (S ++ [two M N w]) := by
  obtain ⟨m, rfl, hk⟩ := up hm
  obtain ⟨m, rfl, hk⟩ := up hk
  rw [e_make cfg_mks]
  simp only [es_cons, h1, R.bind_ok, esK_eq, h2, h3, es_nil, esC_eq, mkK_eq]
  rw [init_at lm_Two___init__, run_at rfl]
  have sl : ∀ S, slice S M.pv none (some 2) = some (.tup [.int (M.letters : Nat), .bl M.marked]) := fun S => by
    show slice S (.tup _) none (some 2) = _
    rw [slc_tup, cut_t2]; rfl
  have f := fin_st0 (S := S ++ [.ins "Two" []]) (S1 := S ++ [two M N w]) (v := .non) (by simp) (by rw [topS_app, tS]; show max 0 (max (two M N w).top 0) ≤ _; rw [two_top]; exact Nat.zero_le _) (Nat.zero_le _)
  simp only [d_Two___init__]
  simp [sl, insApp, setApp, pf1, pf2, pf3, pf4, pf5, at1, at2, at3, at4, at5]
  simp only [two] at f ⊢
  rw [f]
  simp
theorem two_step {w : Str} {k0 : Nat} (hS : S[k0]? = some (two M N w)) (hM : M.Ok) (hN : N.Ok) {l : Nat} {k r : Nat × Nat} (hl : l < M.rows.length) (hl2 : l < N.rows.length) (k1 : k.1 < M.many) (k2 : k.2 < N.many) (r1 : r.1 < M.many) (r2 : r.2 < N.many) (hm : 2 ≤ m) :
    ((cfg prog m).meth "Two" "step" [.cell k0, nI l, nP k, nP r] S).fin S = .ok (nP (moved2 M N l k r)) S := by
  obtain ⟨m, rfl, hk⟩ := up hm
  rw [meth_at lm_Two_step, run_at rfl]
  have f := fin_ok0 (S := S) (v := nP (moved2 M N l k r)) (Nat.zero_le _)
  have ia := insAt_cell hS
  have c1 : ((cfg prog m).call "moved" [M.pv, nI l, nI k.1, nI r.1] S).fin S = .ok (nI (M.moved l k.1 r.1)) S := c_moved hM hk hl k1 r1
  have c2 : ((cfg prog m).call "moved" [N.pv, nI l, nI k.2, nI r.2] S).fin S = .ok (nI (N.moved l k.2 r.2)) S := c_moved hN hk hl2 k2 r2
  simp only [d_Two_step, nP]
  simp [ia, lf1, lf2, c1, c2]
  exact f
/-- which pairs are good by a word -/
def badP (M N : Mach) (w : Str) (p : Nat × Nat) : Bool :=
  if w = ("both" : Str) then decide (p.1 ∈ M.good) && decide (p.2 ∈ N.good) else if w = ("less" : Str) then decide (p.1 ∈ M.good) && !decide (p.2 ∈ N.good) else decide (p.1 ∈ M.good) != decide (p.2 ∈ N.good)
/-- the words -/
def Word (w : Str) : Prop := w = ("less" : Str) ∨ w = ("odd" : Str) ∨ w = ("both" : Str)
theorem ne_bl {a b : Bool} : cmpop S .ne (.bl a) (.bl b) = some (.bl (a != b)) := by
  rw [ne_dat dat_bl dat_bl]
  simp only [PyData.eqv]
  cases a <;> cases b <;> rfl
theorem eq_str {x y : Str} (hx : PyData.strOk x = true) (hy : PyData.strOk y = true) : cmpop S .eq (.str x) (.str y) = some (.bl (decide (x = y))) := by
  rw [eq_dat (dat_str hx) (dat_str hy)]
  simp only [PyData.eqv]
  congr 2
theorem two_good {w : Str} (hw : Word w) {k0 : Nat} (hS : S[k0]? = some (two M N w)) {p : Nat × Nat} (hm : 1 ≤ m) : ((cfg prog m).meth "Two" "is_good" [.cell k0, nP p] S).fin S = .ok (.bl (badP M N w p)) S := by
  obtain ⟨m, rfl, hk⟩ := up hm
  rw [meth_at lm_Two_is_good, run_at rfl]
  have ia := insAt_cell hS
  have i4 : ∀ (M : Mach) S, index S M.pv (.int 4) = some (.tup (M.good.map nI)) := fun _ _ => index_4
  have kb : PyData.strOk ("both" : Str) = true := by decide +kernel
  have ke : PyData.strOk ("either" : Str) = true := by decide +kernel
  have kl : PyData.strOk ("less" : Str) = true := by decide +kernel
  have ko : PyData.strOk ("odd" : Str) = true := by decide +kernel
  have n1 : ¬ ("less" : Str) = ("both" : Str) := by decide +kernel
  have n2 : ¬ ("odd" : Str) = ("both" : Str) := by decide +kernel
  have n3 : ¬ ("less" : Str) = ("either" : Str) := by decide +kernel
  have n4 : ¬ ("odd" : Str) = ("either" : Str) := by decide +kernel
  have n5 : ¬ ("odd" : Str) = ("less" : Str) := by decide +kernel
  simp only [d_Two_is_good, nP]
  unfold badP
  rcases hw with rfl | rfl | rfl
  · simp [ia, lf1, lf2, lf3, i4, mem_n, eq_str, kb, ke, kl, n1, n3]
    by_cases q : p.1 ∈ M.good <;> simp [q]
  · simp [ia, lf1, lf2, lf3, i4, mem_n, eq_str, kb, ke, kl, ko, n2, n4, n5, ne_bl]
  · simp [ia, lf1, lf2, lf3, i4, mem_n, eq_str, kb]
    by_cases q : p.1 ∈ M.good <;> simp [q]
end
end Q74
end
section
set_option Elab.async false
set_option linter.all false
set_option maxRecDepth 100000
set_option maxHeartbeats 1600000
namespace Q74
open PySem Pz
instance (priority := 100000) beqNP : BEq (Nat × Nat) := instBEqOfDecidableEq
section
variable {M N : Mach} {S T : Store} {m n : Nat} {st : DSt}
abbrev dp (p : Nat × Nat) : DKey := .inr [.inl (p.1 : Nat), .inl (p.2 : Nat)]
theorem key_p (p : Nat × Nat) : keyOf true (nP p) = some (dp p) := rfl
theorem dp_inj (x y : Nat × Nat) (h : dp x = dp y) : x = y := by
  injection h with h
  simp only [List.cons.injEq, and_true] at h
  obtain ⟨h1, h2⟩ := h
  injection h1 with h1
  injection h2 with h2
  exact Prod.ext (by omega) (by omega)
theorem nodup_dp {l : List (Nat × Nat)} (h : l.Nodup) : (l.map dp).Nodup := List.Pairwise.map _ (fun a b ne e => ne (dp_inj a b e)) h
theorem ltP_iff {p q : Nat × Nat} : ltP p q = true ↔ p.1 < q.1 ∨ (p.1 = q.1 ∧ p.2 < q.2) := by
  unfold ltP
  simp
theorem risingP : ∀ {l : List (Nat × Nat)}, risingB ltP l = true → l.Pairwise (fun p q => ltP p q = true)
  | [], _ => List.Pairwise.nil
  | [x], _ => by simp
  | x :: y :: l, h => by
    unfold risingB at h
    rw [List.tail_cons, List.zip_cons_cons, List.all_cons, Bool.and_eq_true] at h
    have ih := risingP (l := y :: l) (by unfold risingB; rw [List.tail_cons]; exact h.2)
    refine List.pairwise_cons.mpr ⟨fun z hz => ?_, ih⟩
    rcases List.mem_cons.mp hz with rfl | hz
    · exact h.1
    · have h1 : x.1 < y.1 ∨ (x.1 = y.1 ∧ x.2 < y.2) := ltP_iff.mp h.1
      have h2 := ltP_iff.mp ((List.pairwise_cons.mp ih).1 z hz)
      rw [ltP_iff]
      omega
theorem mem_knownP {x : Nat × Nat} {l : List (Nat × Nat)} {v : PV} : cmpop S .mem (nP x) (.dct true (l.map nP) (l.map fun _ => v)) = some (.bl (decide (x ∈ l))) := mem_dct key_p dp_inj fun _ _ e => by cases e
theorem nmem_knownP {x : Nat × Nat} {l : List (Nat × Nat)} {v : PV} : cmpop S .nmem (nP x) (.dct true (l.map nP) (l.map fun _ => v)) = some (.bl (!decide (x ∈ l))) := nmem_of mem_knownP
theorem mem_p {x : Nat × Nat} {l : List (Nat × Nat)} : cmpop S .mem (nP x) (.tup (l.map nP)) = some (.bl (decide (x ∈ l))) := kind_p.memT inj_p
theorem nmem_p {x : Nat × Nat} {l : List (Nat × Nat)} : cmpop S .nmem (nP x) (.tup (l.map nP)) = some (.bl (!decide (x ∈ l))) := nmem_of mem_p
theorem data_tup {xs : List PV} : (PV.tup xs).data = (PV.ktup xs).data := rfl
/-- (0, 0) as it is written -/
theorem nmem_00 {l : List (Nat × Nat)} : cmpop S .nmem (.tup [.int 0, .int 0]) (.tup (l.map nP)) = some (.bl (!decide ((0, 0) ∈ l))) := by
  have h : cmpop S .nmem (nP (0, 0)) (.tup (l.map nP)) = some (.bl (!decide ((0, 0) ∈ l))) := nmem_p
  exact h
/-- the words -/
theorem word_in {w : Str} (hw : Word w) : cmpop S .nmem (.str w) (.tup [.str "less", .str "odd", .str "both"]) = some (.bl false) := by
  rcases hw with rfl | rfl | rfl <;> kernel_rfl
theorem far_in : cmpop S .nmem (.str "far") (.tup [.str "less", .str "odd", .str "both"]) = some (.bl true) := by kernel_rfl
structure Same2 (M N : Mach) : Prop where
  l : M.letters = N.letters
  k : M.marked = N.marked
theorem Same2.rows (h : Same2 M N) (hM : M.Ok) (hN : N.Ok) : M.rows.length = N.rows.length := by rw [hM.nr, hN.nr, h.l, h.k]
abbrev InP (M N : Mach) (p : Nat × Nat) : Prop := p.1 < M.many ∧ p.2 < N.many
theorem c_accept_pairs (hM : M.Ok) (hN : N.Ok) (h2 : Same2 M N) {w : Str} (hw : Word w) {ns : List (Nat × Nat)} (hn : ∀ p ∈ ns, InP M N p) (hl : ns.length ≤ 48) (tS : topS S = 0) (hm : 8 ≤ m) :
    ((cfg prog m).call "accept_pairs" [M.pv, N.pv, .str w, .tup (ns.map nP)] S).fin S = said (due ltP (0, 0) M.rows.length (moved2 M N) (badP M N w) ns) S := by
  obtain ⟨m, rfl, hk⟩ := up hm
  rw [call_at lk_accept_pairs rfl, run_at rfl]
  have i3 : ∀ (M : Mach) S, index S M.pv (.int 3) = some (.tup (rowsV M)) := fun _ _ => index_3
  have nr : (rowsV M).length = M.rows.length := by unfold rowsV; simp
  have nr16 := rows16 hM
  have rr := h2.rows hM hN
  have ct := c_check_two (S := S) hM hN (show 7 ≤ m by omega)
  rw [if_pos ⟨h2.l, h2.k⟩] at ct
  have lel : ¬ ((48 : Int) < (ns.length : Nat)) := by omega
  simp only [d_accept_pairs]
  simp [ct, word_in hw, lel]
  rw [f_mapT ns nP (fun _ => .bl true) ?_ ?_]
  rotate_left
  · simp
  · intro p hp
    simp [cmpStep, wipe, c_is_pair_p (hn p hp).1 (hn p hp).2 (show 3 ≤ m by omega)]
  have at_ : (ns.map fun _ : Nat × Nat => true).all id = true := by simp
  simp [-List.all_map, at_, c_is_rising ge_nP lk_is_rising (show 1 ≤ m by omega)]
  unfold due
  cases hr : risingB ltP ns
  · simp [said]
  · simp [nmem_00]
    have nd : ns.Nodup := (risingP hr).imp fun {a b} h e => by
      subst e
      have := ltP_iff.mp h
      omega
    by_cases z : (0, 0) ∈ ns
    case neg => simp [z, said]
    simp [z]
    rw [e_dcT ns nP nP (.bl true) dp key_p ?_ (nodup_dp nd) ?_]
    rotate_left
    · simp
    · intro k _
      simp [kvStep, wipe]
    simp
    rw [make_two (M := M) (N := N) (w := w) tS ?_ ?_ ?_ (by omega)]
    rotate_left
    · intro S; simp
    · intro S; simp
    · intro S; simp
    simp [i3, nr, rg1_int (show ((M.rows.length : Nat) : Int) ≤ 1000000 by omega) (by omega), range_1, l_accept_pairs_1]
    have gS : (S ++ [two M N w])[S.length]? = some (two M N w) := getApp
    have w2 := walk_2 (c := cfg prog m) (S := S ++ [two M N w]) (i := 7) (j := 8) (it2 := .seq (.var 3)) (b := l_accept_pairs_2) (l1 := List.range M.rows.length) (l2 := ns) (e1 := nI) (e2 := nP) (ρ := [some M.pv, some N.pv, some (.str w), some (PV.tup (ns.map nP)), none, some (.dct true (ns.map nP) (ns.map fun _ => .bl true)), some (.cell S.length), none, none, none])
      (fun ρ => ∃ a b d e, ρ = [some M.pv, some N.pv, some (.str w), some (PV.tup (ns.map nP)), a, some (.dct true (ns.map nP) (ns.map fun _ => .bl true)), some (.cell S.length), b, d, e])
      (fun l ρ => ∃ a d e, ρ = [some M.pv, some N.pv, some (.str w), some (PV.tup (ns.map nP)), a, some (.dct true (ns.map nP) (ns.map fun _ => .bl true)), some (.cell S.length), some (nI l), d, e])
      (fun sr => ∃ ρ, sr = .exc "PaperError" (.str "row") ρ (S ++ [two M N w])) (fun sr ⟨ρ, h⟩ => .inl ⟨_, _, _, _, h⟩) (fun l k => ns.any fun r => !decide (moved2 M N l k r ∈ ns)) ⟨_, _, _, _, rfl⟩
      (fun l _ ρ ⟨a, b, d, e, h⟩ => by subst h; exact ⟨by simp, a, d, e, rfl⟩) (fun l ρ ⟨a, d, e, h⟩ => ⟨a, _, d, e, h⟩)
      (fun l hl k hk ρ ⟨a, d, e, h⟩ => by
        subst h
        have hl := List.mem_range.mp hl
        have e1 : l_accept_pairs_2.den (cfg prog m) [some M.pv, some N.pv, some (.str w), some (PV.tup (ns.map nP)), a, some (.dct true (ns.map nP) (ns.map fun _ => .bl true)), some (.cell S.length), some (nI l), some (nP k), e] (S ++ [two M N w]) = if (ns.any fun r => !decide (moved2 M N l k r ∈ ns)) = true then .exc "PaperError" (.str "row") [some M.pv, some N.pv, some (.str w), some (PV.tup (ns.map nP)), a, some (.dct true (ns.map nP) (ns.map fun _ => .bl true)), some (.cell S.length), some (nI l), some (nP k), e] (S ++ [two M N w]) else .nx [some M.pv, some N.pv, some (.str w), some (PV.tup (ns.map nP)), a, some (.dct true (ns.map nP) (ns.map fun _ => .bl true)), some (.cell S.length), some (nI l), some (nP k), e] (S ++ [two M N w]) := by
          simp only [l_accept_pairs_2]
          simp
          rw [f_filT ns nP (fun r => !decide (moved2 M N l k r ∈ ns)) (fun _ => .int 1) ?_ ?_]
          · cases q : (ns.any fun r => !decide (moved2 M N l k r ∈ ns)) <;> simp [empty_fl, -List.any_eq_true, -List.any_eq_false, q] <;> simpa using q
          · simp
          · intro r hr
            have cm := two_step gS hM hN hl (rr ▸ hl) (hn k hk).1 (hn k hk).2 (hn r hr).1 (hn r hr).2 (m := m) (by omega)
            have ia := insAt_cell gS
            have hs : (cfg prog m).has "Two" "step" = true := by rw [cfg_has, lm_Two_step]; rfl
            cases q : decide (moved2 M N l k r ∈ ns) <;> simp [cmpStep, wipe, ia, lf4, hs, cm, nmem_knownP, q]
        show if (ns.any fun r => !decide (moved2 M N l k r ∈ ns)) = true then ∃ ρ, l_accept_pairs_2.den (cfg prog m) [some M.pv, some N.pv, some (.str w), some (PV.tup (ns.map nP)), a, some (.dct true (ns.map nP) (ns.map fun _ => .bl true)), some (.cell S.length), some (nI l), some (nP k), e] (S ++ [two M N w]) = _ else _
        split
        · rename_i q
          exact ⟨_, by rw [e1, if_pos q]⟩
        · rename_i q
          exact ⟨_, .inl (e1.trans (if_neg q)), a, some (nP k), e, rfl⟩)
    have eb : ((List.range M.rows.length).any fun l => ns.any fun k => ns.any fun r => !decide (moved2 M N l k r ∈ ns)) = rowBad M.rows.length (moved2 M N) ns := rfl
    rw [eb] at w2
    have fe : ∀ x : Str, (R.exc "PaperError" (.str x) (S ++ [two M N w]) : R PV).fin S = .exc "PaperError" (.str x) S := fun x => fine_ok (Nat.zero_le _)
    have fo : (R.ok .non (S ++ [two M N w])).fin S = .ok .non S := fin_ok (Nat.zero_le _)
    by_cases q : rowBad M.rows.length (moved2 M N) ns = true
    · rw [if_pos q] at w2 ⊢
      obtain ⟨ρ, w2⟩ := w2
      rw [w2]
      simp [said, fe]
    · rw [if_neg q] at w2 ⊢
      obtain ⟨ρ, w2, a, b, d, e, rfl⟩ := w2
      rw [w2]
      simp
      rw [f_filT ns nP (badP M N w) (fun _ => .int 1) ?_ ?_]
      rotate_left
      · simp
      · intro r hr
        have cm := two_good hw gS (p := r) (m := m) (by omega)
        have ia := insAt_cell gS
        have hs : (cfg prog m).has "Two" "is_good" = true := by rw [cfg_has, lm_Two_is_good]; rfl
        cases q : badP M N w r <;> simp [cmpStep, wipe, ia, lf5, hs, cm, q]
      have e2 : (∃ x, x ∈ ns ∧ badP M N w x = true) ↔ (ns.any (badP M N w)) = true := by simp
      cases q : (ns.any (badP M N w)) <;> simp [empty_fl, -List.any_eq_true, -List.any_eq_false, q, said, fe, fo]
end
end Q74
end
section
set_option Elab.async false
set_option linter.all false
set_option maxRecDepth 100000
set_option maxHeartbeats 1600000
namespace Q74
open PySem Pz
section
variable {M N : Mach} {S T : Store} {m n : Nat} {st : DSt}
theorem word_at {w : Str} (hw : Word w) {a b : Bool} : index S (.dct false [.str "less", .str "odd", .str "both"] [.bl (a && !b), .bl (a != b), .bl (a && b)]) (.str w) = some (.bl (if w = ("both" : Str) then a && b else if w = ("less" : Str) then a && !b else a != b)) := by
  have n1 : ¬ ("less" : Str) = ("both" : Str) := by decide +kernel
  have n2 : ¬ ("odd" : Str) = ("both" : Str) := by decide +kernel
  have n5 : ¬ ("odd" : Str) = ("less" : Str) := by decide +kernel
  rcases hw with rfl | rfl | rfl
  · rw [if_neg n1, if_pos rfl]; kernel_rfl
  · rw [if_neg n2, if_neg n5]; kernel_rfl
  · rw [if_pos rfl]; kernel_rfl
theorem c__law_pairs_due (hM : M.Ok) (hN : N.Ok) (h2 : Same2 M N) {w : Str} (hw : Word w) {ns : List (Nat × Nat)} (hn : ∀ p ∈ ns, InP M N p) (hl : ns.length ≤ 48) (hm : 4 ≤ m) :
    ((cfg prog m).call "_law_pairs_due" [M.pv, N.pv, .str w, .tup (ns.map nP)] S).fin S = .ok (dueV (due ltP (0, 0) M.rows.length (moved2 M N) (badP M N w) ns)) S := by
  obtain ⟨m, rfl, hk⟩ := up hm
  rw [call_at lk__law_pairs_due rfl, run_at rfl]
  have i3 : ∀ (M : Mach) S, index S M.pv (.int 3) = some (.tup (rowsV M)) := fun _ _ => index_3
  have i4 : ∀ (M : Mach) S, index S M.pv (.int 4) = some (.tup (M.good.map nI)) := fun _ _ => index_4
  have nr : (rowsV M).length = M.rows.length := by unfold rowsV; simp
  have nr16 := rows16 hM
  have rr := h2.rows hM hN
  have lel : ¬ ((48 : Int) < (ns.length : Nat)) := by omega
  simp only [d__law_pairs_due]
  simp [lel]
  rw [f_filT ns nP (fun _ => false) nP ?_ ?_]
  rotate_left
  · simp
  · intro p hp
    simp [cmpStep, wipe, c__law_is_pair_p (hn p hp).1 (hn p hp).2 (show 2 ≤ m by omega)]
  simp
  rw [law_rise ge_nP (0, 0) (by omega) rfl (by decide) (by simp)]
  unfold due
  cases hr : risingB ltP ns
  · simp [empty_fl, -List.any_eq_true, -List.any_eq_false, rise_any, hr, dueV, p_form]
  · simp [empty_fl, -List.any_eq_true, -List.any_eq_false, rise_any, hr, nmem_00]
    by_cases z : (0, 0) ∈ ns
    case neg => simp [z, dueV, p_begin]
    simp [z, i3, nr, rg1_int (show ((M.rows.length : Nat) : Int) ≤ 1000000 by omega) (by omega), range_1, l__law_pairs_due_1]
    have w2 := walk_2 (c := cfg prog m) (S := S) (i := 6) (j := 7) (it2 := .seq (.var 3)) (b := l__law_pairs_due_2) (l1 := List.range M.rows.length) (l2 := ns) (e1 := nI) (e2 := nP) (ρ := [some M.pv, some N.pv, some (.str w), some (PV.tup (ns.map nP)), none, none, none, none, none, none, none])
      (fun ρ => ∃ a b c d e, ρ = [some M.pv, some N.pv, some (.str w), some (PV.tup (ns.map nP)), a, c, b, d, e, none, none])
      (fun l ρ => ∃ a c d e, ρ = [some M.pv, some N.pv, some (.str w), some (PV.tup (ns.map nP)), a, c, some (nI l), d, e, none, none])
      (fun sr => ∃ ρ, sr = .rt (.str "paper row") ρ S) (fun sr ⟨ρ, h⟩ => .inr ⟨_, _, _, h⟩) (fun l k => ns.any fun r => !decide (moved2 M N l k r ∈ ns)) ⟨_, _, _, _, _, rfl⟩
      (fun l _ ρ ⟨a, b, c, d, e, h⟩ => by subst h; exact ⟨by simp, a, c, d, e, rfl⟩) (fun l ρ ⟨a, c, d, e, h⟩ => ⟨a, _, c, d, e, h⟩)
      (fun l hl k hk ρ ⟨a, c, d, e, h⟩ => by
        subst h
        have hl := List.mem_range.mp hl
        have e1 : l__law_pairs_due_2.den (cfg prog m) [some M.pv, some N.pv, some (.str w), some (PV.tup (ns.map nP)), a, c, some (nI l), some (nP k), e, none, none] S = if (ns.any fun r => !decide (moved2 M N l k r ∈ ns)) = true then .rt (.str "paper row") [some M.pv, some N.pv, some (.str w), some (PV.tup (ns.map nP)), a, c, some (nI l), some (nP k), e, none, none] S else .nx [some M.pv, some N.pv, some (.str w), some (PV.tup (ns.map nP)), a, c, some (nI l), some (nP k), e, none, none] S := by
          simp only [l__law_pairs_due_2]
          simp
          rw [f_filT ns nP (fun r => !decide (moved2 M N l k r ∈ ns)) nP ?_ ?_]
          · cases q : (ns.any fun r => !decide (moved2 M N l k r ∈ ns)) <;> simp [empty_fl, -List.any_eq_true, -List.any_eq_false, q] <;> simpa using q
          · simp
          · intro r hr
            have cm := c__law_both_moved (S := S) hM hN hl (rr ▸ hl) (hn k hk).1 (hn k hk).2 (hn r hr).1 (hn r hr).2 (m := m) (by omega)
            cases q : decide (moved2 M N l k r ∈ ns) <;> simp [cmpStep, wipe, cm, nmem_p, q]
        show if (ns.any fun r => !decide (moved2 M N l k r ∈ ns)) = true then ∃ ρ, l__law_pairs_due_2.den (cfg prog m) [some M.pv, some N.pv, some (.str w), some (PV.tup (ns.map nP)), a, c, some (nI l), some (nP k), e, none, none] S = _ else _
        split
        · rename_i q
          exact ⟨_, by rw [e1, if_pos q]⟩
        · rename_i q
          exact ⟨_, .inl (e1.trans (if_neg q)), a, c, some (nP k), e, rfl⟩)
    have eb : ((List.range M.rows.length).any fun l => ns.any fun k => ns.any fun r => !decide (moved2 M N l k r ∈ ns)) = rowBad M.rows.length (moved2 M N) ns := rfl
    rw [eb] at w2
    by_cases q : rowBad M.rows.length (moved2 M N) ns = true
    · rw [if_pos q] at w2 ⊢
      obtain ⟨ρ, w2⟩ := w2
      rw [w2]
      simp [dueV, p_row]
    · rw [if_neg q] at w2 ⊢
      obtain ⟨ρ, w2, a, b, c, d, e, rfl⟩ := w2
      rw [w2]
      simp
      rw [f_mapT ns nP (fun p => .tup [.bl (decide (p.1 ∈ M.good)), .bl (decide (p.2 ∈ N.good))]) ?_ ?_]
      rotate_left
      · simp
      · intro p hp
        simp [cmpStep, wipe, nP, i4, mem_n]
      have w3 := walk_fT (c := cfg prog m) (S := S) (t := .tup (.cons (.nm 9) (.cons (.nm 10) .nil))) (b := l__law_pairs_due_3) (l := ns) (e := fun p => .tup [.bl (decide (p.1 ∈ M.good)), .bl (decide (p.2 ∈ N.good))]) (ρ := [some M.pv, some N.pv, some (.str w), some (PV.tup (ns.map nP)), a, c, b, d, e, none, none])
        (fun ρ => ∃ x y, ρ = [some M.pv, some N.pv, some (.str w), some (PV.tup (ns.map nP)), a, c, b, d, e, x, y]) (fun sr => ∃ ρ, sr = .rt (.str "paper good") ρ S) (badP M N w) ⟨_, _, rfl⟩ (fun p hp ρ ⟨x, y, hρ⟩ => by
          subst hρ
          have e1 : turn (cfg prog m) (.tup (.cons (.nm 9) (.cons (.nm 10) .nil))) l__law_pairs_due_3 (.tup [.bl (decide (p.1 ∈ M.good)), .bl (decide (p.2 ∈ N.good))]) [some M.pv, some N.pv, some (.str w), some (PV.tup (ns.map nP)), a, c, b, d, e, x, y] S = if badP M N w p = true then .rt (.str "paper good") [some M.pv, some N.pv, some (.str w), some (PV.tup (ns.map nP)), a, c, b, d, e, some (.bl (decide (p.1 ∈ M.good))), some (.bl (decide (p.2 ∈ N.good)))] S else .nx [some M.pv, some N.pv, some (.str w), some (PV.tup (ns.map nP)), a, c, b, d, e, some (.bl (decide (p.1 ∈ M.good))), some (.bl (decide (p.2 ∈ N.good)))] S := by
            rw [turn_eq]
            have wa : ∀ S, index S (.dct false [.str "less", .str "odd", .str "both"] [.bl (decide (p.1 ∈ M.good) && !decide (p.2 ∈ N.good)), .bl (decide (p.1 ∈ M.good) != decide (p.2 ∈ N.good)), .bl (decide (p.1 ∈ M.good) && decide (p.2 ∈ N.good))]) (.str w) = some (.bl (badP M N w p)) := fun S => word_at hw
            generalize badP M N w p = G at wa ⊢
            generalize decide (p.1 ∈ M.good) = u at wa ⊢
            generalize decide (p.2 ∈ N.good) = v at wa ⊢
            simp only [l__law_pairs_due_3]
            cases u <;> cases v <;> cases G <;> simp [ne_bl] at wa ⊢ <;> simp [wa]
          show if badP M N w p = true then _ else _
          by_cases q : badP M N w p = true
          · rw [if_pos q] at e1 ⊢
            refine ⟨⟨_, e1⟩, fun ys => by rw [e1]; rfl⟩
          · rw [if_neg q] at e1 ⊢
            exact ⟨_, .inl e1, _, _, rfl⟩)
      have e2 : (∃ x, x ∈ ns ∧ badP M N w x = true) ↔ (ns.any (badP M N w)) = true := by simp
      cases q : (ns.any (badP M N w))
      · rw [q, if_neg (by decide)] at w3
        obtain ⟨ρ', w3, _⟩ := w3
        simp [w3, dueV, -List.any_eq_true, -List.any_eq_false, q]
      · rw [q, if_pos rfl] at w3
        obtain ⟨ρ', w3⟩ := w3
        simp [w3, dueV, p_good, -List.any_eq_true, -List.any_eq_false, q]
end
end Q74
end
section
set_option Elab.async false
set_option linter.all false
set_option maxRecDepth 100000
set_option maxHeartbeats 1600000
namespace Q74
open PySem Pz
section
variable {M N : Mach} {S T : Store} {m n : Nat} {st : DSt}
theorem moved2_in (hM : M.Ok) (hN : N.Ok) (rr : M.rows.length = N.rows.length) {l : Nat} (hl : l < M.rows.length) {k r : Nat × Nat} (hk : InP M N k) (hr : InP M N r) : InP M N (moved2 M N l k r) :=
  ⟨moved_lt hM hl hk.1 hr.1, moved_lt hN (rr ▸ hl) hk.2 hr.2⟩
theorem reach2_in (hM : M.Ok) (hN : N.Ok) (rr : M.rows.length = N.rows.length) {ns : List (Nat × Nat)} (hn : ∀ p ∈ ns, InP M N p) {ms : List (Nat × Nat)} (hms : ms.length + ns.length ≤ 10000) {l : Nat} {k : Nat × Nat} (hl : l < M.rows.length) (hk : InP M N k) {t z y : Option PV} (hm : 2 ≤ m) :
    l__law_pairs_reached_3.den (cfg prog m) [some M.pv, some N.pv, some (.lst (ns.map nP)), t, some (.cell S.length), some (nI l), some (nP k), z, y] (S ++ [.lst (ms.map nP)]) = .nx [some M.pv, some N.pv, some (.lst (ns.map nP)), t, some (.cell S.length), some (nI l), some (nP k), z, y] (S ++ [.lst ((ms ++ ns.map fun r => moved2 M N l k r).map nP)]) := by
  simp only [l__law_pairs_reached_3]
  have c1 := celAt_cell (S := S ++ [.lst (ms.map nP)]) (n := S.length) (xs := ms.map nP) getApp
  simp [c1]
  rw [f_mapT ns nP (fun r => nP (moved2 M N l k r)) ?_ ?_]
  rotate_left
  · simp
  · intro r hr
    have cm : ∀ S, ((cfg prog m).call "_law_both_moved" [M.pv, N.pv, nI l, nP k, nP r] S).fin S = .ok (nP (moved2 M N l k r)) S := fun _ => c__law_both_moved hM hN hl (rr ▸ hl) hk.1 hk.2 (hn r hr).1 (hn r hr).2 hm
    simp [cmpStep, wipe, cm]
  have le : ms.length + ns.length ≤ lim := by show _ ≤ 16777216; omega
  simp [c1, le, setApp]
theorem eq_lstP {l k : List (Nat × Nat)} : cmpop S .eq (.lst (l.map nP)) (.lst (k.map nP)) = some (.bl (decide (l = k))) := by
  have h : ∀ l : List (Nat × Nat), Dat S (.lst (l.map nP)) (.list (l.map fun p => .tuple [.int (p.1 : Nat), .int (p.2 : Nat)])) := fun l => by
    refine dat_of ?_ ?_ ?_
    · show (PV.data.dataL (l.map nP)).map PyData.list = _
      rw [kind_p.dataL]; rfl
    · rw [PyData.canLay0]; exact kind_p.layL l
    · rw [PyData.depth]; have := kind_p.depL l; omega
  rw [eq_dat (h l) (h k)]
  congr 2
  rw [PyData.eqv, eqvAll_map inj_p]
/-- one turn -/
theorem reach2_turn (hM : M.Ok) (hN : N.Ok) (rr : M.rows.length = N.rows.length) (h4 : M.many ≤ 4) (h4' : N.many ≤ 4) {ns : List (Nat × Nat)} (hn : ∀ p ∈ ns, InP M N p) (h0 : (0, 0) ∈ ns) (hl : ns.length ≤ 16) {t a b d e y : Option PV} (hm : 2 ≤ m) :
    ∃ (ns' ms : List (Nat × Nat)) (a' b' d' e' y' : Option PV), (l__law_pairs_reached_1.den (cfg prog m) [some M.pv, some N.pv, some (.lst (ns.map nP)), t, a, b, d, e, y] S = .nx [some M.pv, some N.pv, some (.lst (ns'.map nP)), t, a', b', d', e', y'] (S ++ [.lst (ms.map nP)]) ∨ l__law_pairs_reached_1.den (cfg prog m) [some M.pv, some N.pv, some (.lst (ns.map nP)), t, a, b, d, e, y] S = .bk [some M.pv, some N.pv, some (.lst (ns'.map nP)), t, a', b', d', e', y'] (S ++ [.lst (ms.map nP)])) ∧ (∀ p ∈ ns', InP M N p) ∧ (0, 0) ∈ ns' ∧ ns'.length ≤ 16 := by
  have i3 : ∀ S, index S M.pv (.int 3) = some (.tup (rowsV M)) := fun _ => index_3
  have nr : (rowsV M).length = M.rows.length := by unfold rowsV; simp
  have nr16 := rows16 hM
  obtain ⟨ρ', T, e1, ms, b', d', e', eT, eρ, hms, hlen⟩ := walk_iT (c := cfg prog m) (j := 5) (b := l__law_pairs_reached_2) (l := List.range M.rows.length) (e := nI) (ρ := [some M.pv, some N.pv, some (.lst (ns.map nP)), t, some (.cell S.length), b, d, e, y]) (S := S ++ [PO.lst []])
    (fun i ρ T => ∃ (ms : List (Nat × Nat)) (b' d' e' : Option PV), T = S ++ [.lst (ms.map nP)] ∧ ρ = [some M.pv, some N.pv, some (.lst (ns.map nP)), t, some (.cell S.length), b', d', e', y] ∧ (∀ p ∈ ms, InP M N p) ∧ ms.length = i * (ns.length * ns.length))
    ⟨[], b, d, e, rfl, rfl, by simp, by simp⟩ (fun i x ρ T hx ⟨ms, b', d', e', eT, eρ, hms, hlen⟩ => by
      subst eT eρ
      have hx1 : i < M.rows.length ∧ x = i := by
        obtain ⟨h1, h2⟩ := List.getElem?_eq_some_iff.mp hx
        rw [List.length_range] at h1
        rw [List.getElem_range] at h2
        exact ⟨h1, h2.symm⟩
      obtain ⟨hx1, rfl⟩ := hx1
      obtain ⟨ρ', T, e1, ms', d2, e2, eT, eρ, hms', hlen'⟩ := walk_iT (c := cfg prog m) (j := 6) (b := l__law_pairs_reached_3) (l := ns) (e := nP) (ρ := [some M.pv, some N.pv, some (.lst (ns.map nP)), t, some (.cell S.length), some (nI x), d', e', y]) (S := S ++ [PO.lst (ms.map nP)])
        (fun k ρ T => ∃ (ms' : List (Nat × Nat)) (d2 e2 : Option PV), T = S ++ [.lst (ms'.map nP)] ∧ ρ = [some M.pv, some N.pv, some (.lst (ns.map nP)), t, some (.cell S.length), some (nI x), d2, e2, y] ∧ (∀ p ∈ ms', InP M N p) ∧ ms'.length = x * (ns.length * ns.length) + k * ns.length)
        ⟨ms, d', e', rfl, rfl, hms, by simpa using hlen⟩ (fun k p ρ T hy ⟨ms', d2, e2, eT, eρ, hms', hlen'⟩ => by
          subst eT eρ
          have hy1 : p ∈ ns := List.mem_of_getElem? hy
          have hk : k < ns.length := (List.getElem?_eq_some_iff.mp hy).1
          have b1 : x * (ns.length * ns.length) ≤ 16 * (16 * 16) := Nat.mul_le_mul (by omega) (Nat.mul_le_mul hl hl)
          have b2 : k * ns.length ≤ 16 * 16 := Nat.mul_le_mul (by omega) (by omega)
          refine ⟨_, _, .inl (reach2_in hM hN rr hn (ms := ms') (by omega) hx1 (hn p hy1) hm), ms' ++ ns.map (fun r => moved2 M N x p r), some (nP p), e2, rfl, rfl, fun q hn' => ?_, ?_⟩
          · rcases List.mem_append.mp hn' with h | h
            · exact hms' q h
            · obtain ⟨r, hr, rfl⟩ := List.mem_map.mp h
              exact moved2_in hM hN rr hx1 (hn p hy1) (hn r hr)
          · rw [List.length_append, List.length_map, hlen', Nat.succ_mul]; omega)
      subst eT eρ
      refine ⟨[some M.pv, some N.pv, some (.lst (ns.map nP)), t, some (.cell S.length), some (nI x), d2, e2, y], S ++ [.lst (ms'.map nP)], .inl ?_, ms', some (nI x), d2, e2, rfl, rfl, hms', by rw [hlen', Nat.succ_mul]⟩
      simp only [l__law_pairs_reached_2]
      simp [e1])
  subst eT eρ
  have gm : (S ++ [PO.lst (ms.map nP)])[S.length]? = some (.lst (ms.map nP)) := getApp
  have lm : ms.length ≤ 16 * (16 * 16) := by
    rw [hlen, List.length_range]
    exact Nat.mul_le_mul nr16 (Nat.mul_le_mul hl hl)
  have bc := bo_cat (S := S ++ [PO.lst (ms.map nP)]) (xs := ns.map nP) gm (by rw [List.length_map, List.length_map]; show _ ≤ 16777216; omega)
  obtain ⟨ns', es, hmem, hlen2⟩ := srs_p (l := ns ++ ms) (b := 4) (by omega) (fun p h => by
    rcases List.mem_append.mp h with h | h
    · have := hn p h; exact ⟨by omega, by omega⟩
    · have := hms p h; exact ⟨by omega, by omega⟩) (fun z => by
      have := List.append_eq_nil_iff.mp z
      rw [this.1] at h0; cases h0)
  rw [List.map_append] at es
  have p1 : ∀ p ∈ ns', InP M N p := fun p h => by
    rcases List.mem_append.mp ((hmem p).mp h) with h | h
    · exact hn p h
    · exact hms p h
  have p2 : (0, 0) ∈ ns' := (hmem _).mpr (List.mem_append_left _ h0)
  by_cases q : ns' = ns
  · subst q
    refine ⟨ns', ms, some (.cell S.length), b', d', e', some (.lst (ns'.map nP)), .inr ?_, p1, p2, hlen2⟩
    simp only [l__law_pairs_reached_1]
    simp [i3, nr, rg1_int (show ((M.rows.length : Nat) : Int) ≤ 1000000 by omega) (by omega), range_1, e1, bc, es, eq_lstP]
  · refine ⟨ns', ms, some (.cell S.length), b', d', e', some (.lst (ns'.map nP)), .inl ?_, p1, p2, hlen2⟩
    simp only [l__law_pairs_reached_1]
    simp [i3, nr, rg1_int (show ((M.rows.length : Nat) : Int) ≤ 1000000 by omega) (by omega), range_1, e1, bc, es, eq_lstP, q]
theorem c__law_pairs_reached (hM : M.Ok) (hN : N.Ok) (rr : M.rows.length = N.rows.length) (h4 : M.many ≤ 4) (h4' : N.many ≤ 4) (hm : 3 ≤ m) : ∃ ns : List (Nat × Nat), (∀ p ∈ ns, InP M N p) ∧ (0, 0) ∈ ns ∧ ns.length ≤ 16 ∧ ((cfg prog m).call "_law_pairs_reached" [M.pv, N.pv] S).fin S = .ok (.lst (ns.map nP)) S := by
  obtain ⟨m, rfl, hk⟩ := up hm
  have i2 : ∀ (M : Mach) S, index S M.pv (.int 2) = some (.int (M.many : Nat)) := fun _ _ => index_2
  have key : ∀ ρ T, (∃ (ns : List (Nat × Nat)) (X : Store) (t a b d e y : Option PV), T = S ++ X ∧ ρ = [some M.pv, some N.pv, some (.lst (ns.map nP)), t, a, b, d, e, y] ∧ (∀ p ∈ ns, InP M N p) ∧ (0, 0) ∈ ns ∧ ns.length ≤ 16) →
      walk (cfg prog m) (.nm 3) l__law_pairs_reached_1 ((List.range (M.many * N.many)).map nI) [some M.pv, some N.pv, some (.lst [nP (0, 0)]), none, none, none, none, none, none] S = .nx ρ T →
      ∃ ns : List (Nat × Nat), (∀ p ∈ ns, InP M N p) ∧ (0, 0) ∈ ns ∧ ns.length ≤ 16 ∧ ((cfg prog (m + 1)).call "_law_pairs_reached" [M.pv, N.pv] S).fin S = .ok (.lst (ns.map nP)) S := fun ρ T ⟨ns, X, t, a, b, d, e, y, eT, eρ, h1, h2, h3⟩ ew => by
    subst eT eρ
    refine ⟨ns, h1, h2, h3, ?_⟩
    rw [call_at lk__law_pairs_reached rfl, run_at rfl]
    have f := fin_ok (S := S) (X := X) (v := .lst (ns.map nP)) (by show PV.top.topL (ns.map nP) ≤ _; rw [topL_map fun _ => rfl]; exact Nat.zero_le _)
    have bm : M.many * N.many ≤ 4 * 4 := Nat.mul_le_mul h4 h4'
    have hmul : ∀ S, binop S .mul (.int (M.many : Nat)) (.int (N.many : Nat)) = some (.int ((M.many : Nat) * (N.many : Nat))) := fun _ => bo_mulL (by omega) (by omega)
    have rg : ∀ S, rg1 (.int (((M.many : Nat) : Int) * ((N.many : Nat) : Int))) S = .ok (.fix ((List.range (M.many * N.many)).map nI)) S := fun S => by
      have := rg1_n (S := S) (k := M.many * N.many) (by omega)
      have e : nI (M.many * N.many) = .int (((M.many : Nat) : Int) * ((N.many : Nat) : Int)) := by show PV.int _ = _; congr 1
      rwa [e] at this
    have e0 : (PV.ktup [.int 0, .int 0]) = nP (0, 0) := rfl
    simp only [d__law_pairs_reached]
    simp [i2, hmul, rg, e0, ew]
    exact f
  obtain ⟨ρ', T, e1, h | h⟩ := walk_iB (c := cfg prog m) (j := 3) (b := l__law_pairs_reached_1) (l := List.range (M.many * N.many)) (e := nI) (ρ := [some M.pv, some N.pv, some (.lst [nP (0, 0)]), none, none, none, none, none, none]) (S := S)
    (fun ρ T => ∃ (ns : List (Nat × Nat)) (X : Store) (t a b d e y : Option PV), T = S ++ X ∧ ρ = [some M.pv, some N.pv, some (.lst (ns.map nP)), t, a, b, d, e, y] ∧ (∀ p ∈ ns, InP M N p) ∧ (0, 0) ∈ ns ∧ ns.length ≤ 16)
    (fun ρ T => ∃ (ns : List (Nat × Nat)) (X : Store) (t a b d e y : Option PV), T = S ++ X ∧ ρ = [some M.pv, some N.pv, some (.lst (ns.map nP)), t, a, b, d, e, y] ∧ (∀ p ∈ ns, InP M N p) ∧ (0, 0) ∈ ns ∧ ns.length ≤ 16)
    ⟨[(0, 0)], [], none, none, none, none, none, none, by simp, rfl, fun p hp => by rw [List.mem_singleton.mp hp]; exact ⟨hM.m1, hN.m1⟩, List.mem_singleton.mpr rfl, by simp⟩ (fun x hx ρ T ⟨ns, X, t, a, b, d, e, y, eT, eρ, h1, h2, h3⟩ => by
      subst eT eρ
      obtain ⟨ns', ms, a', b', d', e', y', ev, k1, k2, k3⟩ := reach2_turn (S := S ++ X) hM hN rr h4 h4' h1 h2 h3 (t := some (nI x)) (a := a) (b := b) (d := d) (e := e) (y := y) hk
      rcases ev with ev | ev
      · exact ⟨_, _, .inl ⟨.inl ev, ns', X ++ [.lst (ms.map nP)], some (nI x), a', b', d', e', y', by rw [List.append_assoc], rfl, k1, k2, k3⟩⟩
      · exact ⟨_, _, .inr ⟨ev, ns', X ++ [.lst (ms.map nP)], some (nI x), a', b', d', e', y', by rw [List.append_assoc], rfl, k1, k2, k3⟩⟩)
  · exact key ρ' T h e1
  · exact key ρ' T h e1
end
end Q74
end
section
set_option Elab.async false
set_option linter.all false
set_option maxRecDepth 100000
set_option maxHeartbeats 1600000
namespace Q74
open PySem Pz
section
variable {M N : Mach} {S T : Store} {m n : Nat} {st : DSt}
def pairB : PV → Bool
  | .ktup _ => true
  | _ => false
/-- a paper of pairs that is none -/
def BadP (good : Nat × Nat → Prop) (p : PV) : Prop := p = .non ∨ (∃ xs, p = .lst xs) ∨ ∃ xs, p = .tup xs ∧ xs.length ≤ 48 ∧ (∀ x ∈ xs, Pc nP good x) ∧ (xs.all pairB) = false
theorem c_accept_two (hM : M.Ok) (hN : N.Ok) (h2 : ¬ (M.letters = N.letters ∧ M.marked = N.marked)) {w p : PV} (hm : 8 ≤ m) : ((cfg prog m).call "accept_pairs" [M.pv, N.pv, w, p] S).fin S = .exc "ArgumentError" (.str "other") S := by
  obtain ⟨m, rfl, hk⟩ := up hm
  rw [call_at lk_accept_pairs rfl, run_at rfl]
  have ct := c_check_two (S := S) hM hN (show 7 ≤ m by omega)
  rw [if_neg h2] at ct
  simp only [d_accept_pairs]
  simp [ct]
theorem c_accept_one {x w p : PV} (hm : 4 ≤ m) : ((cfg prog m).call "accept_pairs" [.non, x, w, p] S).fin S = .exc "ArgumentError" (.str "one") S := by
  obtain ⟨m, rfl, hk⟩ := up hm
  rw [call_at lk_accept_pairs rfl, run_at rfl]
  simp only [d_accept_pairs]
  simp [c_check_two_non hk]
theorem c_accept_far (hM : M.Ok) (hN : N.Ok) (h2 : Same2 M N) {p : PV} (hm : 8 ≤ m) : ((cfg prog m).call "accept_pairs" [M.pv, N.pv, .str "far", p] S).fin S = .exc "ArgumentError" (.str "word") S := by
  obtain ⟨m, rfl, hk⟩ := up hm
  rw [call_at lk_accept_pairs rfl, run_at rfl]
  have ct := c_check_two (S := S) hM hN (show 7 ≤ m by omega)
  rw [if_pos ⟨h2.l, h2.k⟩] at ct
  simp only [d_accept_pairs]
  simp [ct, far_in]
theorem c_accept_nonw (hM : M.Ok) (hN : N.Ok) (h2 : Same2 M N) {p : PV} (hm : 8 ≤ m) : ((cfg prog m).call "accept_pairs" [M.pv, N.pv, .non, p] S).fin S = .exc "ArgumentError" (.str "word") S := by
  obtain ⟨m, rfl, hk⟩ := up hm
  rw [call_at lk_accept_pairs rfl, run_at rfl]
  have ct := c_check_two (S := S) hM hN (show 7 ≤ m by omega)
  rw [if_pos ⟨h2.l, h2.k⟩] at ct
  simp only [d_accept_pairs]
  simp [ct]
theorem c_accept_5 (hM : M.Ok) (hN : N.Ok) (h2 : Same2 M N) {w : Str} (hw : Word w) (hm : 8 ≤ m) : ((cfg prog m).call "accept_pairs" [M.pv, N.pv, .str w, .int 5] S).fin S = .exc "PaperError" (.str "form") S := by
  obtain ⟨m, rfl, hk⟩ := up hm
  rw [call_at lk_accept_pairs rfl, run_at rfl]
  have ct := c_check_two (S := S) hM hN (show 7 ≤ m by omega)
  rw [if_pos ⟨h2.l, h2.k⟩] at ct
  simp only [d_accept_pairs]
  simp [ct, word_in hw]
theorem is_pair_c {x : PV} (hx : Pc nP (InP M N) x) (hm : 3 ≤ m) : ((cfg prog m).call "is_pair" [x, M.pv, N.pv] S).fin S = .ok (.bl (pairB x)) S := by
  rcases hx with ⟨a, rfl, ha⟩ | rfl | rfl
  · exact c_is_pair_p ha.1 ha.2 hm
  · exact c_is_pair_no (.inl rfl) (by omega)
  · exact c_is_pair_no (.inr rfl) (by omega)
theorem law_is_pair_c {x : PV} (hx : Pc nP (InP M N) x) (hm : 2 ≤ m) : ((cfg prog m).call "_law_is_pair" [x, M.pv, N.pv] S).fin S = .ok (.bl (pairB x)) S := by
  rcases hx with ⟨a, rfl, ha⟩ | rfl | rfl
  · exact c__law_is_pair_p ha.1 ha.2 hm
  · exact c__law_is_pair_no (.inl rfl) (by omega)
  · exact c__law_is_pair_no (.inr rfl) (by omega)
theorem c_accept_pairs_bad (hM : M.Ok) (hN : N.Ok) (h2 : Same2 M N) {w : Str} (hw : Word w) {p : PV} (hp : BadP (InP M N) p) (hm : 8 ≤ m) : ((cfg prog m).call "accept_pairs" [M.pv, N.pv, .str w, p] S).fin S = .exc "PaperError" (.str "form") S := by
  obtain ⟨m, rfl, hk⟩ := up hm
  rw [call_at lk_accept_pairs rfl, run_at rfl]
  have ct := c_check_two (S := S) hM hN (show 7 ≤ m by omega)
  rw [if_pos ⟨h2.l, h2.k⟩] at ct
  simp only [d_accept_pairs]
  rcases hp with rfl | ⟨xs, rfl⟩ | ⟨xs, rfl, hl, h1, h3⟩
  · simp [ct, word_in hw]
  · simp [ct, word_in hw]
  · have lel : ¬ ((48 : Int) < (xs.length : Nat)) := by omega
    simp [ct, word_in hw, lel]
    rw [f_map (fun x => .bl (pairB x)) (xs := xs) ?_ ?_]
    rotate_left
    · simp
    · intro x hx
      simp [cmpStep, wipe, is_pair_c (h1 x hx) (show 3 ≤ m by omega)]
    have h4 : (xs.map pairB).all id = false := by rw [List.all_map]; exact h3
    simp [-List.all_map, h4]
theorem c__law_pairs_due_bad (hM : M.Ok) (hN : N.Ok) {w : PV} {p : PV} (hp : BadP (InP M N) p) (hm : 3 ≤ m) : ((cfg prog m).call "_law_pairs_due" [M.pv, N.pv, w, p] S).fin S = .ok (.str "paper form") S := by
  obtain ⟨m, rfl, hk⟩ := up hm
  rw [call_at lk__law_pairs_due rfl, run_at rfl]
  simp only [d__law_pairs_due]
  rcases hp with rfl | ⟨xs, rfl⟩ | ⟨xs, rfl, hl, h1, h3⟩
  · simp
  · simp
  · have lel : ¬ ((48 : Int) < (xs.length : Nat)) := by omega
    simp [lel]
    rw [f_filT xs id (fun x => !pairB x) id ?_ ?_]
    rotate_left
    · simp
    · intro x hx
      cases q : pairB x <;> simp [cmpStep, wipe, law_is_pair_c (h1 x hx) hk, q]
    have h4 : (xs.any fun x => !pairB x) = true := by
      rw [← Bool.not_eq_false, ← List.not_all_eq_any_not] ; simpa using h3
    simp [empty_fl, -List.any_eq_true, -List.any_eq_false, h4]
theorem paperP_cases {good : Nat × Nat → Prop} {p : PV} (h : Pap nP good p) : (∃ ns : List (Nat × Nat), p = .tup (ns.map nP) ∧ (∀ q ∈ ns, good q) ∧ ns.length ≤ 48) ∨ BadP good p := by
  rcases h with rfl | ⟨ys, rfl⟩ | ⟨ys, rfl, hl, hy⟩
  · exact .inr (.inl rfl)
  · exact .inr (.inr (.inl ⟨ys, rfl⟩))
  · by_cases ha : ys.all pairB = true
    · refine .inl ?_
      have key : ∀ zs : List PV, (∀ y ∈ zs, Pc nP good y) → zs.all pairB = true → ∃ ns : List (Nat × Nat), zs = ns.map nP ∧ ∀ n ∈ ns, good n := by
        intro zs
        induction zs with
        | nil => intro _ _; exact ⟨[], rfl, by simp⟩
        | cons z zs ih =>
          intro h1 h2
          rw [List.all_cons, Bool.and_eq_true] at h2
          obtain ⟨ns, e, hn⟩ := ih (fun y hy => h1 y (List.mem_cons_of_mem _ hy)) h2.2
          rcases h1 z List.mem_cons_self with ⟨a, rfl, ha⟩ | rfl | rfl
          · refine ⟨a :: ns, by rw [e]; rfl, fun n hn' => ?_⟩
            rcases List.mem_cons.mp hn' with rfl | hn'
            · exact ha
            · exact hn n hn'
          · cases h2.1
          · cases h2.1
      obtain ⟨ns, rfl, hn⟩ := key ys hy ha
      exact ⟨ns, rfl, hn, by simpa using hl⟩
    · exact .inr (.inr (.inr ⟨ys, rfl, hl, hy, by simpa using ha⟩))
/-- one turn of the pairs' test -/
theorem pairs_one (hM : M.Ok) (hN : N.Ok) (h2 : Same2 M N) {w : Str} (hw : Word w) (tS : topS S = 0) {p : PV} (hp : Pap nP (InP M N) p) (hm : 9 ≤ m) {o0 o1 o4 o6 o7 : Option PV} {r : List (Option PV)} : (E.cmp .ne (.call "_law_heard" (.cons (.call "_law_asked" (.cons (.glo "accept_pairs" (.fn "accept_pairs")) (.cons (.ro (.disp (.cons (.var 2) (.cons (.var 3) (.cons (.var 5) (.cons (.var 8) .nil)))))) .nil)) []) .nil) []) (.call "_law_pairs_due" (.cons (.var 2) (.cons (.var 3) (.cons (.var 5) (.cons (.var 8) .nil)))) [])).den (cfg prog m) (o0 :: o1 :: some M.pv :: some N.pv :: o4 :: some (.str w) :: o6 :: o7 :: some p :: r) S = .ok (.bl false) S := by
  rcases paperP_cases hp with ⟨ns, rfl, hn, hl⟩ | hb
  · have a1 := c_accept_pairs (S := S) hM hN h2 hw hn hl tS (m := m - 1) (by omega)
    have a2 := c__law_pairs_due (S := S) hM hN h2 hw hn hl (m := m) (by omega)
    rcases due_cases ltP (0, 0) M.rows.length (moved2 M N) (badP M N w) ns with e | e | e | e | e
    · rw [e] at a1 a2
      have a3 := asked4_ok (m := m) (by omega) a1 rfl
      simp [a3, a2, c__law_heard_non (show 1 ≤ m by omega), dueV, ne_non]
    · rw [e] at a1 a2
      have a3 := asked4_exc (m := m) (by omega) a1 told_form
      simp [a3, a2, c__law_heard_str (show 1 ≤ m by omega), dueV, p_form, ne_str told_form.o]
    · rw [e] at a1 a2
      have a3 := asked4_exc (m := m) (by omega) a1 told_begin
      simp [a3, a2, c__law_heard_str (show 1 ≤ m by omega), dueV, p_begin, ne_str told_begin.o]
    · rw [e] at a1 a2
      have a3 := asked4_exc (m := m) (by omega) a1 told_row
      simp [a3, a2, c__law_heard_str (show 1 ≤ m by omega), dueV, p_row, ne_str told_row.o]
    · rw [e] at a1 a2
      have a3 := asked4_exc (m := m) (by omega) a1 told_good
      simp [a3, a2, c__law_heard_str (show 1 ≤ m by omega), dueV, p_good, ne_str told_good.o]
  · have a1 := c_accept_pairs_bad (S := S) hM hN h2 hw hb (m := m - 1) (by omega)
    have a2 := c__law_pairs_due_bad (S := S) hM hN (w := .str w) hb (m := m) (by omega)
    have a3 := asked4_exc (m := m) (by omega) a1 told_form
    simp [a3, a2, c__law_heard_str (show 1 ≤ m by omega), ne_str told_form.o]
theorem pairs_turn (h : At S n st) (hM : M.Ok) (hN : N.Ok) (h2 : Same2 M N) {w : Str} (hw : Word w) (h4 : M.many ≤ 4) (h4' : N.many ≤ 4) {ns : List (Nat × Nat)} (hn : ∀ x ∈ ns, InP M N x) (h0 : 0 < ns.length) (hl : ns.length ≤ 16) {o1 o6 o7 p : Option PV} {r : List (Option PV)} (hm : 9 ≤ m) :
    ∃ (p' : Option PV) (st' : DSt), l__law_pairs_hold_1.den (cfg prog m) (some (.cell n) :: o1 :: some M.pv :: some N.pv :: some (.tup (ns.map nP)) :: some (.str w) :: o6 :: o7 :: p :: r) S = .nx (some (.cell n) :: o1 :: some M.pv :: some N.pv :: some (.tup (ns.map nP)) :: some (.str w) :: o6 :: o7 :: p' :: r) (S.set n st'.po) := by
  obtain ⟨a, st1, ha, e0⟩ := c_draw (m := m) (k := M.many) (by omega) hM.m1 (by omega) h
  have e0' : ((cfg prog m).call "_law_draw" [.cell n, .int (M.many : Nat)] S).fin S = .ok (nI a) (S.set n st1.po) := e0
  obtain ⟨b, st2, hb, e1⟩ := c_draw (m := m) (k := N.many) (by omega) hN.m1 (by omega) (h.set st1)
  have e5 : (S.set n st1.po).set n st2.po = S.set n st2.po := List.set_set ..
  rw [e5] at e1
  have e1' : ((cfg prog m).call "_law_draw" [.cell n, .int (N.many : Nat)] (S.set n st1.po)).fin (S.set n st1.po) = .ok (nI b) (S.set n st2.po) := e1
  have i2 : ∀ (M : Mach) S, index S M.pv (.int 2) = some (.int (M.many : Nat)) := fun _ _ => index_2
  obtain ⟨l', hs, hmem, hlen⟩ := srs_p (l := ns ++ [(a, b)]) (b := 4) (by omega) (fun x hx => by
    rcases List.mem_append.mp hx with q | q
    · have := hn x q; exact ⟨by omega, by omega⟩
    · rw [List.mem_singleton.mp q]; exact ⟨by show a < 4; omega, by show b < 4; omega⟩) (by simp)
  obtain ⟨q, st3, hp, htop, e2⟩ := c__law_spoilt (f := nP) (good := InP M N) top_nP (h.set st2) (l := ns) h0 (by omega) hn (a := (a, b)) ⟨ha, hb⟩ hs (fun x hx => (hmem x).mp hx) (by omega) (m := m) (by omega)
  have e6 : (S.set n st2.po).set n st3.po = S.set n st3.po := List.set_set ..
  rw [e6] at e2
  have ev := pairs_one (S := S.set n st3.po) hM hN h2 hw (h.set st3).t hp hm (o0 := some (.cell n)) (o1 := o1) (o4 := some (.tup (ns.map nP))) (o6 := o6) (o7 := o7) (r := r)
  have ep : (PV.ktup [nI a, nI b]) = nP (a, b) := rfl
  refine ⟨some q, st3, ?_⟩
  simp only [l__law_pairs_hold_1, s_cons', zs_asg, zs_ite]
  simp only [e_call, es_cons, es_nil, e_var, e_idx, e_con, e_ktup, List.getElem?_cons_zero, List.getElem?_cons_succ, vr_some, R.bind_ok, k2_eq, idxK_eq, i2, ofO_some, esK_eq, esC_eq, callK_eq, List.append_nil, e0', e1', ktupK_eq, ep, e2, asgR_ok, g_nm, asgG_ok, thn_nx, List.set_cons_succ, List.set_cons_zero]
  rw [s_cons', zs_ite, ev]
  simp
end
end Q74
end
section
set_option Elab.async false
set_option linter.all false
set_option maxRecDepth 100000
set_option maxHeartbeats 1600000
namespace Q74
open PySem Pz
section
variable {M N : Mach} {S T : Store} {m n : Nat} {st : DSt}
/-- the end of the pairs' test -/
def l__law_pairs_hold_t : Sts := (.cons (.fo (.nm 7) (.rng1 (.con (.int 6))) l__law_pairs_hold_1) (.cons (.asg (.nm 9) (.call "_law_machine" (.cons (.var 0) (.cons (.var 1) (.cons (.con (.bl false)) (.cons (.con (.int 3)) .nil)))) [])) (.cons (.asg (.nm 10) (.ro (.disp (.cons (.tup (.cons (.ro (.disp (.cons (.var 2) (.cons (.var 9) (.cons (.var 5) (.cons (.con .non) .nil)))))) (.cons (.con (.str "argument other")) .nil))) (.cons (.tup (.cons (.ro (.disp (.cons (.var 9) (.cons (.var 2) (.cons (.con (.str "far")) (.cons (.con .non) .nil)))))) (.cons (.con (.str "argument other")) .nil))) (.cons (.tup (.cons (.ro (.disp (.cons (.var 2) (.cons (.call "_law_machine" (.cons (.var 0) (.cons (.bin .add (.var 1) (.con (.int 1))) (.cons (.con (.bl true)) (.cons (.con (.int 2)) .nil)))) []) (.cons (.var 5) (.cons (.var 4) .nil)))))) (.cons (.con (.str "argument other")) .nil))) .nil)))))) (.cons (.asg (.nm 10) (.bin .add (.var 10) (.ro (.disp (.cons (.tup (.cons (.ro (.disp (.cons (.var 2) (.cons (.var 3) (.cons (.con (.str "far")) (.cons (.con .non) .nil)))))) (.cons (.con (.str "argument word")) .nil))) (.cons (.tup (.cons (.ro (.disp (.cons (.var 2) (.cons (.var 3) (.cons (.con .non) (.cons (.var 4) .nil)))))) (.cons (.con (.str "argument word")) .nil))) (.cons (.tup (.cons (.ro (.disp (.cons (.con .non) (.cons (.var 2) (.cons (.var 5) (.cons (.var 4) .nil)))))) (.cons (.con (.str "argument one")) .nil))) (.cons (.tup (.cons (.ro (.disp (.cons (.var 2) (.cons (.var 3) (.cons (.var 5) (.cons (.con (.int 5)) .nil)))))) (.cons (.con (.str "paper form")) .nil))) .nil)))))))) (.cons (.ret (.cmp .eq (.ro (.comp (.var 11) (.tup (.cons (.nm 11) (.cons (.nm 12) .nil))) (.seq (.var 10)) (.some (.cmp .ne (.call "_law_asked" (.cons (.glo "accept_pairs" (.fn "accept_pairs")) (.cons (.var 11) .nil)) []) (.var 12))) [11, 12])) (.ro (.disp .nil)))) .nil)))))
def l__law_pairs_hold_c : E := (.cmp .ne (.call "_law_asked" (.cons (.glo "accept_pairs" (.fn "accept_pairs")) (.cons (.var 11) .nil)) []) (.var 12))
theorem pairs_row {a b c d : PV} {y w s : Str} (hm : 1 ≤ m) (hc : ((cfg prog (m - 1)).call "accept_pairs" [a, b, c, d] S).fin S = .exc y (.str w) S) (t : Told y w s) {o0 o1 o2 o3 o4 o5 o6 o7 o8 o9 o10 o11 o12 : Option PV} :
    cmpStep (cfg prog m) [o0, o1, o2, o3, o4, o5, o6, o7, o8, o9, o10, o11, o12] (.var 11) (.tup (.cons (.nm 11) (.cons (.nm 12) .nil))) (.some l__law_pairs_hold_c) [11, 12] (.tup [.lst [a, b, c, d], .str s]) S = .ok none S := by
  have e1 := asked4_exc hm hc t
  simp [cmpStep, wipe, l__law_pairs_hold_c, e1, ne_str t.o]
theorem eq_nil : cmpop S .eq (.lst []) (.lst []) = some (.bl true) := by kernel_rfl
theorem pairs_tail (h : At S n st) (hM : M.Ok) (hN : N.Ok) (h2 : Same2 M N) {w : Str} (hw : Word w) (h4 : M.many ≤ 4) (h4' : N.many ≤ 4) {ns : List (Nat × Nat)} (hn : ∀ x ∈ ns, InP M N x) (h0 : 0 < ns.length) (hl : ns.length ≤ 16) {L : Nat} (hL : M.letters = L) (hL3 : 3 ≤ L) (hL8 : L ≤ 7) (mk : M.marked = true) {o6 : Option PV} (hm : 9 ≤ m) :
    ∃ (ρ' : Pz.Env) (st' : DSt), l__law_pairs_hold_t.den (cfg prog m) [some (.cell n), some (nI L), some M.pv, some N.pv, some (.tup (ns.map nP)), some (.str w), o6, none, none, none, none, none, none] S = .rt (.bl true) ρ' (S.set n st'.po) := by
  obtain ⟨ρ', T, e3, st3, t, p, eT, eρ⟩ := walk_iT (c := cfg prog m) (j := 7) (b := l__law_pairs_hold_1) (l := List.range 6) (e := nI) (ρ := [some (.cell n), some (nI L), some M.pv, some N.pv, some (.tup (ns.map nP)), some (.str w), o6, none, none, none, none, none, none]) (S := S)
    (fun i ρ T => ∃ (st3 : DSt) (t p : Option PV), T = S.set n st3.po ∧ ρ = [some (.cell n), some (nI L), some M.pv, some N.pv, some (.tup (ns.map nP)), some (.str w), o6, t, p, none, none, none, none])
    ⟨st, none, none, h.self.symm, rfl⟩ (fun i x ρ T _ ⟨st3, t, p, eT, eρ⟩ => by
      subst eT eρ
      obtain ⟨p', st4, ev⟩ := pairs_turn (h.set st3) hM hN h2 hw h4 h4' hn h0 hl (o1 := some (nI L)) (o6 := o6) (o7 := some (nI x)) (p := p) (r := [none, none, none, none]) hm
      have e6 : (S.set n st3.po).set n st4.po = S.set n st4.po := List.set_set ..
      rw [e6] at ev
      exact ⟨_, _, .inl ev, st4, some (nI x), p', rfl, rfl⟩)
  subst eT eρ
  obtain ⟨P, st5, p1, p2, p3, p4, e5⟩ := c__law_machine (m := m) (b := false) (h.set st3) hL3 (by omega) (show 0 < 3 by decide) (by decide) (by omega)
  have e5' : (S.set n st3.po).set n st5.po = S.set n st5.po := List.set_set ..
  rw [e5'] at e5
  have e5 : ((cfg prog m).call "_law_machine" [.cell n, nI L, .bl false, .int 3] (S.set n st3.po)).fin (S.set n st3.po) = .ok P.pv (S.set n st5.po) := e5
  obtain ⟨Q, st6, q1, q2, q3, q4, e6⟩ := c__law_machine (m := m) (b := true) (h.set st5) (L := L + 1) (by omega) (by omega) (show 0 < 2 by decide) (by decide) (by omega)
  have e6' : (S.set n st5.po).set n st6.po = S.set n st6.po := List.set_set ..
  rw [e6'] at e6
  have e6 : ((cfg prog m).call "_law_machine" [.cell n, .int (((L : Nat) : Int) + 1), .bl true, .int 2] (S.set n st5.po)).fin (S.set n st5.po) = .ok Q.pv (S.set n st6.po) := e6
  have d1 : ¬ (M.letters = P.letters ∧ M.marked = P.marked) := fun q => by rw [mk, p3] at q; exact absurd q.2 (by decide)
  have d2 : ¬ (P.letters = M.letters ∧ P.marked = M.marked) := fun q => by rw [mk, p3] at q; exact absurd q.2 (by decide)
  have d3 : ¬ (M.letters = Q.letters ∧ M.marked = Q.marked) := fun q => by omega
  have r6 : rg1 (.int 6) S = .ok (.fix ((List.range 6).map nI)) S := rg1_n (S := S) (k := 6) (by omega)
  have gR : ∀ xs ys : List PV, xs.length ≤ 100 → ys.length ≤ 100 → ∀ S, binop S .add (.lst xs) (.lst ys) = some (.lst (xs ++ ys)) := fun xs ys h1 h2 S => bo_lst (by show _ ≤ 16777216; omega)
  have w1 := c_accept_two (S := S.set n st6.po) (m := m - 1) hM p1 d1 (w := .str w) (p := .non) (by omega)
  have w2 := c_accept_two (S := S.set n st6.po) (m := m - 1) p1 hM d2 (w := .str "far") (p := .non) (by omega)
  have w3 := c_accept_two (S := S.set n st6.po) (m := m - 1) hM q1 d3 (w := .str w) (p := .tup (ns.map nP)) (by omega)
  have w4 := c_accept_far (S := S.set n st6.po) (m := m - 1) hM hN h2 (p := .non) (by omega)
  have w5 := c_accept_nonw (S := S.set n st6.po) (m := m - 1) hM hN h2 (p := .tup (ns.map nP)) (by omega)
  have w6 := c_accept_one (S := S.set n st6.po) (m := m - 1) (x := M.pv) (w := .str w) (p := .tup (ns.map nP)) (by omega)
  have w7 := c_accept_5 (S := S.set n st6.po) (m := m - 1) hM hN h2 hw (by omega)
  refine ⟨[some (.cell n), some (nI L), some M.pv, some N.pv, some (.tup (ns.map nP)), some (.str w), o6, t, p, some P.pv, some (.lst [.tup [.lst [M.pv, P.pv, .str w, .non], .str "argument other"], .tup [.lst [P.pv, M.pv, .str "far", .non], .str "argument other"], .tup [.lst [M.pv, Q.pv, .str w, .tup (ns.map nP)], .str "argument other"], .tup [.lst [M.pv, N.pv, .str "far", .non], .str "argument word"], .tup [.lst [M.pv, N.pv, .non, .tup (ns.map nP)], .str "argument word"], .tup [.lst [.non, M.pv, .str w, .tup (ns.map nP)], .str "argument one"], .tup [.lst [M.pv, N.pv, .str w, .int 5], .str "paper form"]]), none, none], st6, ?_⟩
  simp only [l__law_pairs_hold_t]
  have aN : ∀ S, binop S .add (nI L) (.int 1) = some (.int (((L : Nat) : Int) + 1)) := fun _ => rfl
  simp [r6, e3, e5, e6, gR, aN]
  rw [f_comp (fun _ => none) ?_ ?_]
  rotate_left 2
  · simp
    rfl
  · intro x hx
    simp only [List.mem_cons, List.not_mem_nil, or_false] at hx
    rcases hx with rfl | rfl | rfl | rfl | rfl | rfl | rfl
    · exact pairs_row (by omega) w1 told_other
    · exact pairs_row (by omega) w2 told_other
    · exact pairs_row (by omega) w3 told_other
    · exact pairs_row (by omega) w4 told_word
    · exact pairs_row (by omega) w5 told_word
    · exact pairs_row (by omega) w6 told_one
    · exact pairs_row (by omega) w7 told_form
  simp [eq_nil]
end
end Q74
end
section
set_option Elab.async false
set_option linter.all false
set_option maxRecDepth 100000
set_option maxHeartbeats 1600000
namespace Q74
open PySem Pz
section
variable {M N : Mach} {S T : Store} {m n : Nat} {st : DSt}
theorem d__law_pairs_hold_eq : d__law_pairs_hold = { hot := false, params := 1, dfl := [], slots := 13, body := (.cons (.asg (.nm 1) (.bin .add (.con (.int 3)) (.call "_law_draw" (.cons (.var 0) (.cons (.con (.int 2)) .nil)) []))) (.cons (.par [2, 3] (.cons (.call "_law_some_machine" (.cons (.var 0) (.cons (.var 1) .nil)) []) (.cons (.call "_law_some_machine" (.cons (.var 0) (.cons (.var 1) .nil)) []) .nil))) (.cons (.par [4, 5] (.cons (.bi .tuple (.cons (.call "_law_pairs_reached" (.cons (.var 2) (.cons (.var 3) .nil)) []) .nil)) (.cons (.call "_law_pick" (.cons (.var 0) (.cons (.ro (.disp (.cons (.con (.str "less")) (.cons (.con (.str "odd")) (.cons (.con (.str "both")) .nil))))) .nil)) []) .nil))) (.cons (.ite (.cmp .eq (.call "_law_draw" (.cons (.var 0) (.cons (.con (.int 3)) .nil)) []) (.con (.int 0))) (.cons (.par [3, 4] (.cons (.var 2) (.cons (.bi .tuple (.cons (.ro (.comp (.ktup (.cons (.var 6) (.cons (.var 6) .nil))) (.nm 6) (.seq (.call "_law_reached" (.cons (.var 2) .nil) [])) .none [6])) .nil)) .nil))) .nil) .nil) l__law_pairs_hold_t)))) } := rfl
theorem c__law_pairs_hold (h : At S n st) (hm : 10 ≤ m) : ∃ (st' : DSt), ((cfg prog m).call "_law_pairs_hold" [.cell n] S).fin S = .ok (.bl true) (S.set n st'.po) := by
  obtain ⟨m, rfl, hk⟩ := up hm
  obtain ⟨a, st1, ha, e0⟩ := c_draw (m := m) (k := 2) (by omega) (by omega) (by omega) h
  have e0 : ((cfg prog m).call "_law_draw" [.cell n, .int 2] S).fin S = .ok (.int (a : Nat)) (S.set n st1.po) := e0
  obtain ⟨L, eL'⟩ : ∃ L, L = 3 + a := ⟨_, rfl⟩
  have eL : (.int (3 + ((a : Nat) : Int)) : PV) = nI L := by show PV.int _ = PV.int _; congr 1; omega
  obtain ⟨M, st2, a1, a2, a3, a4, e1⟩ := c__law_some_machine (m := m) (h.set st1) (L := L) (by omega) (by omega) (by omega)
  have e5 : ∀ x y : DSt, (S.set n x.po).set n y.po = S.set n y.po := fun _ _ => List.set_set ..
  rw [e5] at e1
  obtain ⟨N, st3, b1, b2, b3, b4, e2⟩ := c__law_some_machine (m := m) (h.set st2) (L := L) (by omega) (by omega) (by omega)
  rw [e5] at e2
  have s2 : Same2 M N := ⟨by rw [a2, b2], by rw [a3, b3]⟩
  obtain ⟨ns, n1, n2, n3, e3⟩ := c__law_pairs_reached (S := S.set n st3.po) a1 b1 (s2.rows a1 b1) a4 b4 (show 3 ≤ m by omega)
  obtain ⟨wv, st4, hw, e4⟩ := c__law_pick (m := m) (h.set st3) (xs := [.str "less", .str "odd", .str "both"]) (by decide) (by decide) rfl (by omega)
  rw [e5] at e4
  obtain ⟨w, rfl, hW⟩ : ∃ w : Str, wv = .str w ∧ Word w := by
    simp only [List.mem_cons, List.not_mem_nil, or_false] at hw
    rcases hw with rfl | rfl | rfl
    · exact ⟨_, rfl, .inl rfl⟩
    · exact ⟨_, rfl, .inr (.inl rfl)⟩
    · exact ⟨_, rfl, .inr (.inr rfl)⟩
  obtain ⟨c, st5, hc, e6⟩ := c_draw (m := m) (k := 3) (by omega) (by omega) (by omega) (h.set st4)
  rw [e5] at e6
  have e6 : ((cfg prog m).call "_law_draw" [.cell n, .int 3] (S.set n st4.po)).fin (S.set n st4.po) = .ok (.int (c : Nat)) (S.set n st5.po) := e6
  rw [call_at lk__law_pairs_hold rfl, run_at rfl]
  have f := fun x : DSt => h.fin0 x (v := .bl true) (Nat.zero_le _)
  by_cases z : c = 0
  · subst z
    obtain ⟨ks, k1, k2, k3, e7⟩ := c__law_reached (S := S.set n st5.po) a1 a4 (show 2 ≤ m by omega)
    obtain ⟨ρ', st6, e8⟩ := pairs_tail (h.set st5) a1 a1 ⟨rfl, rfl⟩ hW a4 a4 (ns := ks.map fun k => (k, k)) (fun x hx => by
      obtain ⟨k, hk, rfl⟩ := List.mem_map.mp hx
      exact ⟨k1 k hk, k1 k hk⟩) (by rw [List.length_map]; exact List.length_pos_of_mem k2) (by rw [List.length_map]; omega) a2 (by omega) (by omega) a3 (o6 := none) hk
    rw [e5] at e8
    refine ⟨st6, ?_⟩
    simp only [d__law_pairs_hold_eq]
    simp [e0, eL, e1, e2, e3, e4, e6]
    rw [f_mapT ks nI (fun k => nP (k, k)) ?_ ?_]
    rotate_left
    · simp [e7]
    · intro k _
      simp [cmpStep, wipe]
      rfl
    rw [List.map_map] at e8
    have em : (nP ∘ fun k => (k, k)) = fun k => nP (k, k) := rfl
    rw [em] at e8
    simp [e8]
    exact f st6
  · obtain ⟨ρ', st6, e8⟩ := pairs_tail (h.set st5) a1 b1 s2 hW a4 b4 n1 (List.length_pos_of_mem n2) n3 a2 (by omega) (by omega) a3 (o6 := none) hk
    rw [e5] at e8
    refine ⟨st6, ?_⟩
    simp only [d__law_pairs_hold_eq]
    have z' : ¬ ((c : Int) = 0) := by omega
    simp [e0, eL, e1, e2, e3, e4, e6, z, z', e8]
    exact f st6
end
end Q74
end
section
set_option Elab.async false
set_option linter.all false
set_option maxRecDepth 100000
set_option maxHeartbeats 1600000
namespace Q74
open PySem Pz
inductive Lb where
  | a | b | q | x
def Lb.s : Lb → Str
  | .a => "a"
  | .b => "b"
  | .q => "q"
  | .x => "else"
def txS : Bool → Str
  | false => ""
  | true => "a b"
/-- hedges -/
inductive Hg where
  | nil
  | t (x : Bool) (r : Hg)
  | e (l : Lb) (k r : Hg)
inductive Nd where
  | t (x : Bool)
  | e (l : Lb) (k : Hg)
def Hg.pv : Hg → List PV
  | .nil => []
  | .t x r => .tup [.str "t", .str (txS x)] :: r.pv
  | .e l k r => .tup [.str "e", .str l.s, .tup k.pv] :: r.pv
def Hg.nds : Hg → List Nd
  | .nil => []
  | .t x r => .t x :: r.nds
  | .e l k r => .e l k :: r.nds
def Hg.of : List Nd → Hg
  | [] => .nil
  | .t x :: r => .t x (Hg.of r)
  | .e l k :: r => .e l k (Hg.of r)
def Nd.pv : Nd → PV
  | .t x => .tup [.str "t", .str (txS x)]
  | .e l k => .tup [.str "e", .str l.s, .tup k.pv]
def Nd.kids : Nd → Hg
  | .t _ => .nil
  | .e _ k => k
def Hg.size : Hg → Nat
  | .nil => 0
  | .t _ r => 1 + r.size
  | .e _ k r => 1 + k.size + r.size
def Nd.size (d : Nd) : Nat := 1 + d.kids.size
def sizeL (ds : List Nd) : Nat := (ds.map Nd.size).sum
theorem of_nds : ∀ ds : List Nd, (Hg.of ds).nds = ds
  | [] => rfl
  | .t x :: r => by show Nd.t x :: (Hg.of r).nds = _; rw [of_nds r]
  | .e l k :: r => by show Nd.e l k :: (Hg.of r).nds = _; rw [of_nds r]
theorem pv_nds (h : Hg) : h.pv = h.nds.map Nd.pv := by
  induction h with
  | nil => rfl
  | t x r ih => show _ :: r.pv = _ :: r.nds.map Nd.pv; rw [ih]; rfl
  | e l k r _ ih => show _ :: r.pv = _ :: r.nds.map Nd.pv; rw [ih]; rfl
theorem size_nds (h : Hg) : h.size = sizeL h.nds := by
  induction h with
  | nil => rfl
  | t x r ih => show 1 + r.size = Nd.size (.t x) + sizeL r.nds; rw [ih]; rfl
  | e l k r _ ih => show 1 + k.size + r.size = Nd.size (.e l k) + sizeL r.nds; rw [ih]; rfl
theorem sizeL_cons {d : Nd} {ds : List Nd} : sizeL (d :: ds) = d.size + sizeL ds := rfl
theorem sizeL_app {ds es : List Nd} : sizeL (ds ++ es) = sizeL ds + sizeL es := by unfold sizeL; rw [List.map_append, List.sum_append]
theorem size_mem {d : Nd} {ds : List Nd} (h : d ∈ ds) : d.size ≤ sizeL ds := by
  induction ds with
  | nil => cases h
  | cons e ds ih =>
    rw [sizeL_cons]
    rcases List.mem_cons.mp h with rfl | h
    · omega
    · have := ih h; omega
theorem len_le : ∀ ds : List Nd, ds.length ≤ sizeL ds
  | [] => Nat.zero_le _
  | d :: ds => by rw [sizeL_cons, List.length_cons]; have := len_le ds; have : 1 ≤ d.size := by unfold Nd.size; omega
                  omega
section
variable {M N : Mach} {S T : Store} {m n : Nat} {st : DSt}
@[simp] theorem q_tt : cmpop S .eq (.str "t") (.str "t") = some (.bl true) := by kernel_rfl
@[simp] theorem q_te : cmpop S .eq (.str "t") (.str "e") = some (.bl false) := by kernel_rfl
@[simp] theorem q_et : cmpop S .eq (.str "e") (.str "t") = some (.bl false) := by kernel_rfl
@[simp] theorem q_ee : cmpop S .eq (.str "e") (.str "e") = some (.bl true) := by kernel_rfl
@[simp] theorem n_ee : cmpop S .ne (.str "e") (.str "e") = some (.bl false) := by kernel_rfl
@[simp] theorem n_te : cmpop S .ne (.str "t") (.str "e") = some (.bl true) := by kernel_rfl
theorem sum_nI {α : Type} {l : List α} {p : α → Nat} : (intsOf (l.map fun x => nI (p x))).map (fun is => PV.int is.sum) = some (nI ((l.map p).sum)) := by
  have h : intsOf (l.map fun x => nI (p x)) = some (l.map fun x => ((p x : Nat) : Int)) := intsOf_map
  rw [h]
  show some (PV.int _) = some (PV.int _)
  congr 2
  clear h
  induction l with
  | nil => rfl
  | cons x l ih => rw [List.map_cons, List.sum_cons, ih, List.map_cons, List.sum_cons]; omega
theorem c__law_size : ∀ (N : Nat) (ds : List Nd), sizeL ds ≤ N → ∀ m S, N + 1 ≤ m → ((cfg prog m).call "_law_size" [.tup (ds.map Nd.pv)] S).fin S = .ok (nI (sizeL ds)) S := by
  intro N
  induction N with
  | zero =>
    intro ds h m S hm
    obtain ⟨m, rfl, hk⟩ := up hm
    have e : ds = [] := by
      cases ds with
      | nil => rfl
      | cons d ds => rw [sizeL_cons] at h; unfold Nd.size at h; omega
    subst e
    rw [call_at lk__law_size rfl, run_at rfl]
    simp only [d__law_size]
    simp
    rw [f_mapT ([] : List Nd) Nd.pv (fun d => nI d.size) ?_ ?_]
    · simp [intsOf, sizeL]
      rfl
    · simp
    · simp
  | succ N ih =>
    intro ds h m S hm
    obtain ⟨m, rfl, hk⟩ := up hm
    rw [call_at lk__law_size rfl, run_at rfl]
    simp only [d__law_size]
    simp
    rw [f_mapT ds Nd.pv (fun d => nI d.size) ?_ ?_]
    · simp [sum_nI, sizeL]
      exact fin_int
    · simp
    · intro d hd
      cases d with
      | t x =>
        simp [cmpStep, wipe, Nd.pv]
        rfl
      | e l k =>
        have q : 1 + k.size ≤ sizeL ds := size_mem hd
        have e1 := ih k.nds (by rw [← size_nds]; omega) m S (by omega)
        rw [← pv_nds, ← size_nds] at e1
        have aN : ∀ L S, binop S .add (.int 1) (nI L) = some (nI (1 + L)) := fun _ _ => by show some (PV.int _) = some (PV.int _); congr 2
        simp [cmpStep, wipe, Nd.pv, e1, aN]
        rfl
theorem c_size_in : ∀ (N : Nat) (ds : List Nd), sizeL ds ≤ N → ∀ m S, N + 1 ≤ m → ((cfg prog m).call "size_in" [.tup (ds.map Nd.pv)] S).fin S = .ok (nI (sizeL ds)) S := by
  intro N
  induction N with
  | zero =>
    intro ds h m S hm
    obtain ⟨m, rfl, hk⟩ := up hm
    have e : ds = [] := by
      cases ds with
      | nil => rfl
      | cons d ds => rw [sizeL_cons] at h; unfold Nd.size at h; omega
    subst e
    rw [call_at lk_size_in rfl, run_at rfl]
    simp only [d_size_in]
    simp
    rw [f_mapT ([] : List Nd) Nd.pv (fun d => nI d.size) ?_ ?_]
    · simp [intsOf, sizeL]
      rfl
    · simp
    · simp
  | succ N ih =>
    intro ds h m S hm
    obtain ⟨m, rfl, hk⟩ := up hm
    rw [call_at lk_size_in rfl, run_at rfl]
    simp only [d_size_in]
    simp
    rw [f_mapT ds Nd.pv (fun d => nI d.size) ?_ ?_]
    · simp [sum_nI, sizeL]
      exact fin_int
    · simp
    · intro d hd
      cases d with
      | t x =>
        simp [cmpStep, wipe, Nd.pv]
        rfl
      | e l k =>
        have q : 1 + k.size ≤ sizeL ds := size_mem hd
        have e1 := ih k.nds (by rw [← size_nds]; omega) m S (by omega)
        rw [← pv_nds, ← size_nds] at e1
        have aN : ∀ L S, binop S .add (.int 1) (nI L) = some (nI (1 + L)) := fun _ _ => by show some (PV.int _) = some (PV.int _); congr 2
        simp [cmpStep, wipe, Nd.pv, e1, aN]
        rfl
theorem c_kids_of {d : Nd} (hm : 1 ≤ m) : ((cfg prog m).call "kids_of" [d.pv] S).fin S = .ok (.tup d.kids.pv) S := by
  obtain ⟨m, rfl, hk⟩ := up hm
  rw [call_at lk_kids_of rfl, run_at rfl]
  simp only [d_kids_of]
  have top : ∀ h : Hg, PV.top.topL h.pv = 0 := by
    intro h
    induction h with
    | nil => rfl
    | t x r ih => show max _ (PV.top.topL r.pv) = 0; rw [ih]; rfl
    | e l k r ihk ih => show max (max 0 (max 0 (max (PV.top.topL k.pv) 0))) (PV.top.topL r.pv) = 0; rw [ih, ihk]; rfl
  cases d with
  | t x => simp [Nd.pv]; exact fin_ok0 (Nat.zero_le _)
  | e l k => simp [Nd.pv]; exact fin_ok0 (by show PV.top.topL k.pv ≤ _; rw [top]; exact Nat.zero_le _)
end
end Q74
end
section
set_option Elab.async false
set_option linter.all false
set_option maxRecDepth 100000
set_option maxHeartbeats 1600000
namespace Q74
open PySem Pz
section
variable {M N : Mach} {S T : Store} {m n : Nat} {st : DSt}
theorem c_is_name (l : Lb) (hm : 1 ≤ m) : ((cfg prog m).call "is_name" [.str l.s] S).fin S = .ok (.bl true) S := by
  obtain ⟨m, rfl, hk⟩ := up hm
  rw [call_at lk_is_name rfl, run_at rfl]
  have h : d_is_name.body.den (cfg prog m) [some (.str l.s), none] S = .rt (.bl true) [some (.str l.s), none] S := by cases l <;> kernel_rfl
  show (d_is_name.body.den (cfg prog m) [some (.str l.s), none] S).res.fin S = _
  rw [h]
  simp
theorem c_is_content (x : Bool) (hm : 1 ≤ m) : ((cfg prog m).call "is_content" [.str (txS x)] S).fin S = .ok (.bl true) S := by
  obtain ⟨m, rfl, hk⟩ := up hm
  rw [call_at lk_is_content rfl, run_at rfl]
  have h : d_is_content.body.den (cfg prog m) [some (.str (txS x)), none] S = .rt (.bl true) [some (.str (txS x)), none] S := by cases x <;> kernel_rfl
  show (d_is_content.body.den (cfg prog m) [some (.str (txS x)), none] S).res.fin S = _
  rw [h]
  simp
theorem c_are_nodes : ∀ (N : Nat) (ds : List Nd), sizeL ds ≤ N → ∀ (dep : Nat) m S, sizeL ds ≤ dep → N + 2 ≤ m → ((cfg prog m).call "are_nodes" [.tup (ds.map Nd.pv), nI dep] S).fin S = .ok (.bl true) S := by
  intro N
  induction N with
  | zero =>
    intro ds h dep m S hd hm
    obtain ⟨m, rfl, hk⟩ := up hm
    have e : ds = [] := by
      cases ds with
      | nil => rfl
      | cons d ds => rw [sizeL_cons] at h; unfold Nd.size at h; omega
    subst e
    rw [call_at lk_are_nodes rfl, run_at rfl]
    simp only [d_are_nodes]
    simp
  | succ N ih =>
    intro ds h dep m S hd hm
    obtain ⟨m, rfl, hk⟩ := up hm
    rw [call_at lk_are_nodes rfl, run_at rfl]
    obtain ⟨ρ', T, e1, x, eT, eρ⟩ := walk_iT (c := cfg prog m) (j := 2) (b := l_are_nodes_1) (l := ds) (e := Nd.pv) (ρ := [some (.tup (ds.map Nd.pv)), some (nI dep), none]) (S := S)
      (fun i ρ T => ∃ (x : Option PV), T = S ∧ ρ = [some (.tup (ds.map Nd.pv)), some (nI dep), x]) ⟨none, rfl, rfl⟩ (fun i d ρ T hx ⟨x, eT, eρ⟩ => by
        subst eT eρ
        refine ⟨[some (.tup (ds.map Nd.pv)), some (nI dep), some d.pv], T, ?_, some d.pv, rfl, rfl⟩
        have q : d.size ≤ sizeL ds := size_mem (List.mem_of_getElem? hx)
        simp only [l_are_nodes_1]
        cases d with
        | t x =>
          right
          simp [Nd.pv, c_is_content x (show 1 ≤ m by omega)]
        | e l k =>
          left
          have q : 1 + k.size ≤ sizeL ds := q
          have e1 := ih k.nds (by rw [← size_nds]; omega) (dep - 1) m T (by rw [← size_nds]; omega) (by omega)
          rw [← pv_nds] at e1
          have sN : ∀ S, binop S .sub (nI dep) (.int 1) = some (nI (dep - 1)) := fun _ => by show some (PV.int _) = some (PV.int _); congr 2; omega
          simp [Nd.pv, c_is_name l (show 1 ≤ m by omega), sN, e1])
    subst eT eρ
    simp only [d_are_nodes]
    cases ds with
    | nil => simp
    | cons d ds =>
      have z : cmpop T .eq (nI dep) (.int 0) = some (.bl false) := by
        show cmpop T .eq (.int (dep : Nat)) (.int 0) = _
        rw [sizeL_cons] at hd
        unfold Nd.size at hd
        have : ¬ ((dep : Int) = 0) := by omega
        have t2 : ¬ (dep = 0) := by omega
        simp [this, t2]
      rw [List.map_cons] at e1 ⊢
      simp [z, e1]
theorem c_is_hedge {ds : List Nd} (h : sizeL ds ≤ 20) (hm : sizeL ds + 3 ≤ m) : ((cfg prog m).call "is_hedge" [.tup (ds.map Nd.pv)] S).fin S = .ok (.bl true) S := by
  obtain ⟨m, rfl, hk⟩ := up hm
  rw [call_at lk_is_hedge rfl, run_at rfl]
  have e1 : ((cfg prog m).call "are_nodes" [.tup (ds.map Nd.pv), .int 20] S).fin S = .ok (.bl true) S := c_are_nodes (sizeL ds) ds (Nat.le_refl _) 20 m S h (by omega)
  have e2 := c_size_in (sizeL ds) ds (Nat.le_refl _) m S (by omega)
  simp only [d_is_hedge]
  have z : cmpop S .le (nI (sizeL ds)) (.int 200) = some (.bl true) := by
    show some (PV.bl (decide _)) = _
    rw [decide_eq_true (by omega)]
  simp [e1, e2, z]
theorem c_check_hedge {ds : List Nd} (h : sizeL ds ≤ 20) {x : PV} (hm : sizeL ds + 4 ≤ m) : ((cfg prog m).call "check_hedge" [.tup (ds.map Nd.pv), x] S).fin S = .ok .non S := by
  obtain ⟨m, rfl, hk⟩ := up hm
  rw [call_at lk_check_hedge rfl, run_at rfl]
  simp only [d_check_hedge]
  simp [c_is_hedge h hk]
/-- the labels -/
def lbs : Bool → List Lb
  | false => [.a]
  | true => [.a, .b]
def labs (b : Bool) : List PV := (lbs b).map fun l => .str l.s
def ln : Bool → Nat
  | false => 1
  | true => 2
theorem len_labs (b : Bool) : (labs b).length = ln b := by cases b <;> rfl
def ltr (b : Bool) : Nd → Nat
  | .t _ => ln b + 1
  | .e .a _ => 0
  | .e .b _ => 1
  | .e _ _ => ln b
theorem ltr_lt (b : Bool) (d : Nd) : ltr b d < ln b + 2 := by
  cases d with
  | t x => show ln b + 1 < _; omega
  | e l k => cases l <;> cases b <;> simp [ltr, ln]
theorem c_letter_in (b : Bool) (d : Nd) (hm : 1 ≤ m) : ((cfg prog m).call "letter_in" [.tup (labs b), d.pv] S).fin S = .ok (nI (ltr b d)) S := by
  obtain ⟨m, rfl, hk⟩ := up hm
  rw [call_at lk_letter_in rfl, run_at rfl]
  have h : d_letter_in.body.den (cfg prog m) [some (.tup (labs b)), some d.pv] S = .rt (nI (ltr b d)) [some (.tup (labs b)), some d.pv] S := by
    cases d with
    | t x => cases b <;> kernel_rfl
    | e l k => cases b <;> cases l <;> kernel_rfl
  show (d_letter_in.body.den (cfg prog m) [some (.tup (labs b)), some d.pv] S).res.fin S = _
  rw [h]
  exact fin_int
theorem c_check_labels (b : Bool) (hm : 2 ≤ m) : ((cfg prog m).call "check_labels" [.tup (labs b)] S).fin S = .ok .non S := by
  obtain ⟨m, rfl, hk⟩ := up hm
  rw [call_at lk_check_labels rfl, run_at rfl]
  have hd : (E.dcomp false (.var 1) (.con (.bl true)) (.nm 1) (.seq (.var 0)) [1]).den (cfg prog m) [some (.tup (labs b)), none] S = .ok (.dct false (labs b) ((labs b).map fun _ => .bl true)) S := by cases b <;> kernel_rfl
  have le : (1 : Int) ≤ (ln b : Nat) ∧ ((ln b : Nat) : Int) ≤ 6 := by cases b <;> decide
  simp only [d_check_labels]
  simp [len_labs, le]
  rw [f_mapT (lbs b) (fun l => .str l.s) (fun _ => .bl true) ?_ ?_]
  rotate_left
  · simp [labs]
  · intro l _
    simp [cmpStep, wipe, c_is_name l hk]
  have at_ : ((lbs b).map fun _ => true).all id = true := by simp
  simp [-List.all_map, at_, hd, len_labs]
theorem c_check_for (hM : M.Ok) {b : Bool} (hl : M.letters = ln b + 2) (hm : 6 ≤ m) : ((cfg prog m).call "check_for" [M.pv, .tup (labs b)] S).fin S = .ok .non S := by
  obtain ⟨m, rfl, hk⟩ := up hm
  rw [call_at lk_check_for rfl, run_at rfl]
  have i0 : index S M.pv (.int 0) = some (.int (M.letters : Nat)) := index_0
  simp only [d_check_for]
  have z : ¬ ¬ ((M.letters : Nat) : Int) = ((ln b : Nat) : Int) + 2 := by omega
  simp [c_check_labels b (show 2 ≤ m by omega), c_is_machine hM hk, i0, len_labs, z]
end
end Q74
end
section
set_option Elab.async false
set_option linter.all false
set_option maxRecDepth 100000
set_option maxHeartbeats 1600000
namespace Q74
open PySem Pz
theorem walk_iS {β : Type} {c : Cfg} {ρ : Pz.Env} {S : Store} {i : Nat} {b : Sts} {l : List β} {e : β → PV} (I : Nat → Pz.Env → Prop) (r : SR → Prop) (hr : ∀ sr, r sr → Stop sr) (p : β → Bool) (h0 : I 0 ρ) (hs : ∀ j x, l[j]? = some x → ∀ ρ, I j ρ → if p x = true then r (b.den c (ρ.set i (some (e x))) S) else ∃ ρ', (b.den c (ρ.set i (some (e x))) S = .nx ρ' S ∨ b.den c (ρ.set i (some (e x))) S = .ct ρ' S) ∧ I (j + 1) ρ') :
    if l.any p = true then r (walk c (.nm i) b (l.map e) ρ S) else ∃ ρ', walk c (.nm i) b (l.map e) ρ S = .nx ρ' S ∧ I l.length ρ' := by
  induction l generalizing ρ I with
  | nil => exact ⟨ρ, rfl, h0⟩
  | cons x l ih =>
    have h := hs 0 x rfl ρ h0
    have e1 : turn c (.nm i) b (e x) ρ S = b.den c (ρ.set i (some (e x))) S := by rw [turn_eq, g_nm, turnG_ok]
    rw [List.map_cons, walk_cons, List.any_cons, e1]
    by_cases px : p x = true
    · rw [if_pos px] at h
      rw [px, Bool.true_or, if_pos rfl, (hr _ h).wlk]
      exact h
    · rw [if_neg px] at h
      have q : p x = false := by simpa using px
      rw [q, Bool.false_or]
      obtain ⟨ρ', h1, h2⟩ := h
      have k := ih (ρ := ρ') (fun j => I (j + 1)) h2 (fun j y hy => hs (j + 1) y hy)
      have e2 : wlk c (.nm i) b (l.map e) (b.den c (ρ.set i (some (e x))) S) = walk c (.nm i) b (l.map e) ρ' S := by
        rcases h1 with h1 | h1 <;> rw [h1]
        · exact wlk_nx
        · exact wlk_ct
      rw [e2]
      exact k
/-! ### right runs -/
def okN (M : Mach) (b : Bool) (d : Nd) (kk : Bool) (ns : List Nat) : Bool := kk && (ns.headD 0 == M.moved (ltr b d) (((ns.drop 1).take d.kids.size).headD 0) ((ns.drop d.size).headD 0))
def Hg.ok (M : Mach) (b : Bool) : Hg → List Nat → Bool
  | .nil, _ => true
  | .t x r, ns => okN M b (.t x) true ns && r.ok M b (ns.drop 1)
  | .e l k r, ns => okN M b (.e l k) (k.ok M b ((ns.drop 1).take k.size)) ns && r.ok M b (ns.drop (1 + k.size))
def okD (M : Mach) (b : Bool) (d : Nd) (ns : List Nat) : Bool := okN M b d (d.kids.ok M b ((ns.drop 1).take d.kids.size)) ns
def okL (M : Mach) (b : Bool) : List Nd → List Nat → Bool
  | [], _ => true
  | d :: ds, ns => okD M b d ns && okL M b ds (ns.drop d.size)
theorem ok_nds (M : Mach) (b : Bool) (h : Hg) : ∀ ns, h.ok M b ns = okL M b h.nds ns := by
  induction h with
  | nil => intro _; rfl
  | t x r ih =>
    intro ns
    show (okN M b (.t x) true ns && r.ok M b (ns.drop 1)) = (okD M b (.t x) ns && okL M b r.nds (ns.drop (Nd.size (.t x))))
    rw [ih]; rfl
  | e l k r _ ih =>
    intro ns
    show (okN M b (.e l k) (k.ok M b ((ns.drop 1).take k.size)) ns && r.ok M b (ns.drop (1 + k.size))) = (okD M b (.e l k) ns && okL M b r.nds (ns.drop (Nd.size (.e l k))))
    rw [ih]; rfl
def bg (ds : List Nd) (k : Nat) : Nat := sizeL (ds.take k)
def nd (ds : List Nd) (k : Nat) : Nd := ds.getD k (.t false)
theorem okL_all (M : Mach) (b : Bool) : ∀ (ds : List Nd) (ns : List Nat), okL M b ds ns = (List.range ds.length).all fun k => okD M b (nd ds k) (ns.drop (bg ds k))
  | [], _ => rfl
  | d :: ds, ns => by
    show (okD M b d ns && okL M b ds (ns.drop d.size)) = _
    rw [okL_all M b ds, List.length_cons, List.range_succ_eq_map, List.all_cons, List.all_map]
    congr 1
    refine List.all_congr rfl ?_
    intro k
    show okD M b (nd ds k) ((ns.drop d.size).drop (bg ds k)) = okD M b (nd (d :: ds) (k + 1)) (ns.drop (bg (d :: ds) (k + 1)))
    rw [List.drop_drop]
    rfl
theorem bg_succ {ds : List Nd} {k : Nat} (h : k < ds.length) : bg ds (k + 1) = bg ds k + (nd ds k).size := by
  unfold bg nd
  rw [List.take_add_one, sizeL_app, List.getD_eq_getElem?_getD, List.getElem?_eq_getElem h]
  show _ + sizeL [ds[k]] = _
  unfold sizeL
  simp
theorem bg_len {ds : List Nd} : bg ds ds.length = sizeL ds := by unfold bg; rw [List.take_length]
theorem bg_le {ds : List Nd} {k : Nat} (h : k < ds.length) : bg ds k + (nd ds k).size ≤ sizeL ds := by
  rw [← bg_succ h]
  unfold bg
  conv => rhs; rw [← List.take_append_drop (k + 1) ds, sizeL_app]
  omega
theorem size_pos (d : Nd) : 1 ≤ d.size := by unfold Nd.size; omega
theorem nd_mem {ds : List Nd} {k : Nat} (h : k < ds.length) : nd ds k ∈ ds := by
  unfold nd
  rw [List.getD_eq_getElem?_getD, List.getElem?_eq_getElem h]
  exact List.getElem_mem h
theorem head_lt {many : Nat} (h1 : 1 ≤ many) {ns : List Nat} (h : ∀ x ∈ ns, x < many) : ns.headD 0 < many := by
  cases ns with
  | nil => exact h1
  | cons x ns => exact h x List.mem_cons_self
section
variable {M N : Mach} {S T : Store} {m n : Nat} {st : DSt}
theorem kidsE {c : Cfg} {ρ : Pz.Env} {d : Nd} {j : Nat} (h : ρ[j]? = some (some d.pv)) : (E.ite (.cmp .eq (.idx (.var j) (.con (.int 0))) (.con (.str "e"))) (.idx (.var j) (.con (.int 2))) (.tup .nil)).den c ρ S = .ok (.tup d.kids.pv) S := by
  cases d with
  | t x => simp [h, Nd.pv, Nd.kids, Hg.pv]
  | e l k => simp [h, Nd.pv, Nd.kids, Hg.pv]
def inl : Bool → Lb → Bool
  | _, .a => true
  | true, .b => true
  | _, _ => false
theorem mem_labs (b : Bool) (l : Lb) : cmpop S .mem (.str l.s) (.tup (labs b)) = some (.bl (inl b l)) := by cases b <;> cases l <;> kernel_rfl
theorem ix_labs (b : Bool) (l : Lb) (k : Hg) (h : inl b l = true) : ixOf (strsOf (labs b)) (.str l.s) = some (.int (ltr b (.e l k) : Nat)) := by
  cases b <;> cases l <;> first | (cases h; done) | kernel_rfl
theorem ltrE {c : Cfg} {ρ : Pz.Env} {d : Nd} {b : Bool} {j : Nat} (h1 : ρ[1]? = some (some (.tup (labs b)))) (h : ρ[j]? = some (some d.pv)) : (E.ite (.cmp .eq (.idx (.var j) (.con (.int 0))) (.con (.str "t"))) (.bin .add (.bi .len (.cons (.var 1) .nil)) (.con (.int 1))) (.ite (.cmp .mem (.idx (.var j) (.con (.int 1))) (.var 1)) (.ixo (.var 1) (.idx (.var j) (.con (.int 1)))) (.bi .len (.cons (.var 1) .nil)))).den c ρ S = .ok (.int (ltr b d : Nat)) S := by
  cases d with
  | t x => simp [h, h1, Nd.pv, len_labs]; rfl
  | e l k =>
    cases q : inl b l
    · have : ltr b (.e l k) = ln b := by cases b <;> cases l <;> first | (cases q; done) | rfl
      simp [h, h1, Nd.pv, len_labs, mem_labs, q, this]
    · simp [h, h1, Nd.pv, len_labs, mem_labs, q, ix_labs b l k q]
end
end Q74
end
section
set_option Elab.async false
set_option linter.all false
set_option maxRecDepth 100000
set_option maxHeartbeats 1600000
namespace Q74
open PySem Pz
section
variable {M N : Mach} {S T : Store} {m n : Nat} {st : DSt}
theorem head_drop {ns : List Nat} {j : Nat} (h : j < ns.length) : ns[j]? = some ((ns.drop j).headD 0) := by
  rw [List.getElem?_eq_getElem h, List.drop_eq_getElem_cons h]; rfl
theorem idx_run {ns : List Nat} {j : Nat} (h : j < ns.length) : index S (.tup (ns.map nI)) (.int (j : Nat)) = some (nI ((ns.drop j).headD 0)) := by
  refine index_nat ?_
  rw [List.getElem?_map, head_drop h]; rfl
theorem idx_nd {ds : List Nd} {k : Nat} (h : k < ds.length) : index S (.tup (ds.map Nd.pv)) (.int (k : Nat)) = some (nd ds k).pv := by
  refine index_nat ?_
  rw [List.getElem?_map, List.getElem?_eq_getElem h]
  unfold nd
  rw [List.getD_eq_getElem?_getD, List.getElem?_eq_getElem h]; rfl
def bgs (ds : List Nd) (k : Nat) : List PV := (List.range k).map fun j => .int (bg ds j : Nat)
theorem bgs_succ (ds : List Nd) (k : Nat) : bgs ds (k + 1) = bgs ds k ++ [.int (bg ds k : Nat)] := by
  unfold bgs
  rw [List.range_succ, List.map_append]; rfl
theorem len_bgs (ds : List Nd) (k : Nat) : (bgs ds k).length = k := by unfold bgs; rw [List.length_map, List.length_range]
theorem idx_bg {ds : List Nd} {c j : Nat} (hc : S[c]? = some (.lst (bgs ds ds.length))) (h : j < ds.length) : index S (.cell c) (.int (j : Nat)) = some (.int (bg ds j : Nat)) := by
  refine index_natC hc ?_
  unfold bgs
  rw [List.getElem?_map, List.getElem?_range h]; rfl
theorem cut_in {ns : List Nat} {g z : Nat} : cut (ns.map nI) (some (((g : Nat) : Int) + 1)) (some (((g : Nat) : Int) + 1 + ((z : Nat) : Int))) = ((ns.drop (g + 1)).take z).map nI := by
  have e := cut_mid (xs := ns.map nI) (g + 1) (g + 1 + z)
  have e1 : ((g + 1 : Nat) : Int) = ((g : Nat) : Int) + 1 := by omega
  have e2 : ((g + 1 + z : Nat) : Int) = ((g : Nat) : Int) + 1 + ((z : Nat) : Int) := by omega
  have e3 : g + 1 + z - (g + 1) = z := by omega
  rw [e1, e2, e3] at e
  rw [e, ← List.map_drop, ← List.map_take]
theorem innerE {c : Cfg} {ρ : Pz.Env} {h : Hg} {inn : List Nat} (h9 : ρ[9]? = some (some (.tup h.pv))) (h11 : ρ[11]? = some (some (.tup (inn.map nI)))) (hl : inn.length = h.size) : (E.ite (.var 9) (.idx (.var 11) (.con (.int 0))) (.con (.int 0))).den c ρ S = .ok (nI (inn.headD 0)) S := by
  cases inn with
  | nil =>
    cases h with
    | nil => simp [h9, h11, Hg.pv]; rfl
    | t x r => simp [Hg.size] at hl; omega
    | e l k r => simp [Hg.size] at hl; omega
  | cons x xs =>
    cases h with
    | nil => simp [Hg.size] at hl
    | t y r => simp [h9, h11, Hg.pv]
    | e l k r => simp [h9, h11, Hg.pv]
theorem restE {c : Cfg} {ρ : Pz.Env} {ds : List Nd} {ns : List Nat} {k cl : Nat} (hc : S[cl]? = some (.lst (bgs ds ds.length))) (hn : ns.length = sizeL ds) (hk : k < ds.length) (h2 : ρ[2]? = some (some (.tup (ds.map Nd.pv)))) (h3 : ρ[3]? = some (some (.tup (ns.map nI)))) (h5 : ρ[5]? = some (some (.cell cl))) (h7 : ρ[7]? = some (some (.int (k : Nat)))) :
    (E.ite (.cmp .lt (.bin .add (.var 7) (.con (.int 1))) (.bi .len (.cons (.var 2) .nil))) (.idx (.var 3) (.idx (.var 5) (.bin .add (.var 7) (.con (.int 1))))) (.con (.int 0))).den c ρ S = .ok (.int ((ns.drop (bg ds (k + 1))).headD 0 : Nat)) S := by
  have e1 : ((k : Nat) : Int) + 1 = ((k + 1 : Nat) : Int) := by omega
  by_cases q : k + 1 < ds.length
  · have b1 := bg_le q
    have b2 := size_pos (nd ds (k + 1))
    have i1 := idx_bg (c := cl) hc q
    have i2 := idx_run (S := S) (ns := ns) (j := bg ds (k + 1)) (by omega)
    have q2 : ((k : Nat) : Int) + 1 < ((ds.length : Nat) : Int) := by omega
    rw [← e1] at i1
    simp [h2, h3, h5, h7, q2, i1, i2]
    rfl
  · have q2 : ¬ ((k : Nat) : Int) + 1 < ((ds.length : Nat) : Int) := by omega
    have e2 : bg ds (k + 1) = sizeL ds := by
      have : k + 1 = ds.length := by omega
      rw [this, bg_len]
    rw [e2, List.drop_of_length_le (by omega)]
    simp [h2, h3, h5, h7, q2]
theorem ltr_in (hM : M.Ok) {b : Bool} (hl : M.letters = ln b + 2) (d : Nd) : ltr b d < M.rows.length := by
  have h1 := ltr_lt b d
  rw [hM.nr]
  split <;> omega
theorem okD_at {b : Bool} {ds : List Nd} {ns : List Nat} {k : Nat} (hk : k < ds.length) : okD M b (nd ds k) (ns.drop (bg ds k)) = ((nd ds k).kids.ok M b ((ns.drop (bg ds k + 1)).take (nd ds k).kids.size) && ((ns.drop (bg ds k)).headD 0 == M.moved (ltr b (nd ds k)) (((ns.drop (bg ds k + 1)).take (nd ds k).kids.size).headD 0) ((ns.drop (bg ds (k + 1))).headD 0))) := by
  unfold okD okN
  rw [List.drop_drop, List.drop_drop, bg_succ hk]
theorem due_body (hM : M.Ok) {b : Bool} (hl : M.letters = ln b + 2) {ds : List Nd} {ns : List Nat} (hn : ns.length = sizeL ds) (hlt : ∀ x ∈ ns, x < M.many) {k cl : Nat} (hk : k < ds.length) (hc : S[cl]? = some (.lst (bgs ds ds.length)))
    (ih : ((cfg prog m).call "_law_run_due" [M.pv, .tup (labs b), .tup (nd ds k).kids.pv, .tup (((ns.drop (bg ds k + 1)).take (nd ds k).kids.size).map nI)] S).fin S = .ok (.bl ((nd ds k).kids.ok M b ((ns.drop (bg ds k + 1)).take (nd ds k).kids.size))) S) (hm : (nd ds k).kids.size + 1 ≤ m) {a4 o6 o8 o9 o10 o11 o12 : Option PV} :
    ∃ ρ' : Pz.Env, (∃ o6 o8 o9 o10 o11 o12 : Option PV, ρ' = [some M.pv, some (.tup (labs b)), some (.tup (ds.map Nd.pv)), some (.tup (ns.map nI)), a4, some (.cell cl), o6, some (nI k), o8, o9, o10, o11, o12]) ∧ l__law_run_due_2.den (cfg prog m) [some M.pv, some (.tup (labs b)), some (.tup (ds.map Nd.pv)), some (.tup (ns.map nI)), a4, some (.cell cl), o6, some (nI k), o8, o9, o10, o11, o12] S = if okD M b (nd ds k) (ns.drop (bg ds k)) = true then .nx ρ' S else .rt (.bl false) ρ' S := by
  obtain ⟨d, ed⟩ : ∃ d, d = nd ds k := ⟨_, rfl⟩
  obtain ⟨g, eg⟩ : ∃ g, g = bg ds k := ⟨_, rfl⟩
  obtain ⟨inn, ei⟩ : ∃ inn, inn = (ns.drop (g + 1)).take d.kids.size := ⟨_, rfl⟩
  obtain ⟨rst, er⟩ : ∃ x, x = (ns.drop (bg ds (k + 1))).headD 0 := ⟨_, rfl⟩
  rw [okD_at hk, ← ed, ← eg, ← ei, ← er]
  rw [← ed, ← eg, ← ei] at ih
  rw [← ed] at hm
  have b1 := bg_le hk
  rw [← ed, ← eg] at b1
  have b3 : d.size = 1 + d.kids.size := rfl
  have li : inn.length = d.kids.size := by rw [ei, List.length_take, List.length_drop]; omega
  refine ⟨[some M.pv, some (.tup (labs b)), some (.tup (ds.map Nd.pv)), some (.tup (ns.map nI)), a4, some (.cell cl), some d.pv, some (nI k), some (.int (g : Nat)), some (.tup d.kids.pv), some (.int (ltr b d : Nat)), some (.tup (inn.map nI)), some (.int (rst : Nat))], ⟨_, _, _, _, _, _, rfl⟩, ?_⟩
  have f1 : index S (.tup (ds.map Nd.pv)) (nI k) = some d.pv := by rw [ed]; exact idx_nd hk
  have f2 : index S (.cell cl) (nI k) = some (.int (g : Nat)) := by rw [eg]; exact idx_bg hc hk
  have f3 : cut (ns.map nI) (some (((g : Nat) : Int) + 1)) (some (((g : Nat) : Int) + 1 + ((d.kids.size : Nat) : Int))) = inn.map nI := by rw [ei]; exact cut_in
  have f4 : ((cfg prog m).call "_law_size" [.tup d.kids.pv] S).fin S = .ok (.int (d.kids.size : Nat)) S := by
    have := c__law_size d.kids.size d.kids.nds (by rw [← size_nds]; exact Nat.le_refl _) m S hm
    rw [← pv_nds, ← size_nds] at this
    exact this
  have f5 : index S (.tup (ns.map nI)) (.int (g : Nat)) = some (nI ((ns.drop g).headD 0)) := idx_run (by omega)
  have f6 : ∀ S, ((cfg prog m).call "_law_moved" [M.pv, .int (ltr b d : Nat), nI (inn.headD 0), .int (rst : Nat)] S).fin S = .ok (nI (M.moved (ltr b d) (inn.headD 0) rst)) S := fun S => c__law_moved hM (show 1 ≤ m by omega) (ltr_in hM hl d) (head_lt hM.m1 fun x hx => by
      rw [ei] at hx
      exact hlt x (List.mem_of_mem_drop (List.mem_of_mem_take hx))) (by rw [er]; exact head_lt hM.m1 fun x hx => hlt x (List.mem_of_mem_drop hx))
  have f7 : ∀ a b : Nat, cmpop S .ne (nI a) (nI b) = some (.bl (!(a == b))) := fun a b => by
    show cmpop S .ne (.int (a : Nat)) (.int (b : Nat)) = _
    rw [ne_int]
    congr 2
    rw [Bool.eq_iff_iff]
    simp
    omega
  simp only [l__law_run_due_2]
  rw [s_cons', zs_par]
  simp only [es_cons, es_nil, e_var, e_idx, List.getElem?_cons_zero, List.getElem?_cons_succ, vr_some, R.bind_ok, k2_eq, idxK_eq, f1, f2, ofO_some, esK_eq, esC_eq, parR_ok, setAll_cons, setAll_nil, thn_nx, List.set_cons_succ, List.set_cons_zero]
  rw [s_cons', zs_asg, kidsE (d := d) rfl, asgR_ok, g_nm, asgG_ok, thn_nx]
  simp only [List.set_cons_succ, List.set_cons_zero]
  rw [s_cons', zs_asg, ltrE (d := d) (b := b) rfl rfl, asgR_ok, g_nm, asgG_ok, thn_nx]
  simp only [List.set_cons_succ, List.set_cons_zero]
  rw [s_cons', zs_asg]
  simp only [e_slc, e_var, List.getElem?_cons_zero, List.getElem?_cons_succ, vr_some, R.bind_ok, slcK_eq, eo_some, e_bin, k2_eq, e_con, binK_eq, bo_add, ofO_some, slcK2_eq, e_call, es_cons, es_nil, esK_eq, esC_eq, callK_eq, List.append_nil, f4, intV_int, slcK3_eq, slc_tup, f3, asgR_ok, g_nm, asgG_ok, thn_nx, List.set_cons_succ, List.set_cons_zero]
  rw [s_cons', zs_asg, restE (ds := ds) (ns := ns) (k := k) (cl := cl) hc hn hk rfl rfl rfl rfl, ← er, asgR_ok, g_nm, asgG_ok, thn_nx]
  simp only [List.set_cons_succ, List.set_cons_zero]
  rw [s_cons', zs_ite]
  have f8 : ∀ S : Store, (E.ite (.var 9) (.idx (.var 11) (.con (.int 0))) (.con (.int 0))).den (cfg prog m) [some M.pv, some (.tup (labs b)), some (.tup (ds.map Nd.pv)), some (.tup (ns.map nI)), a4, some (.cell cl), some d.pv, some (nI k), some (.int (g : Nat)), some (.tup d.kids.pv), some (.int (ltr b d : Nat)), some (.tup (inn.map nI)), some (.int (rst : Nat))] S = .ok (nI (inn.headD 0)) S := fun S => innerE rfl rfl li
  simp only [e_or, e_cmp, e_not, e_call, es_cons, es_nil, f8, e_var, e_idx, List.getElem?_cons_zero, List.getElem?_cons_succ, vr_some, R.bind_ok, k2_eq, idxK_eq, f5, ofO_some, esK_eq, esC_eq, callK_eq, List.append_nil, f6, cmpK_eq, f7, orK_eq, tr_bl, orT_some, ih, notK_eq, Option.map_some]
  cases q1 : (ns.drop g).headD 0 == M.moved (ltr b d) (inn.headD 0) rst <;> cases q2 : d.kids.ok M b inn <;> simp [q1, q2]
end
end Q74
end
section
set_option Elab.async false
set_option linter.all false
set_option maxRecDepth 100000
set_option maxHeartbeats 1600000
namespace Q74
open PySem Pz
section
variable {M N : Mach} {S T : Store} {m n : Nat} {st : DSt}
theorem nd_at {ds : List Nd} {i : Nat} {d : Nd} (h : ds[i]? = some d) : i < ds.length ∧ d = nd ds i := by
  have h1 := (List.getElem?_eq_some_iff.mp h)
  obtain ⟨h1, h2⟩ := h1
  refine ⟨h1, ?_⟩
  unfold nd
  rw [List.getD_eq_getElem?_getD, h]; rfl
theorem run_firsts {ds : List Nd} {R : Option PV} {a b : PV} (hs : sizeL ds ≤ 1000) (hm : sizeL ds + 1 ≤ m) {o7 o8 o9 o10 o11 o12 : Option PV} : ∃ o6 : Option PV, walk (cfg prog m) (.nm 6) l__law_run_due_1 (ds.map Nd.pv) [some a, some b, some (.tup (ds.map Nd.pv)), R, some (.int 0), some (.cell S.length), none, o7, o8, o9, o10, o11, o12] (S ++ [.lst []]) = .nx [some a, some b, some (.tup (ds.map Nd.pv)), R, some (.int (sizeL ds : Nat)), some (.cell S.length), o6, o7, o8, o9, o10, o11, o12] (S ++ [.lst (bgs ds ds.length)]) := by
  obtain ⟨ρ', T, e1, o6, eT, eρ⟩ := walk_iT (c := cfg prog m) (j := 6) (b := l__law_run_due_1) (l := ds) (e := Nd.pv) (ρ := [some a, some b, some (.tup (ds.map Nd.pv)), R, some (.int 0), some (.cell S.length), none, o7, o8, o9, o10, o11, o12]) (S := S ++ [.lst []])
    (fun i ρ T => ∃ o6, T = S ++ [.lst (bgs ds i)] ∧ ρ = [some a, some b, some (.tup (ds.map Nd.pv)), R, some (.int (bg ds i : Nat)), some (.cell S.length), o6, o7, o8, o9, o10, o11, o12])
    ⟨none, rfl, rfl⟩ (fun i d ρ T hx ⟨o6, eT, eρ⟩ => by
      subst eT eρ
      obtain ⟨hi, ed⟩ := nd_at hx
      have b1 := bg_le hi
      rw [← ed] at b1
      have c1 := celAt_cell (S := S ++ [.lst (bgs ds i)]) (n := S.length) (xs := bgs ds i) getApp
      have hl := len_le ds
      have lx : (bgs ds i).length < lim := by rw [len_bgs]; show _ < 16777216; omega
      have e2 : ∀ S, ((cfg prog m).call "_law_size" [.tup [d.pv]] S).fin S = .ok (.int (d.size : Nat)) S := fun S => by
        have := c__law_size d.size [d] (by show d.size + 0 ≤ _; omega) m S (by omega)
        have e3 : sizeL [d] = d.size := rfl
        rw [e3] at this
        exact this
      have e4 : ((bg ds (i + 1) : Nat) : Int) = ((bg ds i : Nat) : Int) + ((d.size : Nat) : Int) := by rw [bg_succ hi, ← ed]; omega
      refine ⟨[some a, some b, some (.tup (ds.map Nd.pv)), R, some (.int (bg ds (i + 1) : Nat)), some (.cell S.length), some d.pv, o7, o8, o9, o10, o11, o12], S ++ [.lst (bgs ds (i + 1))], .inl ?_, some d.pv, rfl, rfl⟩
      simp only [l__law_run_due_1]
      simp [c1, lx, setApp, e2, e4, bgs_succ])
  subst eT eρ
  rw [bg_len] at e1
  exact ⟨o6, e1⟩
theorem c__law_run_due (hM : M.Ok) {b : Bool} (hl : M.letters = ln b + 2) : ∀ (N : Nat) (ds : List Nd), sizeL ds ≤ N → ∀ (ns : List Nat) m S, ns.length = sizeL ds → (∀ x ∈ ns, x < M.many) → N ≤ 1000 → N + 3 ≤ m → ((cfg prog m).call "_law_run_due" [M.pv, .tup (labs b), .tup (ds.map Nd.pv), .tup (ns.map nI)] S).fin S = .ok (.bl (okL M b ds ns)) S := by
  intro N
  induction N using Nat.strongRecOn with
  | _ N ih =>
    intro ds h ns m S hn hlt hN hm
    obtain ⟨m, rfl, hk⟩ := up hm
    rw [call_at lk__law_run_due rfl, run_at rfl]
    obtain ⟨o6, w1⟩ := run_firsts (S := S) (m := m) (ds := ds) (R := some (.tup (ns.map nI))) (a := M.pv) (b := .tup (labs b)) (by omega) (by omega) (o7 := none) (o8 := none) (o9 := none) (o10 := none) (o11 := none) (o12 := none)
    have w2 := walk_s (c := cfg prog m) (S := S ++ [.lst (bgs ds ds.length)]) (i := 7) (b := l__law_run_due_2) (l := List.range ds.length) (e := nI) (ρ := [some M.pv, some (.tup (labs b)), some (.tup (ds.map Nd.pv)), some (.tup (ns.map nI)), some (.int (sizeL ds : Nat)), some (.cell S.length), o6, none, none, none, none, none, none])
      (fun ρ => ∃ o6 o7 o8 o9 o10 o11 o12 : Option PV, ρ = [some M.pv, some (.tup (labs b)), some (.tup (ds.map Nd.pv)), some (.tup (ns.map nI)), some (.int (sizeL ds : Nat)), some (.cell S.length), o6, o7, o8, o9, o10, o11, o12])
      (fun sr => ∃ ρ, sr = .rt (.bl false) ρ (S ++ [.lst (bgs ds ds.length)])) (fun sr ⟨ρ, h⟩ => .inr ⟨_, _, _, h⟩) (fun k => !okD M b (nd ds k) (ns.drop (bg ds k))) ⟨_, _, _, _, _, _, _, rfl⟩
      (fun k hk' ρ ⟨o6, o7, o8, o9, o10, o11, o12, e⟩ => by
        subst e
        have hk' := List.mem_range.mp hk'
        have b1 := bg_le hk'
        have b3 : (nd ds k).size = 1 + (nd ds k).kids.size := rfl
        have ihk := ih (nd ds k).kids.size (by omega) (nd ds k).kids.nds (by rw [← size_nds]; exact Nat.le_refl _) ((ns.drop (bg ds k + 1)).take (nd ds k).kids.size) m (S ++ [.lst (bgs ds ds.length)]) (by rw [← size_nds, List.length_take, List.length_drop]; omega) (fun x hx => hlt x (List.mem_of_mem_drop (List.mem_of_mem_take hx))) (by omega) (by omega)
        rw [← pv_nds, ← ok_nds] at ihk
        obtain ⟨ρ', ⟨p6, p8, p9, p10, p11, p12, hρ'⟩, e2⟩ := due_body hM hl hn hlt hk' (cl := S.length) getApp ihk (by omega) (a4 := some (.int (sizeL ds : Nat))) (o6 := o6) (o8 := o8) (o9 := o9) (o10 := o10) (o11 := o11) (o12 := o12)
        have e3 : ([some M.pv, some (.tup (labs b)), some (.tup (ds.map Nd.pv)), some (.tup (ns.map nI)), some (.int (sizeL ds : Nat)), some (.cell S.length), o6, o7, o8, o9, o10, o11, o12] : Pz.Env).set 7 (some (nI k)) = [some M.pv, some (.tup (labs b)), some (.tup (ds.map Nd.pv)), some (.tup (ns.map nI)), some (.int (sizeL ds : Nat)), some (.cell S.length), o6, some (nI k), o8, o9, o10, o11, o12] := rfl
        rw [e3, e2]
        cases q : okD M b (nd ds k) (ns.drop (bg ds k))
        · exact ⟨_, rfl⟩
        · exact ⟨ρ', .inl rfl, p6, some (nI k), p8, p9, p10, p11, p12, hρ'⟩)
    have e4 : ((List.range ds.length).any fun k => !okD M b (nd ds k) (ns.drop (bg ds k))) = !okL M b ds ns := by rw [okL_all, List.not_all_eq_any_not]
    rw [e4] at w2
    have hl2 := len_le ds
    have r1 : ∀ S, rg1 (.int (ds.length : Nat)) S = .ok (.fix ((List.range ds.length).map nI)) S := fun S => rg1_n (S := S) (k := ds.length) (by omega)
    have fo : ∀ x, (R.ok (.bl x) (S ++ [.lst (bgs ds ds.length)])).fin S = .ok (.bl x) S := fun x => fin_ok (Nat.zero_le _)
    simp only [d__law_run_due]
    simp [w1, r1]
    cases q : okL M b ds ns
    · rw [q] at w2
      obtain ⟨ρ, w2⟩ := w2
      rw [w2]
      simp [fo]
    · rw [q] at w2
      obtain ⟨ρ, w2, _⟩ := w2
      rw [w2]
      simp [fo]
end
end Q74
end
section
set_option Elab.async false
set_option linter.all false
set_option maxRecDepth 100000
set_option maxHeartbeats 1600000
namespace Q74
open PySem Pz
section
variable {M N : Mach} {S T : Store} {m n : Nat} {st : DSt}
theorem rangeP_down (n : Nat) : rangeP (((n : Nat) : Int) - 1) (-1) n = (List.range n).map fun j => nI (n - 1 - j) := by
  unfold rangeP
  refine List.map_congr_left fun i hi => ?_
  have := List.mem_range.mp hi
  show PV.int _ = PV.int _
  congr 1
  omega
theorem any_down (n : Nat) (f : Nat → Bool) : ((List.range n).any fun j => f (n - 1 - j)) = (List.range n).any f := by
  rw [Bool.eq_iff_iff, List.any_eq_true, List.any_eq_true]
  constructor
  · rintro ⟨j, h1, h2⟩
    have := List.mem_range.mp h1
    exact ⟨n - 1 - j, List.mem_range.mpr (by omega), h2⟩
  · rintro ⟨j, h1, h2⟩
    have := List.mem_range.mp h1
    exact ⟨n - 1 - j, List.mem_range.mpr (by omega), by have e : n - 1 - (n - 1 - j) = j := by omega
                                                        rw [e]; exact h2⟩
theorem wrong_firsts {ds : List Nd} {a b R : Option PV} (hs : sizeL ds ≤ 1000) (hm : sizeL ds + 1 ≤ m) {o7 o8 o9 o10 o11 o12 : Option PV} : ∃ o6 : Option PV, walk (cfg prog m) (.nm 6) l_wrong_at_1 (ds.map Nd.pv) [a, b, some (.tup (ds.map Nd.pv)), R, some (.cell S.length), some (.int 0), none, o7, o8, o9, o10, o11, o12] (S ++ [.lst []]) = .nx [a, b, some (.tup (ds.map Nd.pv)), R, some (.cell S.length), some (.int (sizeL ds : Nat)), o6, o7, o8, o9, o10, o11, o12] (S ++ [.lst (bgs ds ds.length)]) := by
  obtain ⟨ρ', T, e1, o6, eT, eρ⟩ := walk_iT (c := cfg prog m) (j := 6) (b := l_wrong_at_1) (l := ds) (e := Nd.pv) (ρ := [a, b, some (.tup (ds.map Nd.pv)), R, some (.cell S.length), some (.int 0), none, o7, o8, o9, o10, o11, o12]) (S := S ++ [.lst []])
    (fun i ρ T => ∃ o6, T = S ++ [.lst (bgs ds i)] ∧ ρ = [a, b, some (.tup (ds.map Nd.pv)), R, some (.cell S.length), some (.int (bg ds i : Nat)), o6, o7, o8, o9, o10, o11, o12])
    ⟨none, rfl, rfl⟩ (fun i d ρ T hx ⟨o6, eT, eρ⟩ => by
      subst eT eρ
      obtain ⟨hi, ed⟩ := nd_at hx
      have b1 := bg_le hi
      rw [← ed] at b1
      have b3 : d.size = 1 + d.kids.size := rfl
      have c1 := celAt_cell (S := S ++ [.lst (bgs ds i)]) (n := S.length) (xs := bgs ds i) getApp
      have hl := len_le ds
      have lx : (bgs ds i).length < lim := by rw [len_bgs]; show _ < 16777216; omega
      have e1 : ∀ S, ((cfg prog m).call "kids_of" [d.pv] S).fin S = .ok (.tup d.kids.pv) S := fun S => c_kids_of (by omega)
      have e2 : ∀ S, ((cfg prog m).call "size_in" [.tup d.kids.pv] S).fin S = .ok (.int (d.kids.size : Nat)) S := fun S => by
        have := c_size_in d.kids.size d.kids.nds (by rw [← size_nds]; exact Nat.le_refl _) m S (by omega)
        rw [← pv_nds, ← size_nds] at this
        exact this
      have e4 : ((bg ds (i + 1) : Nat) : Int) = ((bg ds i : Nat) : Int) + (1 + ((d.kids.size : Nat) : Int)) := by rw [bg_succ hi, ← ed]; omega
      refine ⟨[a, b, some (.tup (ds.map Nd.pv)), R, some (.cell S.length), some (.int (bg ds (i + 1) : Nat)), some d.pv, o7, o8, o9, o10, o11, o12], S ++ [.lst (bgs ds (i + 1))], .inl ?_, some d.pv, rfl, rfl⟩
      simp only [l_wrong_at_1]
      simp [c1, lx, setApp, e1, e2, e4, bgs_succ])
  subst eT eρ
  rw [bg_len] at e1
  exact ⟨o6, e1⟩
theorem wrong_body (hM : M.Ok) {b : Bool} (hl : M.letters = ln b + 2) {ds : List Nd} {ns : List Nat} (hn : ns.length = sizeL ds) (hlt : ∀ x ∈ ns, x < M.many) {k cl : Nat} (hk : k < ds.length) (hc : S[cl]? = some (.lst (bgs ds ds.length))) {x : Nat} (hx : x < M.many) (hx2 : (nd ds k).kids.ok M b ((ns.drop (bg ds k + 1)).take (nd ds k).kids.size) = true → x = ((ns.drop (bg ds k + 1)).take (nd ds k).kids.size).headD 0)
    (ih : ((cfg prog m).call "wrong_at" [M.pv, .tup (labs b), .tup (nd ds k).kids.pv, .tup (((ns.drop (bg ds k + 1)).take (nd ds k).kids.size).map nI)] S).fin S = .ok (.tup [nI x, .bl (!(nd ds k).kids.ok M b ((ns.drop (bg ds k + 1)).take (nd ds k).kids.size))]) S) (hm : (nd ds k).kids.size + 1 ≤ m) {a5 o6 o9 o10 o11 o12 : Option PV} :
    ∃ ρ' : Pz.Env, (∃ o6 o9 o10 o11 o12 : Option PV, ρ' = [some M.pv, some (.tup (labs b)), some (.tup (ds.map Nd.pv)), some (.tup (ns.map nI)), some (.cell cl), a5, o6, some (nI ((ns.drop (bg ds k)).headD 0)), some (nI k), o9, o10, o11, o12]) ∧ ∃ ρ'' : Pz.Env, l_wrong_at_2.den (cfg prog m) [some M.pv, some (.tup (labs b)), some (.tup (ds.map Nd.pv)), some (.tup (ns.map nI)), some (.cell cl), a5, o6, some (nI ((ns.drop (bg ds (k + 1))).headD 0)), some (nI k), o9, o10, o11, o12] S = if okD M b (nd ds k) (ns.drop (bg ds k)) = true then .nx ρ' S else .rt (.tup [nI ((ns.drop (bg ds (k + 1))).headD 0), .bl true]) ρ'' S := by
  obtain ⟨d, ed⟩ : ∃ d, d = nd ds k := ⟨_, rfl⟩
  obtain ⟨g, eg⟩ : ∃ g, g = bg ds k := ⟨_, rfl⟩
  obtain ⟨inn, ei⟩ : ∃ inn, inn = (ns.drop (g + 1)).take d.kids.size := ⟨_, rfl⟩
  obtain ⟨rst, er⟩ : ∃ x, x = (ns.drop (bg ds (k + 1))).headD 0 := ⟨_, rfl⟩
  rw [okD_at hk, ← ed, ← eg, ← ei, ← er]
  rw [← ed, ← eg, ← ei] at ih
  rw [← ed, ← eg, ← ei] at hx2
  rw [← ed] at hm
  have b1 := bg_le hk
  rw [← ed, ← eg] at b1
  have b3 : d.size = 1 + d.kids.size := rfl
  refine ⟨[some M.pv, some (.tup (labs b)), some (.tup (ds.map Nd.pv)), some (.tup (ns.map nI)), some (.cell cl), a5, some d.pv, some (nI ((ns.drop g).headD 0)), some (nI k), some (.int (g : Nat)), some (.int (d.kids.size : Nat)), some (nI x), some (.bl (!d.kids.ok M b inn))], ⟨_, _, _, _, _, rfl⟩, [some M.pv, some (.tup (labs b)), some (.tup (ds.map Nd.pv)), some (.tup (ns.map nI)), some (.cell cl), a5, some d.pv, some (nI rst), some (nI k), some (.int (g : Nat)), some (.int (d.kids.size : Nat)), some (nI x), some (.bl (!d.kids.ok M b inn))], ?_⟩
  have f1 : index S (.tup (ds.map Nd.pv)) (nI k) = some d.pv := by rw [ed]; exact idx_nd hk
  have f2 : index S (.cell cl) (nI k) = some (.int (g : Nat)) := by rw [eg]; exact idx_bg hc hk
  have f3 : cut (ns.map nI) (some (((g : Nat) : Int) + 1)) (some (((g : Nat) : Int) + 1 + ((d.kids.size : Nat) : Int))) = inn.map nI := by rw [ei]; exact cut_in
  have f0 : ∀ S, ((cfg prog m).call "kids_of" [d.pv] S).fin S = .ok (.tup d.kids.pv) S := fun S => c_kids_of (by omega)
  have f4 : ((cfg prog m).call "size_in" [.tup d.kids.pv] S).fin S = .ok (.int (d.kids.size : Nat)) S := by
    have := c_size_in d.kids.size d.kids.nds (by rw [← size_nds]; exact Nat.le_refl _) m S hm
    rw [← pv_nds, ← size_nds] at this
    exact this
  have f5 : index S (.tup (ns.map nI)) (.int (g : Nat)) = some (nI ((ns.drop g).headD 0)) := idx_run (by omega)
  have fl : ∀ S, ((cfg prog m).call "letter_in" [.tup (labs b), d.pv] S).fin S = .ok (nI (ltr b d)) S := fun S => c_letter_in b d (by omega)
  have f6 : ∀ S, ((cfg prog m).call "moved" [M.pv, nI (ltr b d), nI x, nI rst] S).fin S = .ok (nI (M.moved (ltr b d) x rst)) S := fun S => by
    have q := c_moved (S := S) hM (m := m) (l := ltr b d) (k := x) (r := rst) (by omega) (ltr_in hM hl d) hx (by rw [er]; exact head_lt hM.m1 fun x hx => hlt x (List.mem_of_mem_drop hx))
    have q2 : ((cfg prog m).call "moved" [M.pv, nI (ltr b d), nI x, nI rst] S).fin S = .ok (nI (M.moved (ltr b d) x rst)) S := q
    exact q2
  have f7 : ∀ a b : Nat, cmpop S .ne (nI a) (nI b) = some (.bl (!(a == b))) := fun a b => by
    show cmpop S .ne (.int (a : Nat)) (.int (b : Nat)) = _
    rw [ne_int]
    congr 2
    rw [Bool.eq_iff_iff]
    simp
    omega
  simp only [l_wrong_at_2]
  rw [s_cons', zs_par]
  simp only [es_cons, es_nil, e_var, e_idx, List.getElem?_cons_zero, List.getElem?_cons_succ, vr_some, R.bind_ok, k2_eq, idxK_eq, f1, f2, ofO_some, esK_eq, esC_eq, parR_ok, setAll_cons, setAll_nil, thn_nx, List.set_cons_succ, List.set_cons_zero]
  obtain ⟨hd, ehd⟩ : ∃ x, x = (ns.drop g).headD 0 := ⟨_, rfl⟩
  rw [← ehd] at f5 ⊢
  cases q2 : d.kids.ok M b inn
  · rw [q2] at ih
    simp [f0, f4, f3, ih]
  · rw [q2] at ih
    have ex := hx2 q2
    rw [← ex]
    cases q1 : hd == M.moved (ltr b d) x rst
    · have q3 : ¬ (hd = M.moved (ltr b d) x rst) := by simpa using q1
      simp [f0, f4, f3, ih, f5, fl, f6, f7, q1, q3]
    · have q3 : hd = M.moved (ltr b d) x rst := by simpa using q1
      simp [f0, f4, f3, ih, f5, fl, f6, f7, q1, q3]
theorem c_wrong_at (hM : M.Ok) {b : Bool} (hl : M.letters = ln b + 2) : ∀ (N : Nat) (ds : List Nd), sizeL ds ≤ N → ∀ (ns : List Nat) m S, ns.length = sizeL ds → (∀ x ∈ ns, x < M.many) → N ≤ 1000 → N + 3 ≤ m → ∃ x, x < M.many ∧ (okL M b ds ns = true → x = ns.headD 0) ∧ ((cfg prog m).call "wrong_at" [M.pv, .tup (labs b), .tup (ds.map Nd.pv), .tup (ns.map nI)] S).fin S = .ok (.tup [nI x, .bl (!okL M b ds ns)]) S := by
  intro N
  induction N using Nat.strongRecOn with
  | _ N ih =>
    intro ds h ns m S hn hlt hN hm
    obtain ⟨m, rfl, hk⟩ := up hm
    rw [call_at lk_wrong_at rfl, run_at rfl]
    obtain ⟨o6, w1⟩ := wrong_firsts (S := S) (m := m) (ds := ds) (R := some (.tup (ns.map nI))) (a := some M.pv) (b := some (.tup (labs b))) (by omega) (by omega) (o7 := none) (o8 := none) (o9 := none) (o10 := none) (o11 := none) (o12 := none)
    have w2 := walk_iS (c := cfg prog m) (S := S ++ [.lst (bgs ds ds.length)]) (i := 8) (b := l_wrong_at_2) (l := List.range ds.length) (e := fun j => nI (ds.length - 1 - j)) (ρ := [some M.pv, some (.tup (labs b)), some (.tup (ds.map Nd.pv)), some (.tup (ns.map nI)), some (.cell S.length), some (.int (sizeL ds : Nat)), o6, some (.int 0), none, none, none, none, none])
      (fun j ρ => ∃ o6 o8 o9 o10 o11 o12 : Option PV, ρ = [some M.pv, some (.tup (labs b)), some (.tup (ds.map Nd.pv)), some (.tup (ns.map nI)), some (.cell S.length), some (.int (sizeL ds : Nat)), o6, some (nI ((ns.drop (bg ds (ds.length - j))).headD 0)), o8, o9, o10, o11, o12])
      (fun sr => ∃ x ρ, x < M.many ∧ sr = .rt (.tup [nI x, .bl true]) ρ (S ++ [.lst (bgs ds ds.length)])) (fun sr ⟨x, ρ, _, h⟩ => .inr ⟨_, _, _, h⟩) (fun j => !okD M b (nd ds (ds.length - 1 - j)) (ns.drop (bg ds (ds.length - 1 - j)))) ⟨o6, none, none, none, none, none, by
        rw [Nat.sub_zero, bg_len, List.drop_of_length_le (by omega)]; rfl⟩
      (fun j y hy ρ ⟨o6, o8, o9, o10, o11, o12, e⟩ => by
        subst e
        obtain ⟨h1, h2⟩ := List.getElem?_eq_some_iff.mp hy
        rw [List.length_range] at h1
        rw [List.getElem_range] at h2
        subst h2
        obtain ⟨k, ek⟩ : ∃ k, k = ds.length - 1 - j := ⟨_, rfl⟩
        have e1 : ds.length - j = k + 1 := by omega
        have e2 : ds.length - (j + 1) = k := by omega
        have hk' : k < ds.length := by omega
        rw [← ek, e1, e2]
        have b1 := bg_le hk'
        have b3 : (nd ds k).size = 1 + (nd ds k).kids.size := rfl
        obtain ⟨x, x1, x2, ihk⟩ := ih (nd ds k).kids.size (by omega) (nd ds k).kids.nds (by rw [← size_nds]; exact Nat.le_refl _) ((ns.drop (bg ds k + 1)).take (nd ds k).kids.size) m (S ++ [.lst (bgs ds ds.length)]) (by rw [← size_nds, List.length_take, List.length_drop]; omega) (fun x hx => hlt x (List.mem_of_mem_drop (List.mem_of_mem_take hx))) (by omega) (by omega)
        rw [← pv_nds, ← ok_nds] at ihk
        rw [← ok_nds] at x2
        obtain ⟨ρ', ⟨p6, p9, p10, p11, p12, hρ'⟩, ρ'', e3⟩ := wrong_body hM hl hn hlt hk' (cl := S.length) getApp x1 x2 ihk (by omega) (a5 := some (.int (sizeL ds : Nat))) (o6 := o6) (o9 := o9) (o10 := o10) (o11 := o11) (o12 := o12)
        have e4 : ([some M.pv, some (.tup (labs b)), some (.tup (ds.map Nd.pv)), some (.tup (ns.map nI)), some (.cell S.length), some (.int (sizeL ds : Nat)), o6, some (nI ((ns.drop (bg ds (k + 1))).headD 0)), o8, o9, o10, o11, o12] : Pz.Env).set 8 (some (nI k)) = [some M.pv, some (.tup (labs b)), some (.tup (ds.map Nd.pv)), some (.tup (ns.map nI)), some (.cell S.length), some (.int (sizeL ds : Nat)), o6, some (nI ((ns.drop (bg ds (k + 1))).headD 0)), some (nI k), o9, o10, o11, o12] := rfl
        rw [e4, e3]
        cases q : okD M b (nd ds k) (ns.drop (bg ds k))
        · exact ⟨_, _, head_lt hM.m1 fun x hx => hlt x (List.mem_of_mem_drop hx), rfl⟩
        · exact ⟨ρ', .inl rfl, p6, some (nI k), p9, p10, p11, p12, hρ'⟩)
    have e4 : ((List.range ds.length).any fun j => !okD M b (nd ds (ds.length - 1 - j)) (ns.drop (bg ds (ds.length - 1 - j)))) = !okL M b ds ns := by rw [any_down ds.length fun k => !okD M b (nd ds k) (ns.drop (bg ds k)), okL_all, List.not_all_eq_any_not]
    rw [e4] at w2
    have hl2 := len_le ds
    have r1 : ∀ S, rgD (.int (((ds.length : Nat) : Int) - 1)) (.int (-1)) S = .ok (.fix ((List.range ds.length).map fun j => nI (ds.length - 1 - j))) S := fun S => by
      rw [rgD_int (by omega) (by omega) (by omega) (by omega), ← rangeP_down]
      have : (((ds.length : Nat) : Int) - 1 - (-1)).toNat = ds.length := by omega
      rw [this]
    have fo : ∀ x y, (R.ok (.tup [nI x, .bl y]) (S ++ [.lst (bgs ds ds.length)])).fin S = .ok (.tup [nI x, .bl y]) S := fun x y => fin_ok (Nat.zero_le _)
    cases q : okL M b ds ns
    · rw [q] at w2
      obtain ⟨x, ρ, x1, w2⟩ := w2
      refine ⟨x, x1, fun e => absurd e (by decide), ?_⟩
      simp only [d_wrong_at]
      simp [w1, r1]
      rw [w2]
      simp [fo]
    · rw [q] at w2
      obtain ⟨ρ, w2, o6', o8, o9, o10, o11, o12, eρ⟩ := w2
      have b0 : bg ds 0 = 0 := rfl
      rw [List.length_range, Nat.sub_self, b0, List.drop_zero] at eρ
      refine ⟨ns.headD 0, head_lt hM.m1 hlt, fun _ => rfl, ?_⟩
      obtain ⟨hd, ehd⟩ : ∃ x, x = ns.headD 0 := ⟨_, rfl⟩
      rw [← ehd] at eρ ⊢
      simp only [d_wrong_at]
      simp [w1, r1]
      rw [w2]
      subst eρ
      simp
      exact fo hd false
end
end Q74
end
section
set_option Elab.async false
set_option linter.all false
set_option maxRecDepth 100000
set_option maxHeartbeats 1600000
namespace Q74
open PySem Pz
def l__law_runs_hold_t : Sts := (.cons (.asg (.nm 9) (.con .non)) (.cons (.ite (.or (.not (.inst (.var 7) .tuple)) (.or (.cmp .ne (.bi .len (.cons (.var 7) .nil)) (.call "_law_size" (.cons (.var 3) .nil) [])) (.ro (.comp (.var 10) (.nm 10) (.seq (.var 7)) (.some (.not (.call "_law_is_state" (.cons (.var 10) (.cons (.idx (.var 2) (.con (.int 2))) .nil)) []))) [10])))) (.cons (.asg (.nm 9) (.con (.str "paper form"))) .nil) (.cons (.ite (.not (.call "_law_run_due" (.cons (.var 2) (.cons (.var 1) (.cons (.var 3) (.cons (.var 7) .nil)))) [])) (.cons (.asg (.nm 9) (.con (.str "paper row"))) .nil) (.cons (.ite (.cmp .nmem (.ite (.var 7) (.idx (.var 7) (.con (.int 0))) (.con (.int 0))) (.idx (.var 2) (.con (.int 4)))) (.cons (.asg (.nm 9) (.con (.str "paper good"))) .nil) .nil) .nil)) .nil)) (.cons (.ite (.cmp .ne (.call "_law_heard" (.cons (.call "_law_asked" (.cons (.glo "accept_run" (.fn "accept_run")) (.cons (.ro (.disp (.cons (.var 2) (.cons (.var 1) (.cons (.var 3) (.cons (.var 7) .nil)))))) .nil)) []) .nil) []) (.var 9)) (.cons (.ret (.con (.bl false))) .nil) .nil) .nil)))
def formR (M : Mach) (ds : List Nd) (xs : List Nat) : Bool := decide (xs.length ≠ sizeL ds) || xs.any fun x => !decide (x < M.many)
def dueR (M : Mach) (b : Bool) (ds : List Nd) (xs : List Nat) : Option Str := if formR M ds xs = true then some ("form" : Str) else if okL M b ds xs = false then some ("row" : Str) else if xs.headD 0 ∈ M.good then none else some ("good" : Str)
theorem dueR_cases (M : Mach) (b : Bool) (ds : List Nd) (xs : List Nat) : dueR M b ds xs = none ∨ dueR M b ds xs = some ("form" : Str) ∨ dueR M b ds xs = some ("row" : Str) ∨ dueR M b ds xs = some ("good" : Str) := by
  unfold dueR
  split
  · exact .inr (.inl rfl)
  · split
    · exact .inr (.inr (.inl rfl))
    · split
      · exact .inl rfl
      · exact .inr (.inr (.inr rfl))
theorem formR_false {M : Mach} {ds : List Nd} {xs : List Nat} (h : formR M ds xs = false) : xs.length = sizeL ds ∧ ∀ x ∈ xs, x < M.many := by
  unfold formR at h
  rw [Bool.or_eq_false_iff] at h
  refine ⟨by simpa using h.1, ?_⟩
  have := h.2
  simpa using this
section
variable {M N : Mach} {S T : Store} {m n : Nat} {st : DSt}
theorem c_accept_run (hM : M.Ok) {b : Bool} (hl : M.letters = ln b + 2) {ds : List Nd} (hs : sizeL ds ≤ 20) (xs : List Nat) (hm : 30 ≤ m) : ((cfg prog m).call "accept_run" [M.pv, .tup (labs b), .tup (ds.map Nd.pv), .tup (xs.map nI)] S).fin S = said (dueR M b ds xs) S := by
  obtain ⟨m, rfl, hk⟩ := up hm
  rw [call_at lk_accept_run rfl, run_at rfl]
  have i2 : ∀ S, index S M.pv (.int 2) = some (.int (M.many : Nat)) := fun _ => index_2
  have i4 : ∀ S, index S M.pv (.int 4) = some (.tup (M.good.map nI)) := fun _ => index_4
  have e1 := c_check_for (S := S) (m := m) hM hl (by omega)
  have e2 := c_check_hedge (S := S) (m := m) hs (x := .str "hedge") (by omega)
  have e3 : ((cfg prog m).call "size_in" [.tup (ds.map Nd.pv)] S).fin S = .ok (.int (sizeL ds : Nat)) S := c_size_in (sizeL ds) ds (Nat.le_refl _) m S (by omega)
  obtain ⟨hd, ehd⟩ : ∃ x, x = xs.headD 0 := ⟨_, rfl⟩
  unfold dueR
  rw [← ehd]
  simp only [d_accept_run]
  simp [e1, e2, e3]
  by_cases q1 : xs.length = sizeL ds
  · have q1' : ((xs.length : Nat) : Int) = ((sizeL ds : Nat) : Int) := by omega
    simp [q1]
    rw [f_mapT xs nI (fun k => .bl (decide (k < M.many))) ?_ ?_]
    rotate_left
    · simp
    · intro k _
      simp [cmpStep, wipe, i2, c_is_number_n (show 2 ≤ m by omega)]
    cases q2 : (xs.map fun k => decide (k < M.many)).all id
    · have f : formR M ds xs = true := by
        unfold formR
        rw [Bool.or_eq_true]
        refine .inr ?_
        rw [List.all_map] at q2
        rw [← Bool.not_eq_false, ← List.not_all_eq_any_not]
        intro e
        rw [Bool.not_eq_false'] at e
        exact absurd (e.symm.trans q2) (by decide)
      simp [-List.all_map, q2, f, said]
    · have f0 : ∀ x ∈ xs, x < M.many := by
        rw [List.all_map] at q2
        simpa using q2
      have f : formR M ds xs = false := by
        unfold formR
        rw [Bool.or_eq_false_iff]
        exact ⟨by simpa using q1, any_nlt f0⟩
      obtain ⟨x, x1, x2, e4⟩ := c_wrong_at hM hl (sizeL ds) ds (Nat.le_refl _) xs m S q1 f0 (by omega) (by omega)
      cases q3 : okL M b ds xs
      · rw [q3] at e4
        simp [-List.all_map, q2, f, e4, said]
      · rw [q3] at e4
        have ex := x2 q3
        rw [← ehd] at ex
        subst ex
        by_cases q4 : x ∈ M.good <;> simp [-List.all_map, q2, f, e4, said, i4, nmem_n, q4]
  · have q1' : ¬ ((xs.length : Nat) : Int) = ((sizeL ds : Nat) : Int) := by omega
    have f : formR M ds xs = true := by
      unfold formR
      rw [Bool.or_eq_true]
      exact .inl (by simpa using q1)
    simp [q1, q1', f, said]
theorem c_accept_run_bad (hM : M.Ok) {b : Bool} (hl : M.letters = ln b + 2) {ds : List Nd} (hs : sizeL ds ≤ 20) {p : PV} (hp : p = .non ∨ ∃ xs, p = .lst xs) (hm : 30 ≤ m) : ((cfg prog m).call "accept_run" [M.pv, .tup (labs b), .tup (ds.map Nd.pv), p] S).fin S = .exc "PaperError" (.str "form") S := by
  obtain ⟨m, rfl, hk⟩ := up hm
  rw [call_at lk_accept_run rfl, run_at rfl]
  have e1 := c_check_for (S := S) (m := m) hM hl (by omega)
  have e2 := c_check_hedge (S := S) (m := m) hs (x := .str "hedge") (by omega)
  simp only [d_accept_run]
  rcases hp with rfl | ⟨xs, rfl⟩ <;> simp [e1, e2]
/-- the papers of a run -/
def PapR (p : PV) : Prop := p = .non ∨ (∃ xs, p = .lst xs) ∨ ∃ xs : List Nat, p = .tup (xs.map nI) ∧ xs.length ≤ 100
theorem runs_tail (hM : M.Ok) {b : Bool} (hl : M.letters = ln b + 2) {ds : List Nd} (hs : sizeL ds ≤ 20) {p : PV} (hp : PapR p) (hm : 31 ≤ m) {o0 o4 o5 o6 o8 o9 o10 : Option PV} :
    ∃ o9' : Option PV, l__law_runs_hold_t.den (cfg prog m) [o0, some (.tup (labs b)), some M.pv, some (.tup (ds.map Nd.pv)), o4, o5, o6, some p, o8, o9, o10] S = .nx [o0, some (.tup (labs b)), some M.pv, some (.tup (ds.map Nd.pv)), o4, o5, o6, some p, o8, o9', o10] S := by
  have i2 : ∀ S, index S M.pv (.int 2) = some (.int (M.many : Nat)) := fun _ => index_2
  have i4 : ∀ S, index S M.pv (.int 4) = some (.tup (M.good.map nI)) := fun _ => index_4
  have bad : ∀ p : PV, (p = .non ∨ ∃ xs, p = .lst xs) → ∃ o9' : Option PV, l__law_runs_hold_t.den (cfg prog m) [o0, some (.tup (labs b)), some M.pv, some (.tup (ds.map Nd.pv)), o4, o5, o6, some p, o8, o9, o10] S = .nx [o0, some (.tup (labs b)), some M.pv, some (.tup (ds.map Nd.pv)), o4, o5, o6, some p, o8, o9', o10] S := fun p hp => by
    have a1 := c_accept_run_bad (S := S) (m := m - 1) hM hl hs hp (by omega)
    have a3 := asked4_exc (m := m) (by omega) a1 told_form
    refine ⟨some (.str "paper form"), ?_⟩
    simp only [l__law_runs_hold_t]
    rcases hp with rfl | ⟨xs, rfl⟩ <;> simp [a3, c__law_heard_str (show 1 ≤ m by omega), ne_str told_form.o]
  rcases hp with hp | hp | ⟨xs, rfl, hx⟩
  · exact bad p (.inl hp)
  · exact bad p (.inr hp)
  refine ⟨some (dueV (dueR M b ds xs)), ?_⟩
  have a1 := c_accept_run (S := S) (m := m - 1) hM hl hs xs (by omega)
  have e3 : ((cfg prog m).call "_law_size" [.tup (ds.map Nd.pv)] S).fin S = .ok (.int (sizeL ds : Nat)) S := c__law_size (sizeL ds) ds (Nat.le_refl _) m S (by omega)
  -- the last statement
  have last : ∃ v, ((cfg prog m).call "_law_asked" [.fn "accept_run", .lst [M.pv, .tup (labs b), .tup (ds.map Nd.pv), .tup (xs.map nI)]] S).fin S = .ok v S ∧ ((cfg prog m).call "_law_heard" [v] S).fin S = .ok (dueV (dueR M b ds xs)) S ∧ cmpop S .ne (dueV (dueR M b ds xs)) (dueV (dueR M b ds xs)) = some (.bl false) := by
    rcases dueR_cases M b ds xs with e | e | e | e
    · rw [e] at a1 ⊢
      exact ⟨_, asked4_ok (m := m) (by omega) a1 rfl, c__law_heard_non (by omega), ne_non⟩
    · rw [e] at a1 ⊢
      have l2 : dueV (some ("form" : Str)) = .str "paper form" := by show PV.str _ = _; rw [p_form]
      rw [l2]
      exact ⟨_, asked4_exc (m := m) (by omega) a1 told_form, c__law_heard_str (by omega), ne_str told_form.o⟩
    · rw [e] at a1 ⊢
      have l2 : dueV (some ("row" : Str)) = .str "paper row" := by show PV.str _ = _; rw [p_row]
      rw [l2]
      exact ⟨_, asked4_exc (m := m) (by omega) a1 told_row, c__law_heard_str (by omega), ne_str told_row.o⟩
    · rw [e] at a1 ⊢
      have l2 : dueV (some ("good" : Str)) = .str "paper good" := by show PV.str _ = _; rw [p_good]
      rw [l2]
      exact ⟨_, asked4_exc (m := m) (by omega) a1 told_good, c__law_heard_str (by omega), ne_str told_good.o⟩
  obtain ⟨av, la, lh, lne⟩ := last
  -- what is due
  have heads : (E.ite (.var 7) (.idx (.var 7) (.con (.int 0))) (.con (.int 0))).den (cfg prog m) [o0, some (.tup (labs b)), some M.pv, some (.tup (ds.map Nd.pv)), o4, o5, o6, some (.tup (xs.map nI)), o8, some .non, o10] S = .ok (nI (xs.headD 0)) S := by
    cases xs with
    | nil => simp; rfl
    | cons x xs => simp
  have comp : (F.comp (.var 10) (.nm 10) (.seq (.var 7)) (.some (.not (.call "_law_is_state" (.cons (.var 10) (.cons (.idx (.var 2) (.con (.int 2))) .nil)) []))) [10]).den (cfg prog m) [o0, some (.tup (labs b)), some M.pv, some (.tup (ds.map Nd.pv)), o4, o5, o6, some (.tup (xs.map nI)), o8, some .non, o10] S = .ok ((xs.filter fun x => !decide (x < M.many)).map nI) S := by
    rw [f_filT xs nI (fun x => !decide (x < M.many)) nI ?_ ?_]
    · simp
    · intro k _
      cases q : decide (k < M.many) <;> simp [cmpStep, wipe, i2, c__law_is_state_n (show 1 ≤ m by omega), q]
  simp only [l__law_runs_hold_t]
  rw [s_cons', zs_asg, e_con, asgR_ok, g_nm, asgG_ok, thn_nx]
  simp only [List.set_cons_succ, List.set_cons_zero]
  rw [s_cons', zs_ite]
  cases f : formR M ds xs
  · obtain ⟨f1, f2⟩ := formR_false f
    have e4 := c__law_run_due hM hl (sizeL ds) ds (Nat.le_refl _) xs m S f1 f2 (by omega) (by omega)
    have f1' : ((xs.length : Nat) : Int) = ((sizeL ds : Nat) : Int) := by omega
    have fe : (xs.filter fun x => !decide (x < M.many)) = [] := List.filter_eq_nil_iff.mpr fun x hx => by simp [f2 x hx]
    rw [fe] at comp
    have c1 : ((E.or (.not (.inst (.var 7) .tuple)) (.or (.cmp .ne (.bi .len (.cons (.var 7) .nil)) (.call "_law_size" (.cons (.var 3) .nil) [])) (.ro (.comp (.var 10) (.nm 10) (.seq (.var 7)) (.some (.not (.call "_law_is_state" (.cons (.var 10) (.cons (.idx (.var 2) (.con (.int 2))) .nil)) []))) [10])))).den (cfg prog m) [o0, some (.tup (labs b)), some M.pv, some (.tup (ds.map Nd.pv)), o4, o5, o6, some (.tup (xs.map nI)), o8, some .non, o10] S).bind tstK = .ok false S := by
      simp [e3, f1', comp]
    rw [c1, bra_ok, if_neg (by decide)]
    cases q3 : okL M b ds xs
    · have ed : dueR M b ds xs = some ("row" : Str) := by unfold dueR; rw [f, if_neg (by decide), q3, if_pos rfl]
      rw [q3] at e4
      rw [ed] at lh lne ⊢
      have l2 : dueV (some ("row" : Str)) = .str "paper row" := by show PV.str _ = _; rw [p_row]
      rw [l2] at lh lne ⊢
      rw [s_cons', zs_ite]
      simp [e4, la, lh, lne]
    · rw [q3] at e4
      by_cases q4 : xs.headD 0 ∈ M.good
      · have ed : dueR M b ds xs = none := by unfold dueR; rw [f, if_neg (by decide), q3, if_neg (by decide), if_pos q4]
        rw [ed] at lh lne ⊢
        have l2 : dueV none = .non := rfl
        rw [l2] at lh lne ⊢
        rw [s_cons', zs_ite]
        obtain ⟨hd, ehd⟩ : ∃ x, x = xs.headD 0 := ⟨_, rfl⟩
        rw [← ehd] at heads q4
        simp [-e_ite, heads, e4, i4, nmem_n, q4, la, lh, lne]
      · have ed : dueR M b ds xs = some ("good" : Str) := by unfold dueR; rw [f, if_neg (by decide), q3, if_neg (by decide), if_neg q4]
        rw [ed] at lh lne ⊢
        have l2 : dueV (some ("good" : Str)) = .str "paper good" := by show PV.str _ = _; rw [p_good]
        rw [l2] at lh lne ⊢
        rw [s_cons', zs_ite]
        obtain ⟨hd, ehd⟩ : ∃ x, x = xs.headD 0 := ⟨_, rfl⟩
        rw [← ehd] at heads q4
        simp [-e_ite, heads, e4, i4, nmem_n, q4, la, lh, lne]
  · have ed : dueR M b ds xs = some ("form" : Str) := by unfold dueR; rw [f, if_pos rfl]
    rw [ed] at lh lne ⊢
    have l2 : dueV (some ("form" : Str)) = .str "paper form" := by show PV.str _ = _; rw [p_form]
    rw [l2] at lh lne ⊢
    have c1 : ((E.or (.not (.inst (.var 7) .tuple)) (.or (.cmp .ne (.bi .len (.cons (.var 7) .nil)) (.call "_law_size" (.cons (.var 3) .nil) [])) (.ro (.comp (.var 10) (.nm 10) (.seq (.var 7)) (.some (.not (.call "_law_is_state" (.cons (.var 10) (.cons (.idx (.var 2) (.con (.int 2))) .nil)) []))) [10])))).den (cfg prog m) [o0, some (.tup (labs b)), some M.pv, some (.tup (ds.map Nd.pv)), o4, o5, o6, some (.tup (xs.map nI)), o8, some .non, o10] S).bind tstK = .ok true S := by
      unfold formR at f
      rw [Bool.or_eq_true] at f
      by_cases q1 : xs.length = sizeL ds
      · have q1' : ((xs.length : Nat) : Int) = ((sizeL ds : Nat) : Int) := by omega
        have f2 : (xs.any fun x => !decide (x < M.many)) = true := f.resolve_left (by simpa using q1)
        have fe : (xs.filter fun x => !decide (x < M.many)).isEmpty = false := by rw [empty_fl, f2]; rfl
        simp [e3, q1', comp, -List.isEmpty_iff, -List.isEmpty_eq_false_iff, fe]
      · have q1' : ¬ ((xs.length : Nat) : Int) = ((sizeL ds : Nat) : Int) := by omega
        simp [e3, q1, q1']
    rw [c1, bra_ok, if_pos rfl]
    rw [s_cons', zs_asg, e_con, asgR_ok, g_nm, asgG_ok, thn_nx, s_nil', thn_nx]
    simp only [List.set_cons_succ, List.set_cons_zero]
    simp [la, lh, lne]
end
end Q74
end
section
set_option Elab.async false
set_option linter.all false
set_option maxRecDepth 100000
set_option maxHeartbeats 1600000
namespace Q74
open PySem Pz
section
variable {M N : Mach} {S T : Store} {m n : Nat} {st : DSt}
/-! ### the data of a hedge -/
def Hg.dat : Hg → List PyData
  | .nil => []
  | .t x r => .tuple [.str "t", .str (txS x)] :: r.dat
  | .e l k r => .tuple [.str "e", .str l.s, .tuple k.dat] :: r.dat
theorem dat_pv (h : Hg) : PV.data.dataL h.pv = some h.dat := by
  induction h with
  | nil => rfl
  | t x r ih =>
    show (match some (PyData.tuple [.str "t", .str (txS x)]), PV.data.dataL r.pv with
      | some d, some ds => some (d :: ds)
      | _, _ => none) = _
    rw [ih]; rfl
  | e l k r ihk ih =>
    have e1 : (PV.tup [.str "e", .str l.s, .tup k.pv]).data = some (.tuple [.str "e", .str l.s, .tuple k.dat]) := by
      have e2 : (PV.tup k.pv).data = some (.tuple k.dat) := by
        show (PV.data.dataL k.pv).map PyData.tuple = _
        rw [ihk]; rfl
      show (PV.data.dataL [.str "e", .str l.s, .tup k.pv]).map PyData.tuple = _
      have e3 : PV.data.dataL [.str "e", .str l.s, .tup k.pv] = some [.str "e", .str l.s, .tuple k.dat] := by
        unfold PV.data.dataL PV.data.dataL PV.data.dataL PV.data.dataL
        rw [e2]; rfl
      rw [e3]; rfl
    show (match (PV.tup [.str "e", .str l.s, .tup k.pv]).data, PV.data.dataL r.pv with
      | some d, some ds => some (d :: ds)
      | _, _ => none) = _
    rw [ih, e1]; rfl
theorem ok_s (l : Lb) : PyData.strOk l.s = true := by cases l <;> decide +kernel
theorem ok_tx (x : Bool) : PyData.strOk (txS x) = true := by cases x <;> decide +kernel
theorem lay_dat (h : Hg) : PyData.canLayAll0 h.dat = true := by
  induction h with
  | nil => rfl
  | t x r ih =>
    have e1 : PyData.strOk "t" = true := by decide +kernel
    show PyData.canLayAll0 (_ :: r.dat) = true
    simp [PyData.canLayAll0, PyData.canLay0, ih, e1, ok_tx]
  | e l k r ihk ih =>
    have e1 : PyData.strOk "e" = true := by decide +kernel
    show PyData.canLayAll0 (_ :: r.dat) = true
    simp [PyData.canLayAll0, PyData.canLay0, ih, ihk, e1, ok_s]
theorem dep_dat (h : Hg) : PyData.depthAll h.dat ≤ 3 * h.size := by
  induction h with
  | nil => simp [Hg.dat, PyData.depthAll]
  | t x r ih =>
    show PyData.depthAll (_ :: r.dat) ≤ 3 * (1 + r.size)
    simp [PyData.depthAll, PyData.depth]
    omega
  | e l k r ihk ih =>
    show PyData.depthAll (_ :: r.dat) ≤ 3 * (1 + k.size + r.size)
    simp [PyData.depthAll, PyData.depth]
    omega
theorem eq_empty {h : Hg} (hs : h.size ≤ 20) : cmpop S .eq (.tup h.pv) (.tup []) = some (.bl h.pv.isEmpty) := by
  have d1 : Dat S (.tup h.pv) (.tuple h.dat) := by
    refine dat_of ?_ ?_ ?_
    · show (PV.data.dataL h.pv).map PyData.tuple = _
      rw [dat_pv]; rfl
    · rw [PyData.canLay0]; exact lay_dat h
    · rw [PyData.depth]; have := dep_dat h; omega
  have d2 : Dat S (.tup []) (.tuple []) := dat_of rfl (by simp [PyData.canLay0, PyData.canLayAll0]) (by simp [PyData.depth, PyData.depthAll])
  rw [eq_dat d1 d2]
  congr 2
  cases h with
  | nil => rfl
  | t x r => rfl
  | e l k r => rfl
/-! ### a run -/
theorem hg_cases (h : Hg) : h = .nil ∨ ∃ (d : Nd) (r : Hg), h.pv = d.pv :: r.pv ∧ h.size = 1 + d.kids.size + r.size := by
  cases h with
  | nil => exact .inl rfl
  | t x r => exact .inr ⟨.t x, r, rfl, rfl⟩
  | e l k r => exact .inr ⟨.e l k, r, rfl, rfl⟩
theorem c__law_run (hM : M.Ok) {b : Bool} (hl : M.letters = ln b + 2) : ∀ (Z : Nat) (h : Hg), h.size ≤ Z → Z ≤ 20 → ∀ m S, Z + 3 ≤ m → ∃ (x : Nat) (xs : List Nat), x < M.many ∧ xs.length = h.size ∧ ((cfg prog m).call "_law_run" [M.pv, .tup (labs b), .tup h.pv] S).fin S = .ok (.tup [nI x, .tup (xs.map nI)]) S := by
  intro Z
  induction Z using Nat.strongRecOn with
  | _ Z ih =>
    intro h hs hZ m S hm
    obtain ⟨m, rfl, hk⟩ := up hm
    have q := eq_empty (S := S) (show h.size ≤ 20 by omega)
    have top : ∀ xs : List Nat, PV.top.topL (xs.map nI) = 0 := fun xs => topL_map fun _ => rfl
    rw [call_at lk__law_run rfl, run_at rfl]
    rcases hg_cases h with rfl | ⟨d, r, e1, e2⟩
    · refine ⟨0, [], hM.m1, rfl, ?_⟩
      have q : cmpop S .eq (.tup []) (.tup []) = some (.bl true) := q
      simp only [d__law_run]
      simp [q, Hg.pv]
      exact fin_ok0 (Nat.zero_le _)
    · rw [e1] at q
      obtain ⟨x1, xs1, a1, a2, a3⟩ := ih (Z - 1) (by omega) r (by omega) (by omega) m S (by omega)
      obtain ⟨x2, xs2, b1, b2, b3⟩ := ih (Z - 1) (by omega) d.kids (by omega) (by omega) m S (by omega)
      have f6 : ∀ S, ((cfg prog m).call "_law_moved" [M.pv, .int (ltr b d : Nat), nI x2, nI x1] S).fin S = .ok (nI (M.moved (ltr b d) x2 x1)) S := fun S => c__law_moved hM (show 1 ≤ m by omega) (ltr_in hM hl d) b1 a1
      refine ⟨M.moved (ltr b d) x2 x1, M.moved (ltr b d) x2 x1 :: xs2 ++ xs1, moved_lt hM (ltr_in hM hl d) b1 a1, by simp; omega, ?_⟩
      rw [e1]
      simp only [d__law_run]
      rw [s_cons', zs_ite]
      have sl : slice S (.tup (d.pv :: r.pv)) (some 1) none = some (.tup r.pv) := by
        rw [slc_tup, cut_1]; rfl
      have kE : ∀ o4 o5 o6 o7 : Option PV, (E.ite (.cmp .eq (.idx (.var 3) (.con (.int 0))) (.con (.str "e"))) (.idx (.var 3) (.con (.int 2))) (.tup .nil)).den (cfg prog m) [some M.pv, some (.tup (labs b)), some (.tup (d.pv :: r.pv)), some d.pv, o4, o5, o6, o7] S = .ok (.tup d.kids.pv) S := fun _ _ _ _ => kidsE rfl
      have lE : ∀ o4 o5 o6 o7 : Option PV, (E.ite (.cmp .eq (.idx (.var 3) (.con (.int 0))) (.con (.str "t"))) (.bin .add (.bi .len (.cons (.var 1) .nil)) (.con (.int 1))) (.ite (.cmp .mem (.idx (.var 3) (.con (.int 1))) (.var 1)) (.ixo (.var 1) (.idx (.var 3) (.con (.int 1)))) (.bi .len (.cons (.var 1) .nil)))).den (cfg prog m) [some M.pv, some (.tup (labs b)), some (.tup (d.pv :: r.pv)), some d.pv, o4, o5, o6, o7] S = .ok (.int (ltr b d : Nat)) S := fun _ _ _ _ => ltrE rfl rfl
      have cat : ∀ xs ys : List PV, xs.length ≤ 100 → ys.length ≤ 100 → ∀ S, binop S .add (.tup xs) (.tup ys) = some (.tup (xs ++ ys)) := fun xs ys h1 h2 S => bo_t (by omega) (by omega)
      have c1 : ∀ S, binop S .add (.tup [nI (M.moved (ltr b d) x2 x1)]) (.tup (xs2.map nI)) = some (.tup (nI (M.moved (ltr b d) x2 x1) :: xs2.map nI)) := fun S => cat _ _ (by simp) (by rw [List.length_map]; omega) S
      have c2 : ∀ S, binop S .add (.tup (nI (M.moved (ltr b d) x2 x1) :: xs2.map nI)) (.tup (xs1.map nI)) = some (.tup (nI (M.moved (ltr b d) x2 x1) :: xs2.map nI ++ xs1.map nI)) := fun S => cat _ _ (by rw [List.length_cons, List.length_map]; omega) (by rw [List.length_map]; omega) S
      simp [-slc_tup, -e_ite, q, sl, a3, kE, lE, b3, f6, c1, c2]
      have e5 := top (M.moved (ltr b d) x2 x1 :: (xs2 ++ xs1))
      rw [List.map_cons, List.map_append] at e5
      exact fin_ok0 (by show max _ (max (PV.top.topL (nI (M.moved (ltr b d) x2 x1) :: (xs2.map nI ++ xs1.map nI))) 0) ≤ _; rw [e5]; exact Nat.zero_le _)
end
end Q74
end
section
set_option Elab.async false
set_option linter.all false
set_option maxRecDepth 100000
set_option maxHeartbeats 1600000
namespace Q74
open PySem Pz
theorem wh_rule {c : Cfg} {d : E} {b : Sts} (I : Nat → Pz.Env → Store → Prop) (F : Pz.Env → Store → Prop)
    (hs : ∀ k ρ S, I k ρ S → ∃ S1, ((d.den c ρ S).bind tstK = .ok false S1 ∧ F ρ S1) ∨ ((d.den c ρ S).bind tstK = .ok true S1 ∧ ∃ ρ' S', b.den c ρ S1 = .nx ρ' S' ∧ ∃ j, j < k ∧ I j ρ' S')) {k : Nat} {ρ : Pz.Env} {S : Store} (h0 : I k ρ S) (hf : k < c.fuel) :
    ∃ ρ' S', (St.wh d b).den c ρ S = .nx ρ' S' ∧ F ρ' S' := by
  have key : ∀ f k ρ S, I k ρ S → k < f → ∃ ρ' S', whileLoop (fun ρ S => d.denB c ρ S) (fun ρ S => b.den c ρ S) f ρ S = .nx ρ' S' ∧ F ρ' S' := by
    intro f
    induction f with
    | zero => intro k _ _ _ h; omega
    | succ f ih =>
      intro k ρ S h hk
      unfold whileLoop
      obtain ⟨S1, ⟨e1, e2⟩ | ⟨e1, ρ', S', e2, j, hj, e3⟩⟩ := hs k ρ S h
      · refine ⟨ρ, S1, ?_, e2⟩
        show onR ρ (d.denB c ρ S) _ = _
        rw [denB_eq, e1]
        rfl
      · obtain ⟨ρ2, S2, e4, e5⟩ := ih j ρ' S' e3 (by omega)
        refine ⟨ρ2, S2, ?_, e5⟩
        show onR ρ (d.denB c ρ S) _ = _
        rw [denB_eq, e1]
        show (match b.den c ρ S1 with
          | .nx ρ1 S2 => whileLoop (fun ρ S => d.denB c ρ S) (fun ρ S => b.den c ρ S) f ρ1 S2
          | .ct ρ1 S2 => whileLoop (fun ρ S => d.denB c ρ S) (fun ρ S => b.den c ρ S) f ρ1 S2
          | .bk ρ1 S2 => .nx ρ1 S2
          | r => r) = _
        rw [e2]
        exact e4
  obtain ⟨ρ', S', e1, e2⟩ := key c.fuel k ρ S h0 hf
  refine ⟨ρ', S', ?_, e2⟩
  simp only [St.den]
  exact e1
section
variable {M N : Mach} {S T : Store} {m n : Nat} {st : DSt}
theorem topL_pv : ∀ h : Hg, PV.top.topL h.pv = 0 := by
  intro h
  induction h with
  | nil => rfl
  | t x r ih => show max _ (PV.top.topL r.pv) = 0; rw [ih]; rfl
  | e l k r ihk ih => show max (max 0 (max 0 (max (PV.top.topL k.pv) 0))) (PV.top.topL r.pv) = 0; rw [ih, ihk]; rfl
theorem topL_nds (ds : List Nd) : PV.top.topL (ds.map Nd.pv) = 0 := by
  have := topL_pv (Hg.of ds)
  rwa [pv_nds, of_nds] at this
/-- what is drawn: a text or a label -/
theorem own_cases {v : PV} (h : v ∈ ([.str "a", .str "a", .str "b", .str "b", .str "q", .str "text", .str "else"] : List PV)) : v = .str "text" ∨ ∃ l : Lb, v = .str l.s := by
  simp only [List.mem_cons, List.not_mem_nil, or_false] at h
  rcases h with rfl | rfl | rfl | rfl | rfl | rfl | rfl
  · exact .inr ⟨.a, rfl⟩
  · exact .inr ⟨.a, rfl⟩
  · exact .inr ⟨.b, rfl⟩
  · exact .inr ⟨.b, rfl⟩
  · exact .inr ⟨.q, rfl⟩
  · exact .inl rfl
  · exact .inr ⟨.x, rfl⟩
theorem txt_cases {v : PV} (h : v ∈ ([.str "", .str "a b"] : List PV)) : ∃ x : Bool, v = .str (txS x) := by
  simp only [List.mem_cons, List.not_mem_nil, or_false] at h
  rcases h with rfl | rfl
  · exact ⟨false, rfl⟩
  · exact ⟨true, rfl⟩
theorem q_text : cmpop S .eq (.str "text") (.str "text") = some (.bl true) := by kernel_rfl
theorem q_lab (l : Lb) : cmpop S .eq (.str l.s) (.str "text") = some (.bl false) := by cases l <;> kernel_rfl
theorem c__law_hedge : ∀ (Z : Nat), Z ≤ 20 → ∀ (many : Nat) (deep : Int) (m : Nat) (S : Store) (st : DSt), many ≤ Z → Z + 30 ≤ m → At S n st → ∃ (ds : List Nd) (st' : DSt), sizeL ds ≤ many ∧ ((cfg prog m).call "_law_hedge" [.cell n, .int (many : Nat), .int deep] S).fin S = .ok (.tup (ds.map Nd.pv)) (S.set n st'.po) := by
  intro Z
  induction Z using Nat.strongRecOn with
  | _ Z ih =>
    intro hZ many deep m S st hmany hm h
    obtain ⟨m, rfl, hk⟩ := up hm
    have e5 : ∀ x y : DSt, (S.set n x.po).set n y.po = S.set n y.po := fun _ _ => List.set_set ..
    obtain ⟨ρ', T, w, ds, st1, k, o4, o5, eρ, eT, hd⟩ := wh_rule (c := cfg prog m) (d := (.and (.cmp .gt (.var 1) (.con (.int 0))) (.cmp .gt (.call "_law_draw" (.cons (.var 0) (.cons (.con (.int 4)) .nil)) []) (.con (.int 0))))) (b := l__law_hedge_1)
      (fun k ρ T => ∃ (ds : List Nd) (st1 : DSt) (o4 o5 : Option PV), ρ = [some (.cell n), some (.int (k : Nat)), some (.int deep), some (.tup (ds.map Nd.pv)), o4, o5] ∧ T = S.set n st1.po ∧ sizeL ds + k ≤ many)
      (fun ρ T => ∃ (ds : List Nd) (st1 : DSt) (k : Nat) (o4 o5 : Option PV), ρ = [some (.cell n), some (.int (k : Nat)), some (.int deep), some (.tup (ds.map Nd.pv)), o4, o5] ∧ T = S.set n st1.po ∧ sizeL ds ≤ many)
      (fun k ρ T ⟨ds, st1, o4, o5, eρ, eT, hd⟩ => by
        subst eρ eT
        have H1 := h.set st1
        by_cases z : k = 0
        · subst z
          exact ⟨S.set n st1.po, .inl ⟨by simp, ds, st1, 0, o4, o5, rfl, rfl, by omega⟩⟩
        obtain ⟨a, st2, ha, e0⟩ := c_draw (m := m) (k := 4) (by omega) (by omega) (by omega) H1
        rw [e5] at e0
        have e0 : ((cfg prog m).call "_law_draw" [.cell n, .int 4] (S.set n st1.po)).fin (S.set n st1.po) = .ok (.int (a : Nat)) (S.set n st2.po) := e0
        have z1 : (0 : Int) < ((k : Nat) : Int) := by omega
        have z0 : 0 < k := by omega
        by_cases a0 : a = 0
        · subst a0
          exact ⟨S.set n st2.po, .inl ⟨by simp [z1, z0, e0], ds, st2, k, o4, o5, rfl, rfl, by omega⟩⟩
        have a1 : (0 : Int) < ((a : Nat) : Int) := by omega
        have a2 : 0 < a := by omega
        refine ⟨S.set n st2.po, .inr ⟨by simp [z1, z0, e0, a1, a2], ?_⟩⟩
        obtain ⟨v, st3, hv, e3⟩ := c__law_pick (m := m) (h.set st2) (xs := [.str "a", .str "a", .str "b", .str "b", .str "q", .str "text", .str "else"]) (by decide) (by decide) rfl (by omega)
        rw [e5] at e3
        have ek : ((k : Nat) : Int) - 1 = ((k - 1 : Nat) : Int) := by omega
        have cat : ∀ x : PV, ∀ S, binop S .add (.tup (ds.map Nd.pv)) (.tup [x]) = some (.tup (ds.map Nd.pv ++ [x])) := fun x S => bo_t (by rw [List.length_map]; have := len_le ds; omega) (by show 1 ≤ 1000; omega)
        rcases own_cases hv with rfl | ⟨l, rfl⟩
        · obtain ⟨v, st4, hv, e4⟩ := c__law_pick (m := m) (h.set st3) (xs := [.str "", .str "a b"]) (by decide) (by decide) rfl (by omega)
          rw [e5] at e4
          obtain ⟨x, rfl⟩ := txt_cases hv
          refine ⟨[some (.cell n), some (.int (k - 1 : Nat)), some (.int deep), some (.tup ((ds ++ [Nd.t x]).map Nd.pv)), some (.str "text"), o5], S.set n st4.po, ?_, k - 1, by omega, ds ++ [Nd.t x], st4, _, _, rfl, rfl, ?_⟩
          · simp only [l__law_hedge_1]
            simp [e3, ek, q_text, e4, cat, Nd.pv]
          · rw [sizeL_app]; show sizeL ds + 1 + (k - 1) ≤ many; omega
        · obtain ⟨many', em⟩ : ∃ x, x = if 0 < deep then (k - 1) / 2 else 0 := ⟨_, rfl⟩
          have lm : many' ≤ k - 1 := by rw [em]; split <;> omega
          obtain ⟨ds2, st4, s2, e4⟩ := ih (Z - 1) (by omega) (by omega) many' (deep - 1) m (S.set n st3.po) st3 (by omega) (by omega) (h.set st3)
          rw [e5] at e4
          have e6 : ∀ S, ((cfg prog m).call "_law_size" [.tup (ds2.map Nd.pv)] S).fin S = .ok (.int (sizeL ds2 : Nat)) S := fun S => c__law_size (sizeL ds2) ds2 (Nat.le_refl _) m S (by omega)
          have ek2 : ((k - 1 : Nat) : Int) - ((sizeL ds2 : Nat) : Int) = ((k - 1 - sizeL ds2 : Nat) : Int) := by omega
          have nd2 : (Nd.e l (Hg.of ds2)).pv = .tup [.str "e", .str l.s, .tup (ds2.map Nd.pv)] := by
            show PV.tup [.str "e", .str l.s, .tup (Hg.of ds2).pv] = _
            rw [pv_nds, of_nds]
          refine ⟨[some (.cell n), some (.int (k - 1 - sizeL ds2 : Nat)), some (.int deep), some (.tup ((ds ++ [Nd.e l (Hg.of ds2)]).map Nd.pv)), some (.str l.s), some (.tup (ds2.map Nd.pv))], S.set n st4.po, ?_, k - 1 - sizeL ds2, by omega, ds ++ [Nd.e l (Hg.of ds2)], st4, _, _, rfl, rfl, ?_⟩
          · have fd : ∀ S x, binop S .fdiv (.int x) (.int 2) = some (.int (x / 2)) := fun _ _ => bo_fdiv (by omega) (by omega)
            have ed : ((k - 1 : Nat) : Int) / 2 = (((k - 1) / 2 : Nat) : Int) := by omega
            simp only [l__law_hedge_1]
            by_cases dp : 0 < deep
            · rw [if_pos dp] at em
              rw [em, ← ed] at e4
              simp [e3, ek, q_lab, dp, fd, e4, e6, ek2, cat, nd2]
            · rw [if_neg dp] at em
              rw [em] at e4
              have e4 : ((cfg prog m).call "_law_hedge" [.cell n, .int 0, .int (deep - 1)] (S.set n st3.po)).fin (S.set n st3.po) = .ok (.tup (ds2.map Nd.pv)) (S.set n st4.po) := e4
              have dp2 : deep ≤ 0 := by omega
              have dp3 : decide (0 < deep) = false := decide_eq_false dp
              simp only [s_cons', zs_asg, zs_ite]
              simp only [e_call, es_cons, es_nil, e_var, e_con, e_ro, f_disp, List.getElem?_cons_zero, List.getElem?_cons_succ, vr_some, R.bind_ok, esK_eq, esC_eq, callK_eq, List.append_nil, lstK_eq, e3, asgR_ok, g_nm, asgG_ok, thn_nx, List.set_cons_succ, List.set_cons_zero]
              simp [ek, q_lab, dp3, e4, e6, ek2, cat, nd2]
          · rw [sizeL_app]
            have : sizeL [Nd.e l (Hg.of ds2)] = 1 + sizeL ds2 := by
              show 1 + (Hg.of ds2).size + 0 = _
              rw [size_nds, of_nds]; omega
            rw [this]; omega)
      (k := many) (ρ := [some (.cell n), some (.int (many : Nat)), some (.int deep), some (.tup []), none, none]) (S := S) ⟨[], st, none, none, rfl, h.self.symm, by show 0 + many ≤ many; omega⟩ (by rw [cfg_fuel]; show many < 100000; omega)
    subst eρ eT
    refine ⟨ds, st1, hd, ?_⟩
    rw [call_at lk__law_hedge rfl, run_at rfl]
    simp only [d__law_hedge]
    simp [-e_and, w]
    exact h.fin0 st1 (by show PV.top.topL (ds.map Nd.pv) ≤ _; rw [topL_nds]; exact Nat.zero_le _)
end
end Q74
end
section
set_option Elab.async false
set_option linter.all false
set_option maxRecDepth 100000
set_option maxHeartbeats 1600000
namespace Q74
open PySem Pz
section
variable {M N : Mach} {S T : Store} {m n : Nat} {st : DSt}
theorem l__law_runs_hold_1_eq : l__law_runs_hold_1 = (.cons (.asg (.nm 7) (.var 5)) (.cons (.ite (.and (.var 5) (.cmp .gt (.call "_law_draw" (.cons (.var 0) (.cons (.con (.int 3)) .nil)) []) (.con (.int 0)))) (.cons (.asg (.nm 8) (.call "_law_draw" (.cons (.var 0) (.cons (.bi .len (.cons (.var 5) .nil)) .nil)) [])) (.cons (.asg (.nm 7) (.call "_law_pick" (.cons (.var 0) (.cons (.ro (.disp (.cons (.bin .add (.bin .add (.slc (.var 5) .none (.some (.var 8))) (.tup (.cons (.call "_law_draw" (.cons (.var 0) (.cons (.idx (.var 2) (.con (.int 2))) .nil)) []) .nil))) (.slc (.var 5) (.some (.bin .add (.var 8) (.con (.int 1)))) .none)) (.cons (.slc (.var 5) .none (.some (.neg (.con (.int 1))))) (.cons (.bin .add (.var 5) (.tup (.cons (.con (.int 0)) .nil))) (.cons (.bin .add (.bin .add (.slc (.var 5) .none (.some (.var 8))) (.tup (.cons (.idx (.var 2) (.con (.int 2))) .nil))) (.slc (.var 5) (.some (.bin .add (.var 8) (.con (.int 1)))) .none)) (.cons (.ro (.lst (.var 5))) (.cons (.con .non) .nil)))))))) .nil)) [])) .nil)) .nil) l__law_runs_hold_t)) := rfl
theorem runs_turn (h : At S n st) (hM : M.Ok) {b : Bool} (hl : M.letters = ln b + 2) {ds : List Nd} (hs : sizeL ds ≤ 20) {right : List Nat} (hr : right.length ≤ 20) (hm : 31 ≤ m) {o4 o6 o7 o8 o9 o10 : Option PV} :
    ∃ (o7' o8' o9' : Option PV) (st' : DSt), l__law_runs_hold_1.den (cfg prog m) [some (.cell n), some (.tup (labs b)), some M.pv, some (.tup (ds.map Nd.pv)), o4, some (.tup (right.map nI)), o6, o7, o8, o9, o10] S = .nx [some (.cell n), some (.tup (labs b)), some M.pv, some (.tup (ds.map Nd.pv)), o4, some (.tup (right.map nI)), o6, o7', o8', o9', o10] (S.set n st'.po) := by
  have e5 : ∀ x y : DSt, (S.set n x.po).set n y.po = S.set n y.po := fun _ _ => List.set_set ..
  obtain ⟨X, hX⟩ : ∃ X, X = right.map nI := ⟨_, rfl⟩
  have lX : X.length = right.length := by rw [hX, List.length_map]
  have tl := fun (S : Store) {p : PV} (hp : PapR p) (o8 : Option PV) => runs_tail (S := S) (m := m) hM hl hs hp hm (o0 := some (.cell n)) (o4 := o4) (o5 := some (.tup X)) (o6 := o6) (o8 := o8) (o9 := o9) (o10 := o10)
  have pX : PapR (.tup X) := .inr (.inr ⟨right, by rw [hX], by omega⟩)
  rw [← hX]
  by_cases q0 : right = []
  · subst q0
    obtain ⟨o9', e1⟩ := tl S pX o8
    refine ⟨some (.tup X), o8, o9', st, ?_⟩
    rw [h.self, l__law_runs_hold_1_eq]
    have hX : X = [] := hX
    subst hX
    simp [e1]
  have l0 : 0 < right.length := Nat.pos_of_ne_zero fun e => q0 (List.eq_nil_of_length_eq_zero e)
  have q1 : X.isEmpty = false := by rw [← Bool.not_eq_true, List.isEmpty_iff]; intro e; rw [e] at lX; simp at lX; omega
  obtain ⟨c, st1, hc, e1⟩ := c_draw (m := m) (k := 3) (by omega) (by omega) (by omega) h
  have e1 : ((cfg prog m).call "_law_draw" [.cell n, .int 3] S).fin S = .ok (.int (c : Nat)) (S.set n st1.po) := e1
  by_cases c0 : c = 0
  · subst c0
    obtain ⟨o9', e2⟩ := tl (S.set n st1.po) pX o8
    refine ⟨some (.tup X), o8, o9', st1, ?_⟩
    rw [l__law_runs_hold_1_eq]
    simp [-List.isEmpty_iff, -List.isEmpty_eq_false_iff, q1, e1, e2]
  have c1 : (0 : Int) < ((c : Nat) : Int) := by omega
  have c2 : 0 < c := by omega
  obtain ⟨t, st2, ht, e2⟩ := c_draw (m := m) (k := right.length) (by omega) l0 (by omega) (h.set st1)
  rw [e5] at e2
  have e2 : ((cfg prog m).call "_law_draw" [.cell n, .int (X.length : Nat)] (S.set n st1.po)).fin (S.set n st1.po) = .ok (.int (t : Nat)) (S.set n st2.po) := by rw [lX]; exact e2
  obtain ⟨x, st3, hx, e3⟩ := c_draw (m := m) (k := M.many) (by omega) hM.m1 (by have := hM.m48; omega) (h.set st2)
  rw [e5] at e3
  have e3 : ((cfg prog m).call "_law_draw" [.cell n, .int (M.many : Nat)] (S.set n st2.po)).fin (S.set n st2.po) = .ok (.int (x : Nat)) (S.set n st3.po) := e3
  obtain ⟨A, hA⟩ : ∃ A, A = X.take t := ⟨_, rfl⟩
  obtain ⟨B, hB⟩ : ∃ B, B = X.drop (t + 1) := ⟨_, rfl⟩
  obtain ⟨F, hF⟩ : ∃ F, F = X.take (X.length - 1) := ⟨_, rfl⟩
  obtain ⟨V, hV⟩ : ∃ V, V = PV.tup X := ⟨_, rfl⟩
  have lA : A.length ≤ 20 := by rw [hA, List.length_take]; omega
  have lB : B.length ≤ 20 := by rw [hB, List.length_drop]; omega
  have i2 : ∀ S, index S M.pv (.int 2) = some (.int (M.many : Nat)) := fun _ => index_2
  have f0 : ∀ S, bi S .len [V] = some (.int (X.length : Nat)) := fun S => by rw [hV, len_tup]
  have f2 : ∀ S, slice S V none (some ((t : Nat) : Int)) = some (.tup A) := fun S => by rw [hV, hA]; exact slc_at
  have f3 : ∀ S, slice S V (some (((t : Nat) : Int) + 1)) none = some (.tup B) := fun S => by rw [hV, hB]; exact slc_from
  have f5 : ∀ S, slice S V none (some (-1)) = some (.tup F) := fun S => by rw [hV, hF, slc_tup, cut_l]
  have f8 : ∀ S, seqOf S V = some X := fun S => by rw [hV]; rfl
  have f9 : ∀ S, truthy S V = some true := fun S => by rw [hV, tr_tup, q1]; rfl
  have g1 : ∀ (y : PV) S, binop S .add (.tup A) (.tup [y]) = some (.tup (A ++ [y])) := fun y S => bo_t (by omega) (by show 1 ≤ 1000; omega)
  have g2 : ∀ (y : PV) S, binop S .add (.tup (A ++ [y])) (.tup B) = some (.tup (A ++ [y] ++ B)) := fun y S => bo_t (by rw [List.length_append]; show A.length + 1 ≤ _; omega) (by omega)
  have g3 : ∀ (y : PV) S, binop S .add V (.tup [y]) = some (.tup (X ++ [y])) := fun y S => by rw [hV]; exact bo_t (by omega) (by show 1 ≤ 1000; omega)
  obtain ⟨v, st4, hv, e4⟩ := c__law_pick (m := m) (h.set st3) (xs := [.tup (A ++ [.int (x : Nat)] ++ B), .tup F, .tup (X ++ [.int 0]), .tup (A ++ [.int (M.many : Nat)] ++ B), .lst X, .non]) (by show 0 < 6; omega) (by show 6 ≤ 1000; omega) (by
    have tX : PV.top.topL X = 0 := by rw [hX]; exact topL_map fun _ => rfl
    have tt : ∀ Y : List PV, (∀ y ∈ Y, y ∈ X ∨ ∃ k, y = .int k) → PV.top.topL Y = 0 := fun Y hY => topL_mem.mpr fun y hy => by
      rcases hY y hy with q | ⟨k, rfl⟩
      · exact topL_mem.mp tX y q
      · rfl
    have mid : ∀ z : Int, PV.top.topL (A ++ [.int z] ++ B) = 0 := fun z => tt _ fun y hy => by
      rcases List.mem_append.mp hy with q | q
      · rcases List.mem_append.mp q with q | q
        · exact .inl (by rw [hA] at q; exact List.mem_of_mem_take q)
        · exact .inr ⟨z, List.mem_singleton.mp q⟩
      · exact .inl (by rw [hB] at q; exact List.mem_of_mem_drop q)
    have e1 : PV.top.topL F = 0 := tt _ fun y hy => .inl (by rw [hF] at hy; exact List.mem_of_mem_take hy)
    have e2 : PV.top.topL (X ++ [.int 0]) = 0 := tt _ fun y hy => by
      rcases List.mem_append.mp hy with q | q
      · exact .inl q
      · exact .inr ⟨0, List.mem_singleton.mp q⟩
    show max (PV.top.topL (A ++ [.int (x : Nat)] ++ B)) (max (PV.top.topL F) (max (PV.top.topL (X ++ [.int 0])) (max (PV.top.topL (A ++ [.int (M.many : Nat)] ++ B)) (max (PV.top.topL X) (max 0 0))))) = 0
    rw [mid, mid, e1, e2, tX]; rfl) (by omega)
  rw [e5] at e4
  have hp : PapR v := by
    have mid : ∀ z : Nat, PapR (.tup (A ++ [.int (z : Nat)] ++ B)) := fun z => .inr (.inr ⟨right.take t ++ [z] ++ right.drop (t + 1), by
      rw [hA, hB, hX, List.map_append, List.map_append, List.map_take, List.map_drop]; rfl, by
      rw [List.length_append, List.length_append, List.length_take, List.length_drop]; show _ + 1 + _ ≤ 100; omega⟩)
    simp only [List.mem_cons, List.not_mem_nil, or_false] at hv
    rcases hv with rfl | rfl | rfl | rfl | rfl | rfl
    · exact mid x
    · exact .inr (.inr ⟨right.take (X.length - 1), by rw [hF, hX, List.map_take], by rw [List.length_take]; omega⟩)
    · exact .inr (.inr ⟨right ++ [0], by rw [hX, List.map_append]; rfl, by rw [List.length_append]; show _ + 1 ≤ 100; omega⟩)
    · exact mid M.many
    · exact .inr (.inl ⟨X, rfl⟩)
    · exact .inl rfl
  obtain ⟨o9', e6⟩ := tl (S.set n st4.po) hp (some (.int (t : Nat)))
  refine ⟨some v, some (.int (t : Nat)), o9', st4, ?_⟩
  rw [← hV] at e6 ⊢
  rw [l__law_runs_hold_1_eq]
  simp only [List.append_assoc, List.singleton_append] at g2 e4
  simp [-slc_tup, -tr_tup, -len_tup, f9, e1, c1, c2, f0, e2, f2, f3, f5, f8, i2, e3, g1, g2, g3, e4, e6]
theorem labs_at {a : Nat} (ha : a < 2) : cut [PV.str "a", PV.str "b"] none (some (1 + ((a : Nat) : Int))) = labs (decide (a = 1)) := by
  have : a = 0 ∨ a = 1 := by omega
  rcases this with rfl | rfl
  · exact cut_t1
  · exact cut_t2
theorem c__law_runs_hold (h : At S n st) (hm : 60 ≤ m) : ∃ (st' : DSt), ((cfg prog m).call "_law_runs_hold" [.cell n] S).fin S = .ok (.bl true) (S.set n st'.po) := by
  obtain ⟨m, rfl, hk⟩ := up hm
  have e5 : ∀ x y : DSt, (S.set n x.po).set n y.po = S.set n y.po := fun _ _ => List.set_set ..
  obtain ⟨a, st1, ha, e0⟩ := c_draw (m := m) (k := 2) (by omega) (by omega) (by omega) h
  have e0 : ((cfg prog m).call "_law_draw" [.cell n, .int 2] S).fin S = .ok (.int (a : Nat)) (S.set n st1.po) := e0
  obtain ⟨b, eb⟩ : ∃ b, b = decide (a = 1) := ⟨_, rfl⟩
  have la := labs_at ha
  rw [← eb] at la
  obtain ⟨M, st2, a1, a2, a3, a4, e1⟩ := c__law_some_machine (m := m) (h.set st1) (L := ln b + 2) (by cases b <;> decide) (by cases b <;> decide) (by omega)
  rw [e5] at e1
  have e1 : ((cfg prog m).call "_law_some_machine" [.cell n, .int (((ln b : Nat) : Int) + 2)] (S.set n st1.po)).fin (S.set n st1.po) = .ok M.pv (S.set n st2.po) := e1
  obtain ⟨ds, st3, d1, e2⟩ := c__law_hedge (n := n) 9 (by omega) 9 3 m (S.set n st2.po) st2 (Nat.le_refl _) (by omega) (h.set st2)
  rw [e5] at e2
  have e2 : ((cfg prog m).call "_law_hedge" [.cell n, .int 9, .int 3] (S.set n st2.po)).fin (S.set n st2.po) = .ok (.tup (ds.map Nd.pv)) (S.set n st3.po) := e2
  obtain ⟨x, right, x1, x2, e3⟩ := c__law_run a1 a2 20 (Hg.of ds) (by rw [size_nds, of_nds]; omega) (by omega) m (S.set n st3.po) (by omega)
  rw [pv_nds, of_nds] at e3
  rw [size_nds, of_nds] at x2
  obtain ⟨ρ', T, e4, st4, o6, o7, o8, o9, eT, eρ⟩ := walk_iT (c := cfg prog m) (j := 6) (b := l__law_runs_hold_1) (l := List.range 5) (e := nI) (ρ := [some (.cell n), some (.tup (labs b)), some M.pv, some (.tup (ds.map Nd.pv)), some (nI x), some (.tup (right.map nI)), none, none, none, none, none]) (S := S.set n st3.po)
    (fun i ρ T => ∃ (st4 : DSt) (o6 o7 o8 o9 : Option PV), T = S.set n st4.po ∧ ρ = [some (.cell n), some (.tup (labs b)), some M.pv, some (.tup (ds.map Nd.pv)), some (nI x), some (.tup (right.map nI)), o6, o7, o8, o9, none])
    ⟨st3, none, none, none, none, rfl, rfl⟩ (fun i y ρ T _ ⟨st4, o6, o7, o8, o9, eT, eρ⟩ => by
      subst eT eρ
      obtain ⟨p7, p8, p9, st5, ev⟩ := runs_turn (h.set st4) a1 a2 (ds := ds) (by omega) (right := right) (by omega) (show 31 ≤ m by omega) (o4 := some (nI x)) (o6 := some (nI y)) (o7 := o7) (o8 := o8) (o9 := o9) (o10 := none)
      rw [e5] at ev
      exact ⟨_, _, .inl ev, st5, some (nI y), p7, p8, p9, rfl, rfl⟩)
  subst eT eρ
  refine ⟨st4, ?_⟩
  rw [call_at lk__law_runs_hold rfl, run_at rfl]
  have f := h.fin0 st4 (v := .bl true) (Nat.zero_le _)
  have r5 : ∀ S, rg1 (.int 5) S = .ok (.fix ((List.range 5).map nI)) S := fun S => rg1_n (S := S) (k := 5) (by omega)
  simp only [d__law_runs_hold]
  simp [e0, la, len_labs, e1, e2, e3, r5, e4]
  exact f
end
end Q74
end
section
set_option Elab.async false
set_option linter.all false
set_option maxRecDepth 100000
set_option maxHeartbeats 1600000
namespace Q74
open PySem Pz
section
variable {M N : Mach} {S T : Store} {m n : Nat} {st : DSt}
theorem c__law_start (ns : List Int) (hm : 1 ≤ m) : ∃ st : DSt, ((cfg prog m).call "_law_start" [.frz (ns.map .int)] []).finK [] = .ok (.cell 0) [st.po] := by
  obtain ⟨m, rfl, hk⟩ := up hm
  obtain ⟨ρ', T, e1, s, o, eT, eρ⟩ := walk_iT (c := cfg prog m) (j := 2) (b := l__law_start_1) (l := ns) (e := PV.int) (ρ := [some (.frz (ns.map .int)), some (.int 7), none]) (S := [])
    (fun i ρ T => ∃ (s : Nat) (o : Option PV), T = [] ∧ ρ = [some (.frz (ns.map .int)), some (.int (s : Nat)), o]) ⟨7, none, rfl, rfl⟩ (fun i x ρ T _ ⟨s, o, eT, eρ⟩ => by
      subst eT eρ
      have e0 : 0 ≤ (((s : Nat) : Int) * 48271 + x) % 2147483629 := Int.emod_nonneg _ (by decide)
      obtain ⟨s', hs'⟩ := Int.eq_ofNat_of_zero_le (show 0 ≤ (((s : Nat) : Int) * 48271 + x) % 2147483629 + 1 by omega)
      refine ⟨[some (.frz (ns.map .int)), some (.int (s' : Nat)), some (.int x)], [], .inl ?_, s', some (.int x), rfl, rfl⟩
      simp only [l__law_start_1]
      simp [bm1, bm2, hs'])
  subst eT eρ
  refine ⟨⟨ns, 0, 0, s⟩, ?_⟩
  rw [call_at lk__law_start rfl, run_at rfl]
  simp only [d__law_start]
  simp [e1]
  show (R.ok (PV.cell 0) [DSt.po ⟨ns, 0, 0, s⟩]).finK [] = _
  unfold R.finK
  show (if _ then R.ok (PV.cell 0) ([] ++ [DSt.po ⟨ns, 0, 0, s⟩]) else R.ok (PV.cell 0) [DSt.po ⟨ns, 0, 0, s⟩]) = _
  split <;> rfl
theorem law_ok (k : Nat) (hk : 60 ≤ k) (ns : List Int) : ∃ S, d_law.run (cfg prog k) [.frz (ns.map .int)] [] = .ok (.bl true) S := by
  obtain ⟨st, e0⟩ := c__law_start (m := k) ns (by omega)
  have h : At [st.po] 0 st := ⟨rfl, by show max st.po.top 0 = 0; rw [st.top]; rfl⟩
  have e5 : ∀ x y : DSt, ([st.po].set 0 x.po).set 0 y.po = [st.po].set 0 y.po := fun _ _ => rfl
  obtain ⟨ρ', T, e1, st1, o, eT, eρ⟩ := walk_iT (c := cfg prog k) (j := 2) (b := l_law_1) (l := List.range 2) (e := nI) (ρ := [some (.frz (ns.map .int)), some (.cell 0), none]) (S := [st.po])
    (fun i ρ T => ∃ (st1 : DSt) (o : Option PV), T = [st.po].set 0 st1.po ∧ ρ = [some (.frz (ns.map .int)), some (.cell 0), o]) ⟨st, none, rfl, rfl⟩ (fun i x ρ T _ ⟨st1, o, eT, eρ⟩ => by
      subst eT eρ
      obtain ⟨st2, a1⟩ := c__law_states_hold (m := k) (h.set st1) (by omega)
      rw [e5] at a1
      obtain ⟨st3, a2⟩ := c__law_pairs_hold (m := k) (h.set st2) (by omega)
      rw [e5] at a2
      obtain ⟨st4, a3⟩ := c__law_runs_hold (m := k) (h.set st3) (by omega)
      rw [e5] at a3
      refine ⟨[some (.frz (ns.map .int)), some (.cell 0), some (nI x)], [st.po].set 0 st4.po, .inl ?_, st4, some (nI x), rfl, rfl⟩
      simp only [l_law_1]
      simp [-List.set_cons_zero, a1, a2, a3]
      rfl)
  subst eT eρ
  refine ⟨[st.po].set 0 st1.po, ?_⟩
  rw [run_at rfl]
  have r2 : ∀ S, rg1 (.int 2) S = .ok (.fix ((List.range 2).map nI)) S := fun S => rg1_n (S := S) (k := 2) (by omega)
  simp only [d_law]
  simp [e0, r2, e1]
end
end Q74
end
theorem PySem.Challenge.cw_treesforetold_k74_papers_at_marked_machi_holds : PySem.Challenge.rw_treesforetold_k74_papers_at_marked_machi.Holds := by
  exact Q74.holds_of 100 ⟨rfl, by decide, by decide⟩ fun ns _ => Q74.law_ok 100 (by decide) ns
