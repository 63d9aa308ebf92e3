import PyProof.Rows.All
import Wide.All
import OpenK.AllK
import Wide.FinOn
import KE.SortData
import KE.DataMinMax
import HandS.ForMost
import HandS.IsInst
import HandS.TupAny
import HandS.Deep
import HandS.Flow
import HandS.Conv
import HandS.TupMul
import HandS.Strs
import PyProof.TupleOfStr
import PyProof.FactsAll.tuple_0
import PyProof.FactsAll.tuple_1
import PyProof.FactsAll.tuple_2
import HandS.Exc
import HandS.ExcOwn
import HandS.TryMany
import HandS.WordsExc
import HandS.Defaults
import HandS.Walk
import HandS.Zip
import HandS.Wide
import HandS.Dict
import HandS.DictComp
import HandS.Style
import KE.GoesMore
import KE.GoesZip
import HandS.HeadHook1
import HandS.Text
import PyProof.AutoSeq1
import KE.KDictZip
import HandS.Keys
import HandS.HeadHook4
import HandS.SetKeys
import HandS.TupSets
import HandS.SetFor
import HandS.SetBool
import HandS.More
import HandS.Sort
import KE.KDictSum
import KE.KDictList
import KE.KStateDown
import Lean
import HandS.Head0
import HandS.Head1
import HandS.Head2
import HandS.HeadEnd
import HandS.HeadHook2
import PyProof.P3Eq
import PySem.Challenge.RW_faulttrees_k08_lists_recognized
set_option Elab.async false
set_option linter.all false
set_option maxRecDepth 100000
set_option maxHeartbeats 0
/-! FtSem: an own language for the subset of Python that the program and the laws use, with its evaluator over PyData. -/
namespace Ft
open PySem
abbrev D := PyData
inductive Err where
  | exc (n : Str)
  | stuck
abbrev R (α : Type) := Except Err α
def bindR {α β : Type} (x : R α) (f : α → R β) : R β := match x with
  | .ok a => f a
  | .error e => .error e
@[simp] theorem bindR_ok {α β : Type} (a : α) (f : α → R β) : bindR (.ok a) f = f a := rfl
@[simp] theorem bindR_error {α β : Type} (e : Err) (f : α → R β) : bindR (.error e) f = .error e := rfl
def stk {α : Type} : R α := .error .stuck
/-- behind an operation that raises nothing -/
def bindC {α β : Type} (x : R α) (f : α → R β) : R β := match x with
  | .ok a => f a
  | .error _ => stk
@[simp] theorem bindC_ok {α β : Type} (a : α) (f : α → R β) : bindC (.ok a) f = f a := rfl
@[simp] theorem bindC_error {α β : Type} (e : Err) (f : α → R β) : bindC (.error e) f = stk := rfl
inductive Cell where
  | no
  | im (d : D)
  | mu (ds : List D)
  | rf (ds : List D)
  | di (kvs : List (Sum Int Str × D))
abbrev Env := List Cell
inductive Tg where
  | one (i : Nat)
  | two (i j : Nat)
inductive Bi where
  | add | sub | mul | fdiv | mod | shl | shr | band | bor
  deriving DecidableEq
inductive Cm where
  | eq | ne | lt | le | gt | ge | is | isnot | isin | notin
  deriving DecidableEq
inductive Ty where
  | int | bool | str | tuple | list
  deriving DecidableEq
inductive Pr where
  | len | all | any | sum | max | min | sorted | tuple | list | abs | int | str | lenset
  deriving DecidableEq
inductive Pr2 where
  | min | max | join | split | startswith | endswith | index
  deriving DecidableEq
/-- expressions, argument lists (nil, cons), tests (tt, tr and the connectives), iterables (sq, rng1 ..) -/
inductive E where
  | loc (i : Nat)
  | non
  | bl (b : Bool)
  | int (i : Int)
  | str (s : Str)
  | bin (o : Bi) (a b : E)
  | neg (a : E)
  | not (a : E)
  | and (a b : E)
  | or (a b : E)
  | cmp (c : Cm) (a b : E)
  | chain (c c' : Cm) (a b e : E)
  | ife (t a b : E)
  | tup (as : E)
  | lst (as : E)
  | nil
  | cons (e es : E)
  | call (f : Str) (as : E)
  | callS (f : Str) (i : Nat) (a as : E)
  | prim (p : Pr) (a : E)
  | prim2 (p : Pr2) (a b : E)
  | isi (a : E) (t : Ty)
  | ix (a i : E)
  | ixv (s : Nat) (i : E)
  | rep (as k : E)
  | slc (a lo hi : E)
  | rev (a : E)
  | pop (s : Nat) (i : E)
  | lc (t : Tg) (it c e : E)
  | lc2 (t : Tg) (it : E) (t2 : Tg) (it2 c e : E)
  | tt
  | tr (a : E)
  | sq (a : E)
  | rng1 (a : E)
  | rng2 (a b : E)
  | rng3 (a b c : E)
  | enum (a : E)
  | zip (a b : E)
  | lrng (a : E)
  | dget (s : Nat) (i : E)
  | lcv (t : Tg) (s : Nat) (c e : E)
  | trng (a : E)
  | orv (a b : E)
  | lzip (a b : E)
  | dzip (a b : E)
  | dlst (a : E)
  | sset (a : E)
  | dgetd (s : Nat) (i d : E)
  | dvals (s : Nat)
  | chain3 (c c' c2 : Cm) (a b e f : E)
/-- how a value is kept: a value; a list of one's own; a dict -/
inductive Md where
  | im | mu | di
  deriving DecidableEq
inductive S where
  | skip
  | seq (a b : S)
  | asg (i : Nat) (e : E)
  | asgF (i : Nat) (e : E)
  | par2 (i j : Nat) (fi fj : Bool) (a b : E)
  | par (is : List (Nat × Md)) (es : E)
  | asgZ (i : Nat) (e : E)
  | unp (i j : Nat) (e : E)
  | aug (i : Nat) (o : Bi) (e : E)
  | setx (s : Nat) (ix e : E)
  | augx (s : Nat) (o : Bi) (ix e : E)
  | app (s : Nat) (e : E)
  | ext (s : Nat) (e : E)
  | extT (s : Nat) (e : E)
  | asgD (i : Nat) (t : Tg) (it c k v : E)
  | ex (e : E)
  | ret (e : E)
  | ite (t : E) (a b : S)
  | for_ (t : Tg) (it : E) (b : S)
  | while_ (t : E) (b : S)
  | raise (n : Str)
  | tryr (e : E) (hs : List (Str × Str)) (ks : List Str)
inductive Res where
  | nx
  | rt (d : D)
/-- what own defs do: plain ones; ones with the list `state` as their second argument -/
structure Fns where
  f : Str → List D → R D
  g : Str → List D → List D → R (D × List D)
abbrev LIM : Nat := 1000000
/-! ### operations -/
def mulOk (i j : Int) : Prop := i.natAbs < 2 ^ 64 ∨ j.natAbs < 2 ^ 64 ∨ i.natAbs.log2 + j.natAbs.log2 < 1000000
instance (i j : Int) : Decidable (mulOk i j) := by unfold mulOk; infer_instance
def repD (xs : List D) : D → R (List D)
  | .int k => if xs.length * k.toNat ≤ LIM ∧ -(2 ^ 60) < k ∧ k < 2 ^ 60 then .ok (List.replicate k.toNat xs).flatten else stk
  | _ => stk
def binD : Bi → D → D → R D
  | .add, .int i, .int j => .ok (.int (i + j))
  | .add, .str a, .str b => if a.length + b.length ≤ LIM then .ok (.str (a ++ b)) else stk
  | .add, .list a, .list b => if a.length + b.length ≤ LIM then .ok (.list (a ++ b)) else stk
  | .add, .tuple a, .tuple b => if a.length + b.length ≤ LIM then .ok (.tuple (a ++ b)) else stk
  | .sub, .int i, .int j => .ok (.int (i - j))
  | .mul, .int i, .int j => if mulOk i j then .ok (.int (i * j)) else stk
  | .mul, .str a, .int n => if n = 0 then .ok (.str Str.empty) else if n = 1 then .ok (.str a) else stk
  | .mul, .tuple xs, .int k => if xs ≠ [] ∧ 1 ≤ k ∧ k ≤ 1000 ∧ xs.length ≤ 1000 then .ok (.tuple (List.replicate k.toNat xs).flatten) else stk
  | .fdiv, .int i, .int j => if 0 < j ∧ j.natAbs.log2 < 9000 then .ok (.int (i / j)) else stk
  | .mod, .int i, .int j => if 0 < j then .ok (.int (i % j)) else stk
  | .shl, .int i, .int j => if 0 ≤ j ∧ j ≤ LIM ∧ i.natAbs < 2 ^ 64 then .ok (.int (i * 2 ^ j.toNat)) else stk
  | .shr, .int i, .int j => if 0 ≤ j then .ok (.int (i / 2 ^ j.toNat)) else stk
  | .band, .int i, .int j => .ok (.int (Builtin.bitAnd i j))
  | .bor, .int i, .int j => .ok (.int (Builtin.bitOr i j))
  | _, _, _ => stk
/-- op= : ints alone -/
def augD (o : Bi) : D → D → R D
  | .int m, .int n => binD o (.int m) (.int n)
  | _, _ => stk
def strLt (a b : Str) : Bool := decide (a.cps.toList < b.cps.toList)
def strLe (a b : Str) : Bool := !decide (b.cps.toList < a.cps.toList)
/-- a scalar -/
def scalD : D → Bool
  | .none | .bool _ | .int _ | .str _ => true
  | _ => false
def eqD (x y : D) : R Bool := if (scalD x && scalD y) || (SeqAt.shaped x && SeqAt.shaped y) then .ok (PyData.eqv x y) else stk
def itemsD : D → R (List D)
  | .list xs => .ok xs
  | .tuple xs => .ok xs
  | _ => stk
def inD (x y : D) : R Bool := bindR (itemsD y) fun ys => if (scalD x && ys.all scalD) || (SeqAt.shaped x && SeqAt.shaped (.list ys)) then .ok (ys.any fun z => PyData.eqv z x) else stk
def cmpD : Cm → D → D → R Bool
  | .eq, x, y => eqD x y
  | .ne, x, y => bindR (eqD x y) fun b => .ok (!b)
  | .lt, .int i, .int j => .ok (decide (i < j))
  | .le, .int i, .int j => .ok (decide (i ≤ j))
  | .gt, .int i, .int j => .ok (decide (j < i))
  | .ge, .int i, .int j => .ok (decide (j ≤ i))
  | .lt, .str a, .str b => .ok (strLt a b)
  | .le, .str a, .str b => .ok (strLe a b)
  | .gt, .str a, .str b => .ok (strLt b a)
  | .ge, .str a, .str b => .ok (strLe b a)
  | .is, x, .none => .ok (match x with | .none => true | _ => false)
  | .isnot, x, .none => .ok (match x with | .none => false | _ => true)
  | .isin, x, y => inD x y
  | .notin, x, y => bindR (inD x y) fun b => .ok (!b)
  | _, _, _ => stk
def isTy : Ty → D → Bool
  | .int, .int _ => true
  | .int, .bool _ => true
  | .bool, .bool _ => true
  | .str, .str _ => true
  | .tuple, .tuple _ => true
  | .list, .list _ => true
  | _, _ => false
def truthD : D → R Bool
  | .none => .ok false
  | .bool b => .ok b
  | .int i => .ok (i != 0)
  | .str s => if s.length ≤ LIM then .ok (s.length != 0) else stk
  | .list xs => .ok (!xs.isEmpty)
  | .tuple xs => .ok (!xs.isEmpty)
  | .dict _ => stk
def boolsD : List D → R (List Bool)
  | [] => .ok []
  | .bool b :: r => bindR (boolsD r) fun bs => .ok (b :: bs)
  | _ :: _ => stk
def intsD : List D → R (List Int)
  | [] => .ok []
  | .int b :: r => bindR (intsD r) fun bs => .ok (b :: bs)
  | _ :: _ => stk
def strsD : List D → R (List Str)
  | [] => .ok []
  | .str b :: r => bindR (strsD r) fun bs => .ok (b :: bs)
  | _ :: _ => stk
def insS (x : Str) : List Str → List Str
  | [] => [x]
  | y :: r => if strLt y x then y :: insS x r else x :: y :: r
def sortS : List Str → List Str
  | [] => []
  | x :: r => insS x (sortS r)
def maxI : Int → List Int → Int
  | m, [] => m
  | m, x :: r => maxI (if x > m then x else m) r
def minI : Int → List Int → Int
  | m, [] => m
  | m, x :: r => minI (if x < m then x else m) r
def keyD : D → R (Sum Int Str)
  | .int i => .ok (.inl i)
  | .str s => .ok (.inr s)
  | _ => stk
def keysD : List D → R (List (Sum Int Str))
  | [] => .ok []
  | d :: r => bindR (keyD d) fun k => bindR (keysD r) fun ks => .ok (k :: ks)
def memK (k : Sum Int Str) : List (Sum Int Str) → Bool
  | [] => false
  | x :: r => decide (x = k) || memK k r
/-- how many different ones -/
def cntK : List (Sum Int Str) → Nat
  | [] => 0
  | k :: r => if memK k r then cntK r else cntK r + 1
/-- a tuple of texts -/
def rowK : D → R (List Str)
  | .tuple xs => strsD xs
  | _ => stk
def rowsK : List D → R (List (List Str))
  | [] => .ok []
  | d :: r => bindR (rowK d) fun k => bindR (rowsK r) fun ks => .ok (k :: ks)
def cntR : List (List Str) → Nat
  | [] => 0
  | k :: r => if k ∈ r then cntR r else cntR r + 1
def lensetL (xs : List D) : R D := match keysD xs with
  | .ok ks => if ks.length ≤ 1000 then .ok (.int (cntK ks : Nat)) else stk
  | .error _ => bindR (rowsK xs) fun ks => if ks.length ≤ 75 then .ok (.int (cntR ks : Nat)) else stk
/-- rows that can be sorted: tuples that are not empty, place by place of one kind -/
def rowsOk (xs : List D) : Bool := (xs.all fun d => xs.all fun d' => PySem.W.alike d d') && (xs.all fun d => match d with | .tuple (_ :: _) => decide (d.depth ≤ 60) | _ => false) && decide (xs.length ≤ LIM)
/-- the signs of a text -/
def charsS (s : Str) : List Str := s.cps.toList.map fun c => ⟨#[c]⟩
/-- rows, some of them empty -/
def rowsE (xs : List D) : Bool := (xs.all fun d => xs.all fun d' => PySem.W.alike d d') && (xs.all fun d => match d with | .tuple _ => decide (d.depth ≤ 60) | _ => false) && decide (xs.length ≤ LIM)
def sortedD (xs : List D) : R D := match strsD xs with
  | .ok ss => if ss.length < 64 then .ok (.list ((sortS ss).map .str)) else stk
  | .error _ => if rowsOk xs then .ok (.list (xs.mergeSort (PySem.W.dataLe false id))) else (match xs with | [.tuple []] => .ok (.list xs) | .tuple [] :: r => (if rowsE (.tuple [] :: r) then .ok (.list ((.tuple [] :: r).mergeSort (PySem.W.dataLe false id))) else stk) | _ => stk)
/-- sorted of a tuple: texts alone -/
def sortedT (xs : List D) : R D := match strsD xs with
  | .ok ss => if ss.length < 64 then .ok (.list ((sortS ss).map .str)) else stk
  | .error _ => stk
def minID : D → R D
  | .list xs => bindR (intsD xs) fun ns => (match ns with | [] => stk | n :: r => .ok (.int (minI n r)))
  | _ => stk
def minLD (xs : List D) : R D := match intsD xs with
  | .ok ns => (match ns with | [] => stk | n :: r => .ok (.int (minI n r)))
  | .error _ => (match xs with | [] => stk | x :: r => if rowsOk xs then .ok (PySem.W.minD x r) else stk)
def primD : Pr → D → R D
  | .len, .list xs => .ok (.int (xs.length : Nat))
  | .len, .tuple xs => .ok (.int (xs.length : Nat))
  | .len, .str s => if s.length ≤ LIM then .ok (.int (s.length : Nat)) else stk
  | .all, .list xs => bindR (boolsD xs) fun bs => .ok (.bool (bs.all id))
  | .any, .list xs => bindR (boolsD xs) fun bs => .ok (.bool (bs.any id))
  | .sum, .list xs => bindR (intsD xs) fun ns => .ok (.int ns.sum)
  | .sum, .tuple xs => bindR (intsD xs) fun ns => .ok (.int ns.sum)
  | .max, .list xs => bindR (intsD xs) fun ns => (match ns with | [] => stk | n :: r => .ok (.int (maxI n r)))
  | .min, .list xs => minLD xs
  | .sorted, .list xs => sortedD xs
  | .sorted, .tuple xs => sortedT xs
  | .tuple, .list xs => .ok (.tuple xs)
  | .tuple, .str s => if s.length ≤ LIM then .ok (.tuple ((charsS s).map .str)) else stk
  | .tuple, .tuple xs => .ok (.tuple xs)
  | .list, .list xs => .ok (.list xs)
  | .list, .tuple xs => .ok (.list xs)
  | .abs, .int i => .ok (.int (if i < 0 then -i else i))
  | .int, .int i => .ok (.int i)
  | .int, .bool b => .ok (.int (if b then 1 else 0))
  | .str, .int i => if i.natAbs.log2 < 1920 then .ok (.str (toString i)) else stk
  | .lenset, .list xs => lensetL xs
  | .lenset, .tuple xs => bindR (keysD xs) fun ks => if ks.length ≤ 1000 then .ok (.int (cntK ks : Nat)) else stk
  | _, _ => stk
/-- the distinct texts -/
def dedS : List Str → List Str
  | [] => []
  | x :: r => if x ∈ r then dedS r else x :: dedS r
def ssetD : D → R D
  | .tuple xs => bindR (strsD xs) fun ys => if ys.length < 64 then .ok (.list ((sortS (dedS ys)).map .str)) else stk
  | _ => stk
def prim2D : Pr2 → D → D → R D
  | .min, .int i, .int j => .ok (.int (if j < i then j else i))
  | .max, .int i, .int j => .ok (.int (if j > i then j else i))
  | .join, .str a, .list xs => bindR (strsD xs) fun ys => if (ys.map (·.length)).sum + ys.length * a.length ≤ 16777216 then .ok (.str (Txt.join a ys)) else stk
  | .join, .str a, .tuple xs => bindR (strsD xs) fun ys => if (ys.map (·.length)).sum + ys.length * a.length ≤ 16777216 then .ok (.str (Txt.join a ys)) else stk
  | .index, .tuple xs, .str w => bindR (strsD xs) fun ys => if w ∈ ys then .ok (.int (ys.idxOf w : Nat)) else stk
  | _, _, _ => stk
def atD {α : Type} (xs : List α) (i : Int) : R α :=
  if 0 ≤ i then (match xs[i.toNat]? with | some x => .ok x | none => stk)
  else if -(xs.length : Int) ≤ i then (match xs[(i + xs.length).toNat]? with | some x => .ok x | none => stk) else stk
def ixD : D → D → R D
  | .list xs, .int i => atD xs i
  | .tuple xs, .int i => atD xs i
  | .str s, .int i => if s.length ≤ LIM then bindR (atD s.cps.toList i) fun c => .ok (.str ⟨#[c]⟩) else stk
  | _, _ => stk
/-- a slice's end -/
def cutIx (n : Nat) (d : Nat) : Option Int → Nat
  | none => d
  | some i => if i < 0 then (i + n).toNat else min i.toNat n
def cutL {α : Type} (xs : List α) (lo hi : Option Int) : List α :=
  (xs.drop (cutIx xs.length 0 lo)).take (cutIx xs.length xs.length hi - cutIx xs.length 0 lo)
def slcD (lo hi : Option Int) : D → R D
  | .list xs => .ok (.list (cutL xs lo hi))
  | .tuple xs => .ok (.tuple (cutL xs lo hi))
  | .str s => if s.length ≤ LIM then .ok (.str ⟨(cutL s.cps.toList lo hi).toArray⟩) else stk
  | _ => stk
def revD : D → R D
  | .tuple xs => .ok (.tuple xs.reverse)
  | .list xs => .ok (.list xs.reverse)
  | _ => stk
/-! ### the environment -/
def rd (ρ : Env) (i : Nat) : R (D × Env) := match ρ[i]? with
  | some (.im d) => .ok (d, ρ)
  | some (.mu ds) => .ok (.list ds, ρ.set i (.im (.list ds)))
  | _ => stk
def peek (ρ : Env) (i : Nat) : R (D × Env) := match ρ[i]? with
  | some (.im d) => .ok (d, ρ)
  | some (.mu ds) => .ok (.list ds, ρ)
  | some (.rf ds) => .ok (.list ds, ρ)
  | _ => stk
/-- a list that is changed -/
def lstAt (ρ : Env) (s : Nat) : R (List D × (List D → Cell)) := match ρ[s]? with
  | some (.mu ds) => .ok (ds, .mu)
  | some (.rf ds) => .ok (ds, .rf)
  | _ => stk
def dicAt (ρ : Env) (s : Nat) : R (List (Sum Int Str × D)) := match ρ[s]? with
  | some (.di kvs) => .ok kvs
  | _ => stk
def natIx (n : Nat) (i : Int) : R Nat := if 0 ≤ i ∧ i < n ∧ i < 2 ^ 60 then .ok i.toNat else stk
def pk : E → Env → R (D × Env) → R (D × Env)
  | .loc i, ρ, _ => peek ρ i
  | _, _, r => r
def tgt : Tg → D → Env → R Env
  | .one i, d, ρ => .ok (ρ.set i (.im d))
  | .two i j, .tuple [x, y], ρ => .ok ((ρ.set i (.im x)).set j (.im y))
  | _, _, _ => stk
def clr : Tg → Env → Env
  | .one i, ρ => ρ.set i .no
  | .two i j, ρ => (ρ.set j .no).set i .no
def imOnly : Cell → Cell
  | .im d => .im d
  | _ => .no
/-- the slots of a comprehension's own names as they were -/
def back : Tg → Env → Env → Env
  | .one i, ρ, ρ' => ρ'.set i (imOnly (ρ.getD i .no))
  | .two i j, ρ, ρ' => (ρ'.set i (imOnly (ρ.getD i .no))).set j (imOnly (ρ.getD j .no))
/-- nothing is raised within a comprehension -/
def calmR {α : Type} : R α → R α
  | .ok a => .ok a
  | .error _ => stk
def lcL (t : Tg) (c : Env → R (Bool × Env)) (e : Env → R (D × Env)) : List D → Env → R (List D × Env)
  | [], ρ => .ok ([], ρ)
  | x :: xs, ρ => bindC (tgt t x ρ) fun ρ1 => bindR (c ρ1) fun (b, ρ2) =>
      if b then bindR (e ρ2) fun (d, ρ3) => bindR (lcL t c e xs (clr t ρ3)) fun (ds, ρ4) => .ok (d :: ds, ρ4) else lcL t c e xs (clr t ρ2)
def lc2L (t : Tg) (inner : Env → R (List D × Env)) : List D → Env → R (List D × Env)
  | [], ρ => .ok ([], ρ)
  | x :: xs, ρ => bindC (tgt t x ρ) fun ρ1 => bindR (inner ρ1) fun (ds, ρ2) => bindR (lc2L t inner xs (clr t ρ2)) fun (es, ρ3) => .ok (ds ++ es, ρ3)
def putA (kvs : List (Sum Int Str × D)) (k : Sum Int Str) (d : D) : List (Sum Int Str × D) :=
  if (kvs.any fun kv => decide (kv.1 = k)) = true then kvs.map (fun kv => if kv.1 = k then (kv.1, d) else kv) else kvs ++ [(k, d)]
def valA (kvs : List (Sum Int Str × D)) (k : Sum Int Str) : Option D := (kvs.find? fun kv => decide (kv.1 = k)).map (·.2)
def dcL (t : Tg) (c : Env → R (Bool × Env)) (ek ev : Env → R (D × Env)) : List D → Env → List (Sum Int Str × D) → R (List (Sum Int Str × D) × Env)
  | [], ρ, acc => .ok (acc, ρ)
  | x :: xs, ρ, acc => bindC (tgt t x ρ) fun ρ1 => bindR (c ρ1) fun (b, ρ2) =>
      if b then bindR (ek ρ2) fun (y, ρ3) => bindC (keyD y) fun k => bindR (ev ρ3) fun (d, ρ4) => dcL t c ek ev xs (clr t ρ4) (putA acc k d) else dcL t c ek ev xs (clr t ρ2) acc
def enumL : Nat → List D → List D
  | _, [] => []
  | n, x :: r => .tuple [.int (n : Nat), x] :: enumL (n + 1) r
def zipL : List D → List D → List D
  | x :: xs, y :: ys => .tuple [x, y] :: zipL xs ys
  | _, _ => []
def rngL (lo : Int) (c : Int) : Nat → List D
  | 0 => []
  | n + 1 => .int lo :: rngL (lo + c) c n
def rngD (lo hi c : Int) : R (List D) :=
  if -(2 ^ 60) < lo ∧ lo < 2 ^ 60 ∧ -(2 ^ 60) < hi ∧ hi < 2 ^ 60 then
    (if c = 1 then .ok (rngL lo 1 (hi - lo).toNat) else if c = -1 then .ok (rngL lo (-1) (lo - hi).toNat) else stk)
  else stk
def rngDD : D → D → D → R (List D)
  | .int i, .int j, .int k => rngD i j k
  | _, _, _ => stk
def lrngD : D → R (List D)
  | .int n => if -(2 ^ 60) < n ∧ n ≤ LIM then .ok (rngL 0 1 n.toNat) else stk
  | _ => stk
def iterD : D → R (List D)
  | .list xs => .ok xs
  | .tuple xs => .ok xs
  | .str s => .ok (s.cps.toList.map fun c => .str ⟨#[c]⟩)
  | _ => stk
/-- enumerate, zip: of two alike -/
def zipD : D → D → R (List D)
  | .list xs, .list ys => .ok (zipL xs ys)
  | .tuple xs, .tuple ys => .ok (zipL xs ys)
  | .tuple xs, .list ys => .ok (zipL xs ys)
  | _, _ => stk
/-- list(zip(..)), dict(zip(..)): of two tuples -/
def lzipD : D → D → R (List D)
  | .tuple xs, .tuple ys => if xs.length ≤ 1000 then .ok (zipL xs ys) else stk
  | _, _ => stk
def optI : D → R Int
  | .int i => .ok i
  | _ => stk
mutual
def evE (F : Fns) : E → Env → R (D × Env)
  | .loc i, ρ => rd ρ i
  | .non, ρ => .ok (.none, ρ)
  | .bl b, ρ => .ok (.bool b, ρ)
  | .int i, ρ => .ok (.int i, ρ)
  | .str s, ρ => .ok (.str s, ρ)
  | .bin o a b, ρ => bindR (evE F a ρ) fun (x, ρ1) => bindR (evE F b ρ1) fun (y, ρ2) => bindC (binD o x y) fun z => .ok (z, ρ2)
  | .neg a, ρ => bindR (evE F a ρ) fun (x, ρ1) => (match x with | .int i => .ok (.int (-i), ρ1) | _ => stk)
  | .not a, ρ => bindR (evE F a ρ) fun (x, ρ1) => bindC (truthD x) fun b => .ok (.bool (!b), ρ1)
  | .and a b, ρ => bindR (evE F a ρ) fun (x, ρ1) => (match x with | .bool true => evE F b ρ1 | .bool false => .ok (.bool false, ρ1) | _ => stk)
  | .or a b, ρ => bindR (evE F a ρ) fun (x, ρ1) => (match x with | .bool false => evE F b ρ1 | .bool true => .ok (.bool true, ρ1) | _ => stk)
  | .cmp c a b, ρ => bindR (evE F a ρ) fun (x, ρ1) => bindR (pk b ρ1 (evE F b ρ1)) fun (y, ρ2) => bindC (cmpD c x y) fun z => .ok (.bool z, ρ2)
  | .chain c c' a b e, ρ => bindR (evE F a ρ) fun (x, ρ1) => bindR (evE F b ρ1) fun (y, ρ2) => bindC (cmpD c x y) fun z =>
      if z then bindR (evE F e ρ2) fun (u, ρ3) => bindC (cmpD c' y u) fun z' => .ok (.bool z', ρ3) else .ok (.bool false, ρ2)
  | .chain3 c c' c2 a b e f, ρ => bindR (evE F a ρ) fun (x, ρ1) => bindR (evE F b ρ1) fun (y, ρ2) => bindC (cmpD c x y) fun z =>
      if z then bindR (evE F e ρ2) fun (u, ρ3) => bindC (cmpD c' y u) fun z' => (if z' then bindR (evE F f ρ3) fun (v, ρ4) => bindC (cmpD c2 u v) fun z2 => .ok (.bool z2, ρ4) else .ok (.bool false, ρ3)) else .ok (.bool false, ρ2)
  | .ife t a b, ρ => bindR (evT F t ρ) fun (c, ρ1) => if c then evE F a ρ1 else evE F b ρ1
  | .tup as, ρ => bindR (evA F as ρ) fun (ds, ρ1) => .ok (.tuple ds, ρ1)
  | .lst as, ρ => bindR (evA F as ρ) fun (ds, ρ1) => .ok (.list ds, ρ1)
  | .call f as, ρ => bindR (evA F as ρ) fun (ds, ρ1) => bindR (F.f f ds) fun d => .ok (d, ρ1)
  | .callS f i a as, ρ => bindC (lstAt ρ i) fun _ => bindR (evE F a ρ) fun (d0, ρ0) => bindR (evA F as ρ0) fun (ds, ρ1) => bindC (lstAt ρ1 i) fun (ss, mk) => bindC (F.g f (d0 :: ds) ss) fun (d, ss') => .ok (d, ρ1.set i (mk ss'))
  | .prim p a, ρ => bindR (pk a ρ (evE F a ρ)) fun (x, ρ1) => bindC (primD p x) fun z => .ok (z, ρ1)
  | .prim2 p a b, ρ => bindR (evE F a ρ) fun (x, ρ1) => bindR (evE F b ρ1) fun (y, ρ2) => bindC (prim2D p x y) fun z => .ok (z, ρ2)
  | .isi a t, ρ => bindR (pk a ρ (evE F a ρ)) fun (x, ρ1) => .ok (.bool (isTy t x), ρ1)
  | .ix a i, ρ => bindR (evE F a ρ) fun (x, ρ1) => bindR (evE F i ρ1) fun (y, ρ2) => bindC (ixD x y) fun z => .ok (z, ρ2)
  | .ixv s i, ρ => bindC (peek ρ s) fun _ => bindR (evE F i ρ) fun (y, ρ1) => bindC (peek ρ1 s) fun (x, ρ2) => bindC (ixD x y) fun z => .ok (z, ρ2)
  | .dget s i, ρ => bindC (dicAt ρ s) fun _ => bindR (evE F i ρ) fun (y, ρ1) => bindC (keyD y) fun k => bindC (dicAt ρ1 s) fun kvs => (match valA kvs k with | some d => .ok (d, ρ1) | none => stk)
  | .sset a, ρ => bindR (evE F a ρ) fun (x, ρ1) => bindC (ssetD x) fun z => .ok (z, ρ1)
  | .dvals s, ρ => bindC (dicAt ρ s) fun kvs => bindC (strsD (kvs.map (·.2))) fun is => if is.length < 64 then .ok (.list ((sortS is).map .str), ρ) else stk
  | .dgetd s i d, ρ => bindC (dicAt ρ s) fun _ => bindR (evE F i ρ) fun (y, ρ1) => bindC (keyD y) fun k => bindR (evE F d ρ1) fun (z, ρ2) => bindC (dicAt ρ2 s) fun kvs => .ok ((valA kvs k).getD z, ρ2)
  | .rep as k, ρ => bindR (evA F as ρ) fun (xs, ρ1) => bindR (evE F k ρ1) fun (y, ρ2) => bindC (repD xs y) fun zs => .ok (.list zs, ρ2)
  | .slc a lo hi, ρ => bindR (evE F a ρ) fun (x, ρ1) => bindR (evO F lo ρ1) fun (l, ρ2) => bindR (evO F hi ρ2) fun (h, ρ3) => bindC (slcD l h x) fun z => .ok (z, ρ3)
  | .rev a, ρ => bindR (evE F a ρ) fun (x, ρ1) => bindC (revD x) fun z => .ok (z, ρ1)
  | .lrng a, ρ => bindR (evE F a ρ) fun (x, ρ1) => bindC (lrngD x) fun z => .ok (.list z, ρ1)
  | .pop s i, ρ => bindC (lstAt ρ s) fun _ => bindR (evE F i ρ) fun (y, ρ1) => bindC (optI y) fun k => bindC (lstAt ρ1 s) fun (ds, mk) => bindC (natIx ds.length k) fun j =>
      bindC (atD ds k) fun d => .ok (d, ρ1.set s (mk (ds.eraseIdx j)))
  | .lc t it c e, ρ => bindR (evI F it ρ) fun (xs, ρ1) => if xs.length < LIM then
      bindR (calmR (lcL t (evT F c) (evE F e) xs (clr t ρ1))) fun (ds, ρ2) => .ok (.list ds, back t ρ1 ρ2) else stk
  | .lcv t s c e, ρ => (match ρ[s]? with
    | some (.mu xs) => if xs.length < LIM then bindR (calmR (lcL t (evT F c) (evE F e) xs (clr t (ρ.set s .no)))) fun (ds, ρ2) => .ok (.list ds, (back t (ρ.set s .no) ρ2).set s (.mu xs)) else stk
    | _ => stk)
  | .lc2 t it t2 it2 c e, ρ => bindR (evI F it ρ) fun (xs, ρ1) =>
      bindR (calmR (lc2L t (fun ρ2 => bindR (evI F it2 ρ2) fun q => lcL t2 (evT F c) (evE F e) q.1 (clr t2 q.2)) xs (clr t (clr t2 ρ1)))) fun q =>
        if q.1.length < LIM then .ok (.list q.1, back t2 ρ1 (back t (clr t2 ρ1) q.2)) else stk
  | .trng a, ρ => bindR (evE F a ρ) fun (x, ρ1) => bindC (lrngD x) fun z => .ok (.tuple z, ρ1)
  | .orv a b, ρ => bindR (evE F a ρ) fun (x, ρ1) => bindC (truthD x) fun t => if t then .ok (x, ρ1) else evE F b ρ1
  | .lzip a b, ρ => bindR (evE F a ρ) fun (x, ρ1) => bindR (evE F b ρ1) fun (y, ρ2) => bindC (lzipD x y) fun z => .ok (.list z, ρ2)
  | _, _ => stk
def evA (F : Fns) : E → Env → R (List D × Env)
  | .nil, ρ => .ok ([], ρ)
  | .cons e es, ρ => bindR (evE F e ρ) fun (d, ρ1) => bindR (evA F es ρ1) fun (ds, ρ2) => .ok (d :: ds, ρ2)
  | _, _ => stk
def evO (F : Fns) : E → Env → R (Option Int × Env)
  | .nil, ρ => .ok (none, ρ)
  | .tr a, ρ => bindR (evE F a ρ) fun (x, ρ1) => bindC (optI x) fun i => .ok (some i, ρ1)
  | _, _ => stk
def evT (F : Fns) : E → Env → R (Bool × Env)
  | .tt, ρ => .ok (true, ρ)
  | .not a, ρ => bindR (evT F a ρ) fun (b, ρ1) => .ok (!b, ρ1)
  | .and a b, ρ => bindR (evT F a ρ) fun (x, ρ1) => if x then evT F b ρ1 else .ok (false, ρ1)
  | .or a b, ρ => bindR (evT F a ρ) fun (x, ρ1) => if x then .ok (true, ρ1) else evT F b ρ1
  | .ife t a b, ρ => bindR (evT F t ρ) fun (c, ρ1) => if c then evT F a ρ1 else evT F b ρ1
  | .tr a, ρ => bindR (pk a ρ (evE F a ρ)) fun (x, ρ1) => bindC (truthD x) fun b => .ok (b, ρ1)
  | _, _ => stk
def evI (F : Fns) : E → Env → R (List D × Env)
  | .sq a, ρ => bindR (evE F a ρ) fun (x, ρ1) => bindC (iterD x) fun xs => .ok (xs, ρ1)
  | .rng1 a, ρ => bindR (evE F a ρ) fun (x, ρ1) => bindC (rngDD (.int 0) x (.int 1)) fun xs => .ok (xs, ρ1)
  | .rng2 a b, ρ => bindR (evE F a ρ) fun (x, ρ1) => bindR (evE F b ρ1) fun (y, ρ2) => bindC (rngDD x y (.int 1)) fun xs => .ok (xs, ρ2)
  | .rng3 a b c, ρ => bindR (evE F a ρ) fun (x, ρ1) => bindR (evE F b ρ1) fun (y, ρ2) => bindR (evE F c ρ2) fun (z, ρ3) => bindC (rngDD x y z) fun xs => .ok (xs, ρ3)
  | .enum a, ρ => bindR (evE F a ρ) fun (x, ρ1) => bindC (itemsD x) fun xs => .ok (enumL 0 xs, ρ1)
  | .zip a b, ρ => bindR (evE F a ρ) fun (x, ρ1) => bindR (evE F b ρ1) fun (y, ρ2) => bindC (zipD x y) fun xs => .ok (xs, ρ2)
  | _, _ => stk
end
/-- pairs to a dict -/
def dicL : List D → List (Sum Int Str × D) → R (List (Sum Int Str × D))
  | [], acc => .ok acc
  | x :: r, acc => (match x with | .tuple [k, v] => bindC (keyD k) fun k' => dicL r (putA acc k' v) | _ => stk)
def evD (F : Fns) : E → Env → R (List (Sum Int Str × D) × Env)
  | .dzip a b, ρ => bindR (evE F a ρ) fun (x, ρ1) => bindR (evE F b ρ1) fun (y, ρ2) => bindC (lzipD x y) fun z => bindC (dicL z []) fun kvs => .ok (kvs, ρ2)
  | .dlst a, ρ => bindR (evE F a ρ) fun (x, ρ1) => (match x with | .list z => if z.length ≤ 1000 then bindC (dicL z []) fun kvs => .ok (kvs, ρ1) else stk | _ => stk)
  | _, _ => stk
/-! ### statements -/
def sto (fresh : Bool) (d : D) : R Cell := if fresh then (match d with | .list ds => .ok (.mu ds) | _ => stk) else .ok (.im d)
def evX (F : Fns) : Md → E → Env → R (Cell × Env)
  | .im, e, ρ => bindR (evE F e ρ) fun (d, ρ1) => .ok (.im d, ρ1)
  | .mu, e, ρ => bindR (evE F e ρ) fun (d, ρ1) => bindC (sto true d) fun c => .ok (c, ρ1)
  | .di, e, ρ => bindR (evD F e ρ) fun (kvs, ρ1) => .ok (.di kvs, ρ1)
def evP (F : Fns) : List (Nat × Md) → E → Env → R (List Cell × Env)
  | [], .nil, ρ => .ok ([], ρ)
  | q :: qs, .cons e es, ρ => bindR (evX F q.2 e ρ) fun (c, ρ1) => bindR (evP F qs es ρ1) fun (cs, ρ2) => .ok (c :: cs, ρ2)
  | _, _, _ => stk
def setsE : List (Nat × Md) → List Cell → Env → Env
  | q :: qs, c :: cs, ρ => setsE qs cs (ρ.set q.1 c)
  | _, _, ρ => ρ
def forL (t : Tg) (b : Env → R (Res × Env)) : List D → Env → R (Res × Env)
  | [], ρ => .ok (.nx, ρ)
  | x :: xs, ρ => bindC (tgt t x ρ) fun ρ1 => bindR (b ρ1) fun (r, ρ2) => (match r with | .nx => forL t b xs ρ2 | .rt d => .ok (.rt d, ρ2))
def whileL (c : Env → R (Bool × Env)) (b : Env → R (Res × Env)) : Nat → Env → R (Res × Env)
  | 0, _ => stk
  | n + 1, ρ => bindR (c ρ) fun (t, ρ1) => if t then bindR (b ρ1) fun (r, ρ2) => (match r with | .nx => whileL c b n ρ2 | .rt d => .ok (.rt d, ρ2)) else .ok (.nx, ρ1)
def caught (n : Str) : List (Str × Str) → Option Str
  | [] => none
  | (x, t) :: r => if x = n then some t else caught n r
def evS (F : Fns) (fuel : Nat) : S → Env → R (Res × Env)
  | .skip, ρ => .ok (.nx, ρ)
  | .seq a b, ρ => bindR (evS F fuel a ρ) fun (r, ρ1) => (match r with | .nx => evS F fuel b ρ1 | .rt d => .ok (.rt d, ρ1))
  | .asg i e, ρ => bindR (evE F e ρ) fun (d, ρ1) => .ok (.nx, ρ1.set i (.im d))
  | .asgF i e, ρ => bindR (evE F e ρ) fun (d, ρ1) => bindC (sto true d) fun c => .ok (.nx, ρ1.set i c)
  | .par2 i j fi fj a b, ρ => bindR (evE F a ρ) fun (x, ρ1) => bindC (sto fi x) fun c => bindR (evE F b ρ1) fun (y, ρ2) => bindC (sto fj y) fun c' =>
      .ok (.nx, (ρ2.set i c).set j c')
  | .par is es, ρ => bindR (evP F is es ρ) fun (cs, ρ1) => .ok (.nx, setsE is cs ρ1)
  | .asgZ i e, ρ => bindR (evD F e ρ) fun (kvs, ρ1) => .ok (.nx, ρ1.set i (.di kvs))
  | .unp i j e, ρ => bindR (evE F e ρ) fun (d, ρ1) => bindC (tgt (.two i j) d ρ1) fun ρ2 => .ok (.nx, ρ2)
  | .aug i o e, ρ => (match ρ[i]? with
    | some (.im x) => bindR (evE F e ρ) fun (y, ρ1) => bindC (augD o x y) fun z => .ok (.nx, ρ1.set i (.im z))
    | _ => stk)
  | .setx s ix e, ρ => bindR (evE F e ρ) fun (d, ρ1) => bindC (lstAt ρ1 s) fun _ => bindR (evE F ix ρ1) fun (y, ρ2) => bindC (optI y) fun k => bindC (lstAt ρ2 s) fun (ds, mk) =>
      bindC (natIx ds.length k) fun j => .ok (.nx, ρ2.set s (mk (ds.set j d)))
  | .augx s o ix e, ρ => bindC (lstAt ρ s) fun _ => bindR (evE F ix ρ) fun (y, ρ1) => bindC (optI y) fun k => bindC (lstAt ρ1 s) fun (ds, _) => bindC (natIx ds.length k) fun j =>
      bindC (atD ds k) fun x => bindR (evE F e ρ1) fun (d, ρ2) => bindC (augD o x d) fun z => bindC (lstAt ρ2 s) fun (ds2, mk) => bindC (natIx ds2.length k) fun j2 =>
        .ok (.nx, ρ2.set s (mk (ds2.set j2 z)))
  | .app s e, ρ => bindC (lstAt ρ s) fun _ => bindR (evE F e ρ) fun (d, ρ1) => bindC (lstAt ρ1 s) fun (ds, mk) => if ds.length < LIM then .ok (.nx, ρ1.set s (mk (ds ++ [d]))) else stk
  | .ext s e, ρ => bindC (lstAt ρ s) fun _ => bindR (evE F e ρ) fun (d, ρ1) => bindC (itemsD d) fun xs => bindC (lstAt ρ1 s) fun (ds, mk) =>
      if ds.length + xs.length < LIM then .ok (.nx, ρ1.set s (mk (ds ++ xs))) else stk
  | .extT s e, ρ => bindC (lstAt ρ s) fun _ => bindR (evE F e ρ) fun (d, ρ1) => (match d with
    | .tuple xs => bindC (lstAt ρ1 s) fun (ds, mk) => if ds.length + xs.length < LIM then .ok (.nx, ρ1.set s (mk (ds ++ xs))) else stk
    | _ => stk)
  | .asgD i t it c k v, ρ => bindR (evI F it ρ) fun (xs, ρ1) => if xs.length < LIM then
      bindR (calmR (dcL t (evT F c) (evE F k) (evE F v) xs (clr t ρ1) [])) fun (kvs, ρ2) => .ok (.nx, (back t ρ1 ρ2).set i (.di kvs)) else stk
  | .ex e, ρ => bindR (evE F e ρ) fun (_, ρ1) => .ok (.nx, ρ1)
  | .ret e, ρ => bindR (evE F e ρ) fun (d, ρ1) => .ok (.rt d, ρ1)
  | .ite t a b, ρ => bindR (evT F t ρ) fun (c, ρ1) => if c then evS F fuel a ρ1 else evS F fuel b ρ1
  | .for_ t it b, ρ => bindR (evI F it ρ) fun (xs, ρ1) => forL t (evS F fuel b) xs ρ1
  | .while_ t b, ρ => whileL (evT F t) (evS F fuel b) fuel ρ
  | .raise n, _ => .error (.exc n)
  | .tryr e hs ks, ρ => (match evE F e ρ with
    | .ok (d, ρ1) => .ok (.rt d, ρ1)
    | .error (.exc n) => if n ∈ ks then (match caught n hs with
      | some t => .ok (.rt (.str t), ρ.map fun _ => .no)
      | none => .error (.exc n)) else stk
    | .error .stuck => stk)
/-- a def: its number of slots, its body; one with `state` as its second argument -/
structure Def where
  ps : Nat
  n : Nat
  b : S
def startE (n : Nat) (ds : List D) : Env := ds.map .im ++ List.replicate (n - ds.length) .no
def evF (F : Fns) (fuel : Nat) (d : Def) (ds : List D) : R D :=
  if ds.length = d.ps then bindR (evS F fuel d.b (startE d.n ds)) fun (r, _) => (match r with | .rt x => .ok x | .nx => .ok .none) else stk
def startG (n : Nat) (ss : List D) : List D → Env
  | [] => [.no, .rf ss]
  | d :: ds => .im d :: .rf ss :: (ds.map .im ++ List.replicate (n - (ds.length + 2)) .no)
def finG (q : Res × Env) : R (D × List D) := match q.2[(1 : Nat)]?, q.1 with
  | some (.rf ss), .rt x => .ok (x, ss)
  | some (.rf ss), .nx => .ok (.none, ss)
  | _, _ => stk
def evG (F : Fns) (fuel : Nat) (d : Def) (ds ss : List D) : R (D × List D) :=
  if ds.length + 1 = d.ps then bindR (evS F fuel d.b (startG d.n ss ds)) (finG) else stk
end Ft
/-! FtNice: tuples that carry no dict (as all tuples that the program makes); so `t.index(x)` can be read. -/
namespace Ft
open PySem PySem.Spec PyProof.Rows L2
/-- a tuple whose object has no dict -/
def NT (H : Hp) (a : Addr) (xs : List V) : Prop := ∃ o : Obj, H a = some (.frz o (.tup xs)) ∧ o.dict = none
theorem NT.sq {K : PySem.W.Frag} {H : Hp} {a : Addr} {xs : List V} (h : NT H a xs) : SqT K H a xs := let ⟨o, e, _⟩ := h; .inl (.inr ⟨o, e⟩)
theorem NT.of {H : Hp} {a : Addr} {xs : List V} {o : Obj} (ho : o.dict = none) (h : H a = some (.frz o (.tup xs))) : NT H a xs := ⟨o, h, ho⟩
mutual
inductive Dp (K : PySem.W.Frag) (H : Hp) : V → PyData → Prop
  | non : Dp K H .non .none
  | bl (b : Bool) : Dp K H (.bl b) (.bool b)
  | int (i : Int) : Dp K H (.int i) (.int i)
  | str (x : Str) : Dp K H (.str x) (.str x)
  | lst {a : Addr} {xs : List V} {ds : List PyData} : SqL K H a xs → DpAll K H xs ds → Dp K H (.ref a) (.list ds)
  | tup {a : Addr} {xs : List V} {ds : List PyData} : NT H a xs → DpAll K H xs ds → Dp K H (.ref a) (.tuple ds)
inductive DpAll (K : PySem.W.Frag) (H : Hp) : List V → List PyData → Prop
  | nil : DpAll K H [] []
  | cons {v : V} {vs : List V} {d : PyData} {ds : List PyData} : Dp K H v d → DpAll K H vs ds → DpAll K H (v :: vs) (d :: ds)
end
mutual
theorem Dp.up {K : PySem.W.Frag} {H : Hp} : ∀ {v : V} {d : PyData}, Dp K H v d → L2.Dp K H v d
  | _, _, .non => .non
  | _, _, .bl b => .bl b
  | _, _, .int i => .int i
  | _, _, .str x => .str x
  | _, _, .lst h a => .lst h (DpAll.up a)
  | _, _, .tup h a => .tup h.sq (DpAll.up a)
theorem DpAll.up {K : PySem.W.Frag} {H : Hp} : ∀ {vs : List V} {ds : List PyData}, DpAll K H vs ds → L2.DpAll K H vs ds
  | _, _, .nil => .nil
  | _, _, .cons h a => .cons (Dp.up h) (DpAll.up a)
end
theorem Dp.reads {X : Cx} {pins : List (Addr × Obj)} {σ : L2.St} {H : Hp} {s : Shared} (I : Inv X pins σ H s) (d : PyData) (v : V) (u : Value) (h : Dp X.K H v d) (r : RelV v u) : ∃ as, Reads s.heap u d as := L2.Dp.reads I d v u h.up r
section
variable {X : Cx}
/-- the new tuple, laid with its object -/
theorem laidN {pins : List (Addr × Obj)} {σ : L2.St} {H : Hp} {s : Shared} {h' : Heap} {a : Addr} {xs : List V} {its : List Value} {o : Obj} {t' n : Nat} (I : Inv X pins σ H s) (k : ∀ b u, s.heap.get? b = some u → h'.get? b = some u) (hp : s.heap.objs.size ≤ a)
    (e : h'.get? a = some o) (hc : o.cls = .type "tuple") (hd : o.data = .seq its.toArray n) (hz : xs.length ≤ sizeLine) (r : Vals xs its) : Inv X pins σ (upd H a (.frz o (.tup xs))) { s with heap := h', toks := t' } :=
  I.laid (t' := t') k hp (show ObjOk X.prog X.w _ h' a (.frz o (.tup xs)) from ⟨e, hz, its, r, o, e, hc, n, hd⟩)
variable {es : List Expr} {t : TA} {pos : Pos}
def tTupN (t : TA) : TE := fun σ H Q => t σ H fun xs H1 => xs.length ≤ sizeLine ∧ ∀ p o, H1 p = none → o.dict = none → Q (.ref p) (upd H1 p (.frz o (.tup xs)))
theorem pe_tupN {x1} (h : PA X es t) : PE X (.Tuple es x1 pos) (tTupN t) := by
  refine ⟨fun pins s σ H Q I hq => ?_⟩
  refine wpAny_Tuple_spliced (thn (h.run pos pins s σ H _ I hq) fun us s1 ⟨xs, H1, I1, r, z, q⟩ => ⟨by rw [← r.length]; exact z, ?_⟩)
  have hf : H1 s1.heap.objs.size = none := I1.hok.fresh (Nat.le_refl _)
  exact ⟨.ref s1.heap.objs.size, _, laidN (t' := s1.toks) I1 (fun b u e => Heap.get?_push_of_some _ e) (Nat.le_refl _) (Heap.get?_push_size _ rfl) rfl rfl z r, rfl, q _ _ hf rfl⟩
/-- t + u -/
def rCatN (K : PySem.W.Frag) : R2 := fun x y H Q => ∃ a b xs ys, x = .ref a ∧ y = .ref b ∧ SqT K H a xs ∧ SqT K H b ys ∧ xs.length + ys.length ≤ sizeLine ∧
  (xs = [] → Q (.ref b) H) ∧ (xs ≠ [] → ys = [] → Q (.ref a) H) ∧ (xs ≠ [] → ys ≠ [] → ∀ p o, H p = none → o.dict = none → Q (.ref p) (upd H p (.frz o (.tup (xs ++ ys)))))
theorem op_catN : OpR X (binaryOp .Add) (rCatN X.K) := by
  intro pins s σ H x y v u Q I rx ry h
  obtain ⟨a, b, xs, ys, rfl, rfl, ha, hb, hz, q0, q1, q2⟩ := h
  cases rx
  cases ry
  obtain ⟨its, r1, p1, _⟩ := I.tuple ha
  obtain ⟨its2, r2, p2, _⟩ := I.tuple hb
  by_cases hx : xs = []
  · subst hx
    cases r1
    exact cat_tup0 p1 p2 ⟨.ref b, H, I, rfl, q0 rfl⟩
  · refine HT.cat_tup p1 p2 (fun z => hx (r1.nil_iff.mp z)) (fun z => ⟨.ref a, H, I, rfl, q1 hx (r2.nil_iff.mp z)⟩) (fun z => ?_) (by rw [← r1.length, ← r2.length]; exact hz)
    exact ⟨.ref s.heap.objs.size, _, laidN (t' := s.toks) I (fun b ob q => Heap.get?_push_of_some _ q) (Nat.le_refl _) (Heap.get?_push_size _ rfl) rfl rfl (by rw [List.length_append]; exact hz) (r1.append r2), rfl, q2 hx (fun w => z (r2.nil_iff.mpr w)) _ _ (I.hok.fresh (Nat.le_refl _)) rfl⟩
/-- t[lo:hi]: the whole of it is t itself -/
def rSlN (K : PySem.W.Frag) : V → Option Int → Option Int → Hp → VK → Prop := fun x lo hi H Q => ∃ a xs, x = .ref a ∧ SqT K H a xs ∧
  (HT.sIx xs.length 0 lo = 0 ∧ HT.sIx xs.length xs.length hi = xs.length → Q (.ref a) H) ∧ (¬ (HT.sIx xs.length 0 lo = 0 ∧ HT.sIx xs.length xs.length hi = xs.length) → ∀ p o, H p = none → o.dict = none → Q (.ref p) (upd H p (.frz o (.tup (cutV xs lo hi)))))
theorem sl_tupN : SlR X (rSlN X.K) := by
  intro pins s σ H x v vl vu lo hi sl Q I rx hs pl pu h
  obtain ⟨a, xs, rfl, hx, q1, q2⟩ := h
  cases rx
  obtain ⟨its, r, ht, hz⟩ := I.tuple hx
  have hlen : its.toArray.size = xs.length := by rw [List.size_toArray]; exact r.length.symm
  refine ⟨"tuple", _, PyProof.Rows.slot_tuple_getitem.lookup, ht.typeIs, ?_⟩
  by_cases hw : HT.sIx xs.length 0 lo = 0 ∧ HT.sIx xs.length xs.length hi = xs.length
  · exact getItem_tuple_whole ht hs pl pu (by rw [hlen]; exact hw) ⟨.ref a, H, I, rfl, q1 hw⟩
  · refine HT.getItem_tuple_cut ht hs pl pu (by rw [hlen]; exact hw) ?_ (by rw [hlen]; exact hz)
    rw [hlen]
    exact ⟨.ref s.heap.objs.size, _, laidN (t' := s.toks) (xs := cutV xs lo hi) I (fun b ob q => Heap.get?_push_of_some _ q) (Nat.le_refl _) (Heap.get?_push_size _ rfl) rfl rfl (Nat.le_trans (cutV_length xs lo hi) hz) ((r.drop (HT.sIx xs.length 0 lo)).take (HT.sIx xs.length xs.length hi - HT.sIx xs.length 0 lo)), rfl, q2 hw _ _ (I.hok.fresh (Nat.le_refl _)) rfl⟩
/-- tuple(x) -/
theorem call_tuple_ofN : CallR X (.type "tuple") (fun xs H Q => ∃ p ys, xs = [.ref p] ∧ ((SqL X.K H p ys ∧ ∀ l o, H l = none → o.dict = none → Q (.ref l) (upd H l (.frz o (.tup ys)))) ∨ (SqT X.K H p ys ∧ Q (.ref p) H))) := by
  intro pins s σ H xs us Q I r h
  obtain ⟨p, ys, rfl, h⟩ := h
  obtain ⟨u, rfl, rx⟩ := vals1 r
  cases rx
  rcases h with ⟨hq, q⟩ | ⟨hq, q⟩
  · obtain ⟨its, r', pl, hz⟩ := I.list hq
    have hlen := r'.length
    refine call_tuple_list pl.isList (fun h' kp => ?_) (by simp only [List.size_toArray] <;> omega)
    have I1 : Inv X pins σ H { s with heap := h' } := I.kept (t' := s.toks) kp
    exact ⟨.ref h'.objs.size, _, laidN (s := { s with heap := h' }) (t' := s.toks) I1 (fun b o e => Heap.get?_push_of_some _ e) (Nat.le_refl _) (Heap.get?_push_size _ rfl) rfl rfl hz r', rfl, q _ _ (I1.hok.fresh (Nat.le_refl _)) rfl⟩
  · obtain ⟨its, r', pl, hz⟩ := I.tuple hq
    exact call_tuple_same pl ⟨.ref p, H, I, rfl, q⟩
/-- t * k -/
def rRepN (K : PySem.W.Frag) : R2 := fun x y H Q => ∃ l k xs, x = .ref l ∧ y = .int k ∧ SqT K H l xs ∧ xs ≠ [] ∧ 2 ≤ k ∧ k ≤ 1000 ∧ xs.length ≤ 1000 ∧ ∀ p o, H p = none → o.dict = none → Q (.ref p) (upd H p (.frz o (.tup (List.replicate k.toNat xs).flatten)))
theorem op_repN : OpR X (binaryOp .Mult) (rRepN X.K) := by
  intro pins s σ H x y v u Q I rx ry h
  obtain ⟨l, k, xs, rfl, rfl, hT, hne, h1, h2, hz, q⟩ := h
  cases rx
  obtain ⟨t, rfl⟩ := ry
  obtain ⟨its, r, ⟨⟨cls, dd, data, sl⟩, ho, hc, n, hd⟩, hs⟩ := I.tuple hT
  simp only at hc hd
  subst hc hd
  have hle : its.length = xs.length := r.length.symm
  have hn : its ≠ [] := fun e => hne (by
    rw [e] at hle
    exact List.eq_nil_of_length_eq_zero hle.symm)
  have hi : its.toArray.isEmpty = false := by
    cases its with
    | nil => exact absurd rfl hn
    | cons a b => rfl
  have hsz0 : its.toArray.size = xs.length := by rw [List.size_toArray, hle]
  have hm : ((its.toArray.size : Nat) : Int) * k ≤ 1000000 := by
    rw [hsz0]
    have a1 : ((xs.length : Nat) : Int) * k ≤ 1000 * k := Int.mul_le_mul_of_nonneg_right (by omega) (by omega)
    omega
  have flen : (List.replicate k.toNat its).flatten.length ≤ sizeLine := by
    rw [PyProof.Rows.lm_len_rep_flat, hle, sizeLine_eq]
    have a1 : k.toNat * xs.length ≤ 1000 * 1000 := Nat.mul_le_mul (by omega) hz
    omega
  have c0 : (decide (k < -(2 ^ 63)) || decide (k ≥ 2 ^ 63)) = false := by
    rw [decide_eq_false (by omega), decide_eq_false (by omega)] <;> rfl
  have c1 : (its.toArray.isEmpty || k == 1) = false := by
    rw [hi, Bool.false_or]
    exact beq_eq_false_iff_ne.mpr (by omega)
  have c2 : (decide (k ≤ 0) || its.toArray.isEmpty) = false := by
    rw [hi, Bool.or_false]
    exact decide_eq_false (by omega)
  have c4 : Builtin.Tuple.tupleTooMany (((its.toArray.size : Nat) : Int) * k) = false := by
    unfold Builtin.Tuple.tupleTooMany
    rw [sizeLine_eq]
    exact decide_eq_false (by omega)
  refine wpAny_binaryOp_repeat_ref (T := "tuple") (U := "int") (by decide) ⟨_, ho, rfl⟩ (fun s' => typeIs_int s' k t) noFill_tuple_mul F.fills_int_mul F.slot_int_rmul repeat_tuple F.slot_int_index.lookup
    (call_meets F.slot_int_rmul (typeIs_int s k t) F.entry_int_rmul (F.args_int_rmul_2 _ _) (int_rmul_tuple k t l its.toArray n dd sl)
      ⟨ho, rfl, ⟨_, ho, rfl⟩, call_meets F.slot_tuple_mul ⟨_, ho, rfl⟩ F.entry_tuple_mul (F.args_tuple_mul_2 _ _) (tuple_mulW l its.toArray n dd sl k t c0 c1 c2 (by omega) c4 (by rw [size_rep, List.size_toArray]; exact flen)) ⟨ho, ?_⟩⟩)
  rw [size_rep]
  refine ⟨.ref s.heap.objs.size, _, laidN (t' := s.toks) (xs := (List.replicate k.toNat xs).flatten) I (fun b ob q => Heap.get?_push_of_some _ q) (Nat.le_refl _) (Heap.get?_push_size _ rfl) rfl rfl ?_ (r.rep k.toNat), rfl, q _ _ (I.hok.fresh (Nat.le_refl _)) rfl⟩
  rw [PyProof.Rows.lm_len_rep_flat, sizeLine_eq]
  have a1 : k.toNat * xs.length ≤ 1000 * 1000 := Nat.mul_le_mul (by omega) hz
  omega
/-- tuple(range(..)) -/
def tTupRgN (te : L2.St → Hp → (Int → Int → Hp → Prop) → Prop) : TE := fun σ H Q => te σ H fun a b H1 => RgOk a b ∧ ∀ q o, H1 q = none → o.dict = none → Q (.ref q) (upd H1 q (.frz o (.tup (rgV a b))))
theorem pe_tupRgN {e : Expr} {te : L2.St → Hp → (Int → Int → Hp → Prop) → Prop} {p pos : Pos} (hc : X.calm = true) (hg : Gl X "tuple") (hm : X.mg "tuple" = none) (he : PRg X e te) (na : starEach [e] X.env = (false, eval e X.env) :: starEach [] X.env := by rfl) : PE X (.Call (.Name "tuple" p) [e] [] pos) (tTupRgN te) := by
  refine ⟨fun pins s σ H Q I h => ?_⟩
  refine Call_ (ld_blt I hg hm boot_tuple (PyProof.Rows.callWith_type1 (args_cons (thn (he pins s σ H _ I h) fun x s1 ⟨r, a, b, t, u, v, H1, ex, hr, I1, ok, q⟩ => args_nil ?_) na) na))
  subst ex
  obtain ⟨b1, b2, b3, b4, b5⟩ := ok
  refine call_tuple_range (n := (b - a).toNat) (I1.ok.hd hc) hr (small_one b1 b2 b3 b4) (rangeSize_nat a b) b5 fun h' tk acc hk hi => ?_
  have I2 : Inv X pins σ H1 { s1 with heap := h', toks := tk } := I1.kept hk
  refine ⟨.ref h'.objs.size, _, laidN (s := { s1 with heap := h', toks := tk }) (t' := tk) (xs := rgV a b) (its := acc.toList) I2 (fun c o e => Heap.get?_push_of_some _ e) (Nat.le_refl _) (Heap.get?_push_size _ rfl) rfl (by simp; rfl) ?_ (vals_rg hi), rfl, q _ _ (I2.hok.fresh (Nat.le_refl _)) rfl⟩
  rw [rgV_length, sizeLine_eq]; omega
/-! ### t.index(x) -/
def tIdx (K : PySem.W.Frag) (to ta : TE) : TE := fun σ H Q => to σ H fun x H1 => ∃ p, x = .ref p ∧ (∃ xs, NT H1 p xs) ∧ ta σ H1 fun y H2 => ∃ ys : List Str, ∃ z j, y = .str z ∧ SqT K H2 p (ys.map V.str) ∧ ys[j]? = some z ∧ (∀ m, m < j → ys[m]? ≠ some z) ∧ Q (.int (j : Nat)) H2
theorem pe_idx {o e : Expr} {to ta : TE} {apos cpos : Pos} (ho : PE X o to) (ha : PA X [e] (fun σ H Q => ta σ H fun y H2 => Q [y] H2))
    (hbase : attributeBase o "index" X.env (eval o X.env) = eval o X.env := by rfl)
    (hfew : ((backTo cpos (starEach [e] X.env)).all (fun x => !x.1) && (backToKw cpos (keywordEach [] X.env)).all (fun x => x.1.isSome)
      && decide (([e] : List Expr).length + ([] : List Keyword).length + (if ([] : List Keyword).isEmpty then 0 else 1) < 30)) = true := by rfl)
    (hline : (apos.endLine == cpos.line) = true := by rfl) (hs : starEach [e] X.env = (false, eval e X.env) :: starEach [] X.env := by rfl) (hplain : (backTo cpos (starEach [] X.env)).any (·.1) = false := by rfl) :
    PE X (.Call (.Attribute o "index" apos) [e] [] cpos) (tIdx X.K to ta) := by
  refine ⟨fun pins s σ H Q I h => ?_⟩
  refine wpAny_Call_method_late hbase hfew hline rfl (thn (ho.run pins s σ H _ I h) fun v s1 ⟨x, H1, I1, r1, p, ex, ⟨xs, ob, hp, hod⟩, q1⟩ => ?_)
  subst ex
  cases r1
  obtain ⟨e0, _, its, _, o2, e2, hc2, _⟩ := (show ObjOk X.prog X.w H1 s1.heap p (.frz ob (.tup xs)) from I1.hok p _ hp)
  rw [e0] at e2
  cases e2
  refine ⟨"tuple", "tuple.index", PySem.F.plainAttrs_tuple, PySem.F.slot_tuple_index, PySem.F.type_tuple_index, ⟨ob, e0, hc2⟩, fun a ea => by cases ea; exact ⟨ob, e0, hod⟩, ?_⟩
  have hA := ha.run cpos pins s1 σ H1 (fun vs H2 => match vs with
    | [y] => ∃ ys : List Str, ∃ z j, y = V.str z ∧ SqT X.K H2 p (ys.map V.str) ∧ ys[j]? = some z ∧ (∀ m, m < j → ys[m]? ≠ some z) ∧ Q (.int (j : Nat)) H2
    | _ => False) I1 q1
  rw [hs] at hA ⊢
  refine Calls.callWith_builtin (by show (false || (backTo cpos (starEach [] X.env)).any (·.1)) = false; rw [hplain] <;> rfl) (Calls.evalArgs_plain ?_)
  exact thn hA fun us s2 ⟨vs, H2, I2, r2, q2⟩ => by
    match vs, r2, q2 with
    | [y], r2, q2 =>
      obtain ⟨ys, z, j, e3, h1, h2, h3, h4⟩ := q2
      exact mt_tup_index pins s2 σ H2 (.ref p) _ _ us Q I2 rfl r2 ⟨p, ys, z, j, rfl, by rw [e3], h1, h2, h3, h4⟩
end
end Ft
/-! FtRel: how an environment of the own language lies in the layer's slots and heap. -/
namespace Ft
open PySem PySem.Spec PyProof.Rows L2
section
variable {K : PySem.W.Frag} {H H' G G' : Hp}
theorem same_rd {a : Addr} {u : HO} (e : Same H H') (h : Rd H a u) : Rd H' a u := by
  rcases h with h | ⟨o, h⟩
  · exact Or.inl (e a _ h)
  · exact Or.inr ⟨o, e a _ h⟩
theorem same_l {a : Addr} {xs : List V} (e : Same H H') (h : SqL K H a xs) : SqL K H' a xs := by
  rcases h with h | h
  · exact Or.inl (same_rd e h)
  · exact Or.inr h
theorem same_s {a : Addr} {xs : List V} (e : Same H H') (h : SqT K H a xs) : SqT K H' a xs := by
  rcases h with h | h
  · exact Or.inl (same_rd e h)
  · exact Or.inr h
theorem same_n {a : Addr} {xs : List V} (e : Same H H') (h : NT H a xs) : NT H' a xs := let ⟨o, q, z⟩ := h; ⟨o, e a _ q, z⟩
theorem same_t {a : Addr} {xs : List V} (e : Same H H') (h : NT H a xs) : SqT K H' a xs := (same_n e h).sq
theorem same_new {p : Addr} {o : HO} (h : H p = none) : Same H (upd H p o) := fun a u e => by
  rw [upd_ne (ne_of_none e h)]
  exact e
mutual
theorem dp_mono (e : Same H H') : ∀ {v : V} {d : PyData}, Dp K H v d → Dp K H' v d
  | _, _, .non => .non
  | _, _, .bl b => .bl b
  | _, _, .int i => .int i
  | _, _, .str x => .str x
  | _, _, .lst h a => .lst (same_l e h) (dps_mono e a)
  | _, _, .tup h a => .tup (same_n e h) (dps_mono e a)
theorem dps_mono (e : Same H H') : ∀ {vs : List V} {ds : List PyData}, DpAll K H vs ds → DpAll K H' vs ds
  | _, _, .nil => .nil
  | _, _, .cons h a => .cons (dp_mono e h) (dps_mono e a)
end
theorem dps_len : ∀ {vs : List V} {ds : List PyData}, DpAll K H vs ds → vs.length = ds.length
  | _, _, .nil => rfl
  | _, _, .cons _ a => by simp [dps_len a]
theorem dps_get : ∀ {vs : List V} {ds : List PyData} {i : Nat} {d : PyData}, DpAll K H vs ds → ds[i]? = some d → ∃ v, vs[i]? = some v ∧ Dp K H v d
  | _, _, _, _, .nil, e => by simp at e
  | _, _, 0, _, .cons h _, e => by simp at e; subst e; exact ⟨_, rfl, h⟩
  | _, _, i + 1, d, .cons _ a, e => by
    obtain ⟨v, h1, h2⟩ := dps_get (i := i) (d := d) a (by simpa using e)
    exact ⟨v, by simpa using h1, h2⟩
theorem dps_get' : ∀ {vs : List V} {ds : List PyData} {i : Nat} {v : V}, DpAll K H vs ds → vs[i]? = some v → ∃ d, ds[i]? = some d ∧ Dp K H v d
  | _, _, _, _, .nil, e => by simp at e
  | _, _, 0, _, .cons h _, e => by simp at e; subst e; exact ⟨_, rfl, h⟩
  | _, _, i + 1, d, .cons _ a, e => by
    obtain ⟨v, h1, h2⟩ := dps_get' (i := i) (v := d) a (by simpa using e)
    exact ⟨v, by simpa using h1, h2⟩
theorem dps_append : ∀ {vs ws : List V} {ds es : List PyData}, DpAll K H vs ds → DpAll K H ws es → DpAll K H (vs ++ ws) (ds ++ es)
  | _, _, _, _, .nil, b => b
  | _, _, _, _, .cons h a, b => .cons h (dps_append a b)
theorem dps_one {v : V} {d : PyData} (h : Dp K H v d) : DpAll K H [v] [d] := .cons h .nil
theorem dps_set : ∀ {vs : List V} {ds : List PyData} {v : V} {d : PyData} (i : Nat), DpAll K H vs ds → Dp K H v d → DpAll K H (vs.set i v) (ds.set i d)
  | _, _, _, _, _, .nil, _ => .nil
  | _, _, _, _, 0, .cons _ a, h => .cons h a
  | _, _, _, _, i + 1, .cons q a, h => .cons q (dps_set i a h)
theorem dps_erase : ∀ {vs : List V} {ds : List PyData} (i : Nat), DpAll K H vs ds → DpAll K H (vs.eraseIdx i) (ds.eraseIdx i)
  | _, _, _, .nil => .nil
  | _, _, 0, .cons _ a => a
  | _, _, i + 1, .cons q a => .cons q (dps_erase i a)
theorem dps_drop : ∀ {vs : List V} {ds : List PyData} (i : Nat), DpAll K H vs ds → DpAll K H (vs.drop i) (ds.drop i)
  | _, _, 0, a => a
  | _, _, _ + 1, .nil => .nil
  | _, _, i + 1, .cons _ a => dps_drop i a
theorem dps_take : ∀ {vs : List V} {ds : List PyData} (i : Nat), DpAll K H vs ds → DpAll K H (vs.take i) (ds.take i)
  | _, _, 0, _ => .nil
  | _, _, _ + 1, .nil => .nil
  | _, _, i + 1, .cons q a => .cons q (dps_take i a)
theorem dps_rev : ∀ {vs : List V} {ds : List PyData}, DpAll K H vs ds → DpAll K H vs.reverse ds.reverse
  | _, _, .nil => .nil
  | _, _, .cons q a => by
    rw [List.reverse_cons, List.reverse_cons]
    exact dps_append (dps_rev a) (dps_one q)
end
/-- a dict's rows -/
inductive KvD (K : PySem.W.Frag) (H : Hp) : List (Key × V) → List (Key × D) → Prop where
  | nil : KvD K H [] []
  | cons {k : Key} {v : V} {d : D} {r : List (Key × V)} {q : List (Key × D)} (h : Dp K H v d) (a : KvD K H r q) : KvD K H ((k, v) :: r) ((k, d) :: q)
theorem kvd_mono {K : PySem.W.Frag} {H H' : Hp} (e : Same H H') : ∀ {r : List (Key × V)} {q : List (Key × D)}, KvD K H r q → KvD K H' r q
  | _, _, .nil => .nil
  | _, _, .cons h a => .cons (dp_mono e h) (kvd_mono e a)
/-- what the rest may not touch; the known part at the entry -/
structure RC where
  P : Hp
  G0 : Hp
  st : Addr
def Cell.ls : Cell → Option (List D)
  | .mu ds => some ds
  | .rf ds => some ds
  | _ => none
def CellOk (K : PySem.W.Frag) (C : RC) (G H : Hp) : Cell → Option V → Prop
  | .no, _ => True
  | .im d, o => ∃ v, o = some v ∧ Dp K G v d
  | .mu ds, o => ∃ p xs, o = some (.ref p) ∧ H p = some (.lst xs) ∧ DpAll K G xs ds ∧ G p = none ∧ C.P p = none
  | .rf ds, o => ∃ p xs, o = some (.ref p) ∧ H p = some (.lst xs) ∧ DpAll K G xs ds ∧ G p = none ∧ C.P p = none ∧ p = C.st
  | .di kvs, o => ∃ p rs, o = some (.ref p) ∧ G p = some (.dK rs) ∧ KvD K G rs kvs
/-- the same kind of cell, other items -/
def SameK (c c' : Cell) (ds' : List D) : Prop := (∃ ds, c = .mu ds ∧ c' = .mu ds') ∨ ∃ ds, c = .rf ds ∧ c' = .rf ds'
theorem SameK.ls {c c' : Cell} {ds' : List D} (h : SameK c c' ds') : c'.ls = some ds' := by
  rcases h with ⟨_, _, rfl⟩ | ⟨_, _, rfl⟩ <;> rfl
def MuAt (ρ : Env) (σ : L2.St) (i : Nat) (p : Addr) : Prop := ∃ c ds, ρ[i]? = some c ∧ c.ls = some ds ∧ σ[i]? = some (some (V.ref p))
structure Rel (K : PySem.W.Frag) (C : RC) (G : Hp) (ρ : Env) (σ : L2.St) (H : Hp) : Prop where
  exG : Same G H
  exP : Same C.P H
  ex0 : Same C.G0 G
  g0P : Same C.G0 C.P
  frG : ∀ a, C.P a ≠ none → C.G0 a = none → G a = none
  len : ρ.length = σ.length
  cells : ∀ (i : Nat) (c : Cell) (o : Option V), ρ[i]? = some c → σ[i]? = some o → CellOk K C G H c o
  apart : ∀ (i j : Nat) (p : Addr), i ≠ j → MuAt ρ σ i p → MuAt ρ σ j p → False
/-- a list of one's own that no slot holds -/
structure Own (C : RC) (G : Hp) (ρ : Env) (σ : L2.St) (H : Hp) (p : Addr) (xs : List V) : Prop where
  at_ : H p = some (.lst xs)
  nG : G p = none
  nP : C.P p = none
  nM : ∀ i, ¬ MuAt ρ σ i p
section
variable {K : PySem.W.Frag} {C : RC} {G G' H H' : Hp} {ρ : Env} {σ : L2.St}
theorem cellOk_mono {c : Cell} {o : Option V} (h : CellOk K C G H c o) (eG : Same G G') (eH : ∀ p xs ds, c.ls = some ds → o = some (.ref p) → H p = some (.lst xs) → H' p = some (.lst xs))
    (nG : ∀ p ds, c.ls = some ds → o = some (.ref p) → G p = none → G' p = none) : CellOk K C G' H' c o := by
  cases c with
  | no => trivial
  | im d =>
    obtain ⟨v, e, q⟩ := h
    exact ⟨v, e, dp_mono eG q⟩
  | mu ds =>
    obtain ⟨p, xs, e, h1, h2, h3, h4⟩ := h
    exact ⟨p, xs, e, eH p xs ds rfl e h1, dps_mono eG h2, nG p ds rfl e h3, h4⟩
  | rf ds =>
    obtain ⟨p, xs, e, h1, h2, h3, h4⟩ := h
    exact ⟨p, xs, e, eH p xs ds rfl e h1, dps_mono eG h2, nG p ds rfl e h3, h4⟩
  | di kvs =>
    obtain ⟨p, rs, e, h1, h2⟩ := h
    exact ⟨p, rs, e, eG p _ h1, kvd_mono eG h2⟩
theorem Rel.rfAt (r : Rel K C G ρ σ H) {i : Nat} {ds : List D} (h : ρ[i]? = some (.rf ds)) : σ[i]? = some (some (.ref C.st)) := by
  have hi : i < σ.length := by
    rw [← r.len]
    exact (List.getElem?_eq_some_iff.mp h).1
  obtain ⟨p, xs, e, _, _, _, _, ep⟩ := r.cells i _ σ[i] h (List.getElem?_eq_getElem hi)
  rw [List.getElem?_eq_getElem hi, e, ep]
theorem Rel.muAt (r : Rel K C G ρ σ H) {i : Nat} {c : Cell} {ds : List D} (h : ρ[i]? = some c) (hl : c.ls = some ds) :
    ∃ p xs, σ[i]? = some (some (.ref p)) ∧ H p = some (.lst xs) ∧ DpAll K G xs ds ∧ G p = none ∧ C.P p = none := by
  have hi : i < σ.length := by
    rw [← r.len]
    exact (List.getElem?_eq_some_iff.mp h).1
  have hc := r.cells i c σ[i] h (List.getElem?_eq_getElem hi)
  have key : ∀ o, σ[i]? = some o → (∃ p xs, o = some (V.ref p) ∧ H p = some (.lst xs) ∧ DpAll K G xs ds ∧ G p = none ∧ C.P p = none) → ∃ p xs, σ[i]? = some (some (.ref p)) ∧ H p = some (.lst xs) ∧ DpAll K G xs ds ∧ G p = none ∧ C.P p = none := by
    intro o ho ⟨p, xs, e, q⟩
    exact ⟨p, xs, by rw [ho, e], q⟩
  cases c with
  | no => cases hl
  | im d => cases hl
  | mu es =>
    cases hl
    exact key _ (List.getElem?_eq_getElem hi) hc
  | rf es =>
    cases hl
    obtain ⟨p, xs, e, h1, h2, h3, h4, _⟩ := hc
    exact key _ (List.getElem?_eq_getElem hi) ⟨p, xs, e, h1, h2, h3, h4⟩
  | di kvs => cases hl
theorem Rel.imAt (r : Rel K C G ρ σ H) {i : Nat} {d : D} (h : ρ[i]? = some (.im d)) : ∃ v, σ[i]? = some (some v) ∧ Dp K G v d := by
  have hi : i < σ.length := by
    rw [← r.len]
    exact (List.getElem?_eq_some_iff.mp h).1
  obtain ⟨v, e, q⟩ := r.cells i _ σ[i] h (List.getElem?_eq_getElem hi)
  exact ⟨v, by rw [List.getElem?_eq_getElem hi, e], q⟩
theorem Rel.diAt (r : Rel K C G ρ σ H) {i : Nat} {kvs : List (Key × D)} (h : ρ[i]? = some (.di kvs)) : ∃ p rs, σ[i]? = some (some (.ref p)) ∧ G p = some (.dK rs) ∧ KvD K G rs kvs := by
  have hi : i < σ.length := by
    rw [← r.len]
    exact (List.getElem?_eq_some_iff.mp h).1
  obtain ⟨p, rs, e, q⟩ := r.cells i _ σ[i] h (List.getElem?_eq_getElem hi)
  exact ⟨p, rs, by rw [List.getElem?_eq_getElem hi, e], q⟩
/-- what a slot that is changed holds stands in the heap -/
theorem Rel.muSome (r : Rel K C G ρ σ H) {i : Nat} {p : Addr} (m : MuAt ρ σ i p) : ∃ xs ds, H p = some (.lst xs) ∧ DpAll K G xs ds ∧ G p = none ∧ C.P p = none := by
  obtain ⟨c, ds, h1, h2, h3⟩ := m
  obtain ⟨q, xs, e, w⟩ := r.muAt h1 h2
  rw [h3] at e
  cases e
  exact ⟨xs, ds, w⟩
/-- new objects, calls: all that stood stands; the known part grows by what is new -/
theorem Rel.step (r : Rel K C G ρ σ H) (e1 : Same G G') (e2 : Same G' H') (e3 : Same H H') (fr : ∀ a, G' a ≠ none → G a = none → H a = none) : Rel K C G' ρ σ H' where
  exG := e2
  exP := r.exP.trans e3
  ex0 := r.ex0.trans e1
  g0P := r.g0P
  frG := fun a h1 h2 => by
    have h3 := r.frG a h1 h2
    cases q : G' a with
    | none => rfl
    | some o =>
      have h4 := fr a (by rw [q]; simp) h3
      cases hp : C.P a with
      | none => exact absurd hp h1
      | some u =>
        have := r.exP a u hp
        rw [h4] at this
        cases this
  len := r.len
  cells := fun i c o h1 h2 => cellOk_mono (r.cells i c o h1 h2) e1 (fun p xs ds _ _ h => e3 p _ h) (fun p ds hl ho hg => by
    cases q : G' p with
    | none => rfl
    | some u =>
      have h4 := fr p (by rw [q]; simp) hg
      obtain ⟨xs, ds', h5, _⟩ := r.muSome (i := i) (p := p) ⟨c, ds, h1, hl, by rw [h2, ho]⟩
      rw [h4] at h5
      cases h5)
  apart := r.apart
theorem Rel.alloc (r : Rel K C G ρ σ H) {p : Addr} {o : HO} (h : H p = none) : Rel K C G ρ σ (upd H p o) :=
  r.step (Same.refl G) (r.exG.trans (same_new h)) (same_new h) (fun a h1 h2 => absurd h2 h1)
theorem Rel.nG (r : Rel K C G ρ σ H) {p : Addr} (h : H p = none) : G p = none := r.exG.free h
theorem Rel.nP (r : Rel K C G ρ σ H) {p : Addr} (h : H p = none) : C.P p = none := r.exP.free h
theorem Rel.nM (r : Rel K C G ρ σ H) {p : Addr} (h : H p = none) (i : Nat) : ¬ MuAt ρ σ i p := fun m => by
  obtain ⟨xs, ds, h1, _⟩ := r.muSome m
  rw [h] at h1
  cases h1
theorem Rel.own (r : Rel K C G ρ σ H) {p : Addr} {xs : List V} (h : H p = none) : Own C G ρ σ (upd H p (.lst xs)) p xs := ⟨upd_same, r.nG h, r.nP h, r.nM h⟩
/-- an object of one's own becomes known -/
theorem Rel.absorb (r : Rel K C G ρ σ H) {p : Addr} {o : HO} (h : H p = some o) (nG : G p = none) (nP : C.P p = none) (nM : ∀ i, ¬ MuAt ρ σ i p) : Rel K C (upd G p o) ρ σ H where
  exG := fun a u e => by
    by_cases ha : a = p
    · subst ha
      rw [upd_same] at e
      rw [h, e]
    · rw [upd_ne ha] at e
      exact r.exG a u e
  exP := r.exP
  ex0 := r.ex0.trans (same_new nG)
  g0P := r.g0P
  frG := fun a h1 h2 => by
    by_cases ha : a = p
    · subst ha
      exact absurd nP h1
    · rw [upd_ne ha]
      exact r.frG a h1 h2
  len := r.len
  cells := fun i c o' h1 h2 => cellOk_mono (r.cells i c o' h1 h2) (same_new nG) (fun _ _ _ _ _ q => q) (fun q ds hl ho hg => by
    have hq : q ≠ p := fun e => nM i ⟨c, ds, h1, hl, by rw [h2, ho, e]⟩
    rw [upd_ne hq]
    exact hg)
  apart := r.apart
theorem Rel.take (r : Rel K C G ρ σ H) {p : Addr} {xs : List V} (o : Own C G ρ σ H p xs) : Rel K C (upd G p (.lst xs)) ρ σ H := r.absorb o.at_ o.nG o.nP o.nM
theorem Own.same {p : Addr} {xs : List V} (o : Own C G ρ σ H p xs) : Same G (upd G p (.lst xs)) := same_new o.nG
/-- a new immutable object (a tuple), known at once -/
theorem Rel.know (r : Rel K C G ρ σ H) {p : Addr} {o : HO} (h : H p = none) : Rel K C (upd G p o) ρ σ (upd H p o) :=
  (r.alloc h).absorb upd_same (r.nG h) (r.nP h) (r.nM h)
theorem muAt_set {i j : Nat} {p : Addr} {c : Cell} {o : Option V} (m : MuAt (ρ.set i c) (σ.set i o) j p) (hij : j ≠ i) : MuAt ρ σ j p := by
  obtain ⟨c', ds, h1, h2, h3⟩ := m
  rw [List.getElem?_set_ne (Ne.symm hij)] at h1 h3
  exact ⟨c', ds, h1, h2, h3⟩
theorem muAt_set1 {i j : Nat} {p : Addr} {c : Cell} (m : MuAt (ρ.set i c) σ j p) (hij : j ≠ i) : MuAt ρ σ j p := by
  obtain ⟨c', ds, h1, h2, h3⟩ := m
  rw [List.getElem?_set_ne (Ne.symm hij)] at h1
  exact ⟨c', ds, h1, h2, h3⟩
/-- a slot is set: a cell that holds there, apart from the other slots -/
theorem Rel.setAny (r : Rel K C G ρ σ H) (i : Nat) {c : Cell} {o : Option V} (hc : CellOk K C G H c o) (ha : ∀ p ds, c.ls = some ds → o = some (.ref p) → ∀ j, j ≠ i → ¬ MuAt ρ σ j p) : Rel K C G (ρ.set i c) (σ.set i o) H where
  exG := r.exG
  exP := r.exP
  ex0 := r.ex0
  g0P := r.g0P
  frG := r.frG
  len := by simp [r.len]
  cells := fun j c' o' h1 h2 => by
    by_cases hj : j = i
    · subst hj
      have hl : j < ρ.length := by
        have := (List.getElem?_eq_some_iff.mp h1).1
        simpa using this
      have hl2 : j < σ.length := by rw [← r.len]; exact hl
      rw [List.getElem?_set_self hl] at h1
      rw [List.getElem?_set_self hl2] at h2
      cases h1
      cases h2
      exact hc
    · rw [List.getElem?_set_ne (Ne.symm hj)] at h1 h2
      exact r.cells j c' o' h1 h2
  apart := fun j k p hjk m1 m2 => by
    have key : ∀ j k, j ≠ k → MuAt (ρ.set i c) (σ.set i o) j p → MuAt (ρ.set i c) (σ.set i o) k p → j = i → False := by
      intro j k hjk m1 m2 hj
      subst hj
      have hk : k ≠ j := fun e => hjk e.symm
      have m2' := muAt_set m2 hk
      obtain ⟨c', ds, h1, h2, h3⟩ := m1
      have hl : j < ρ.length := by
        have := (List.getElem?_eq_some_iff.mp h1).1
        simpa using this
      have hl2 : j < σ.length := by rw [← r.len]; exact hl
      rw [List.getElem?_set_self hl] at h1
      rw [List.getElem?_set_self hl2] at h3
      cases h1
      have h3' := Option.some.inj h3
      exact ha p ds h2 h3' k hk m2'
    by_cases hj : j = i
    · exact key j k hjk m1 m2 hj
    · by_cases hk : k = i
      · exact key k j (Ne.symm hjk) m2 m1 hk
      · exact r.apart j k p hjk (muAt_set m1 hj) (muAt_set m2 hk)
theorem Rel.setIm (r : Rel K C G ρ σ H) (i : Nat) {d : D} {v : V} (h : Dp K G v d) : Rel K C G (ρ.set i (.im d)) (σ.set i (some v)) H := r.setAny i ⟨v, rfl, h⟩ (fun _ _ e => by cases e)
theorem Rel.setNo (r : Rel K C G ρ σ H) (i : Nat) (o : Option V) : Rel K C G (ρ.set i .no) (σ.set i o) H := r.setAny i trivial (fun _ _ e => by cases e)
theorem Rel.setMu (r : Rel K C G ρ σ H) (i : Nat) {p : Addr} {xs : List V} {ds : List D} (o : Own C G ρ σ H p xs) (h : DpAll K G xs ds) : Rel K C G (ρ.set i (.mu ds)) (σ.set i (some (.ref p))) H :=
  r.setAny i ⟨p, xs, rfl, o.at_, h, o.nG, o.nP⟩ (fun q _ _ e j _ => by cases e; exact o.nM j)
/-- what is in a slot is read off and then lies known -/
theorem Rel.freeze (r : Rel K C G ρ σ H) {i : Nat} {ds : List D} (h : ρ[i]? = some (.mu ds)) :
    ∃ p xs, σ[i]? = some (some (.ref p)) ∧ G p = none ∧ Dp K (upd G p (.lst xs)) (.ref p) (.list ds) ∧ Rel K C (upd G p (.lst xs)) (ρ.set i (.im (.list ds))) σ H := by
  obtain ⟨p, xs, e, h1, h2, h3, h4⟩ := r.muAt h (by rfl)
  have hn : ∀ j, ¬ MuAt (ρ.set i .no) (σ.set i (some (.ref p))) j p := fun j m => by
    by_cases hj : j = i
    · subst hj
      obtain ⟨c, es, q1, q2, _⟩ := m
      have hl : j < ρ.length := by
        have := (List.getElem?_eq_some_iff.mp q1).1
        simpa using this
      rw [List.getElem?_set_self hl] at q1
      cases q1
      cases q2
    · exact r.apart j i p hj (muAt_set m hj) ⟨_, _, h, rfl, e⟩
  have dp : Dp K (upd G p (.lst xs)) (.ref p) (.list ds) := .lst (SqL.of upd_same) (dps_mono (same_new h3) h2)
  have r1 := (r.setNo i (some (.ref p))).absorb h1 h3 h4 hn
  have r2 := r1.setIm i dp
  rw [List.set_set, List.set_set] at r2
  have e2 : σ.set i (some (V.ref p)) = σ := by
    apply List.ext_getElem?
    intro j
    by_cases hj : i = j
    · subst hj
      have hl : i < σ.length := (List.getElem?_eq_some_iff.mp e).1
      rw [List.getElem?_set_self hl, e]
    · rw [List.getElem?_set_ne hj]
  rw [e2] at r2
  exact ⟨p, xs, e, h3, dp, r2⟩
/-- a list that a slot holds is changed -/
theorem Rel.write (r : Rel K C G ρ σ H) {i : Nat} {p : Addr} {c c' : Cell} {ds ds' : List D} {xs' : List V} (h : ρ[i]? = some c) (hl : c.ls = some ds) (hp : σ[i]? = some (some (.ref p))) (hc : SameK c c' ds')
    (hx : DpAll K G xs' ds') : Rel K C G (ρ.set i c') σ (upd H p (.lst xs')) := by
  have m : MuAt ρ σ i p := ⟨c, ds, h, hl, hp⟩
  obtain ⟨xs, es, h1, h2, h3, h4⟩ := r.muSome m
  have hi : i < ρ.length := (List.getElem?_eq_some_iff.mp h).1
  refine ⟨fun a u e => ?_, fun a u e => ?_, r.ex0, r.g0P, r.frG, by simp [r.len], fun j c1 o j1 j2 => ?_, fun j k q hjk m1 m2 => ?_⟩
  · rw [upd_ne (ne_of_none e h3)]
    exact r.exG a u e
  · rw [upd_ne (ne_of_none e h4)]
    exact r.exP a u e
  · by_cases hj : j = i
    · subst hj
      rw [List.getElem?_set_self hi] at j1
      rw [hp] at j2
      cases j1
      cases j2
      rcases hc with ⟨_, e1, e2⟩ | ⟨_, e1, e2⟩
      · subst e2
        exact ⟨p, xs', rfl, upd_same, hx, h3, h4⟩
      · subst e1 e2
        have ep := r.rfAt h
        rw [hp] at ep
        cases ep
        exact ⟨_, xs', rfl, upd_same, hx, h3, h4, rfl⟩
    · rw [List.getElem?_set_ne (Ne.symm hj)] at j1
      refine cellOk_mono (r.cells j c1 o j1 j2) (Same.refl G) (fun q ys es' hl' ho hq => ?_) (fun _ _ _ _ z => z)
      have hqp : q ≠ p := fun e => r.apart j i p hj ⟨c1, es', j1, hl', by rw [j2, ho, e]⟩ m
      rw [upd_ne hqp]
      exact hq
  · have t : ∀ j, MuAt (ρ.set i c') σ j q → MuAt ρ σ j q := fun j mj => by
      by_cases hj : j = i
      · subst hj
        obtain ⟨_, _, _, _, z⟩ := mj
        rw [hp] at z
        cases z
        exact m
      · exact muAt_set1 mj hj
    exact r.apart j k q hjk (t j m1) (t k m2)
/-- an object of one's own is protected for a while -/
def RC.with (C : RC) (p : Addr) (o : HO) : RC := ⟨upd C.P p o, C.G0, C.st⟩
theorem Rel.guard (r : Rel K C G ρ σ H) {p : Addr} {o : HO} (h : H p = some o) (nG : G p = none) (nM : ∀ i, ¬ MuAt ρ σ i p) : Rel K (C.with p o) G ρ σ H where
  exG := r.exG
  exP := fun a u e => by
    by_cases ha : a = p
    · subst ha
      have e' : upd C.P a o a = some u := e
      rw [upd_same] at e'
      rw [h, e']
    · have e' : upd C.P p o a = some u := e
      rw [upd_ne ha] at e'
      exact r.exP a u e'
  ex0 := r.ex0
  g0P := fun a u e => by
    have ha : a ≠ p := fun z => by
      rw [z] at e
      have := r.ex0 p u e
      rw [nG] at this
      cases this
    show upd C.P p o a = some u
    rw [upd_ne ha]
    exact r.g0P a u e
  frG := fun a h1 h2 => by
    by_cases ha : a = p
    · subst ha
      exact nG
    · refine r.frG a ?_ h2
      intro z
      apply h1
      show upd C.P p o a = none
      rw [upd_ne ha, z]
  len := r.len
  cells := fun i c o' h1 h2 => by
    have key : ∀ ds q, c.ls = some ds → o' = some (V.ref q) → C.P q = none → (C.with p o).P q = none := fun ds q hl ho hq => by
      have hqp : q ≠ p := fun e => nM i ⟨c, ds, h1, hl, by rw [h2, ho, e]⟩
      show upd C.P p o q = none
      rw [upd_ne hqp]
      exact hq
    have hc := r.cells i c o' h1 h2
    cases c with
    | no => trivial
    | im d => exact hc
    | di kvs => exact hc
    | mu ds =>
      obtain ⟨q, xs, e, w1, w2, w3, w4⟩ := hc
      exact ⟨q, xs, e, w1, w2, w3, key ds q rfl e w4⟩
    | rf ds =>
      obtain ⟨q, xs, e, w1, w2, w3, w4, w5⟩ := hc
      exact ⟨q, xs, e, w1, w2, w3, key ds q rfl e w4, w5⟩
  apart := r.apart
theorem Rel.unguard {p : Addr} {o : HO} (nP : C.P p = none) (nG0 : C.G0 p = none) (r : Rel K (C.with p o) G ρ σ H) : Rel K C G ρ σ H ∧ H p = some o ∧ (C.G0 p = none → G p = none) ∧ ∀ i, ¬ MuAt ρ σ i p := by
  have hp : (C.with p o).P p = some o := upd_same
  have kp : ∀ a, C.P a ≠ none → (C.with p o).P a ≠ none := fun a h => by
    by_cases ha : a = p
    · subst ha
      exact absurd nP h
    · show upd C.P p o a ≠ none
      rw [upd_ne ha]
      exact h
  have kn : ∀ a, (C.with p o).P a = none → C.P a = none := fun a h => by
    by_cases ha : a = p
    · subst ha
      exact nP
    · have h' : upd C.P p o a = none := h
      rw [upd_ne ha] at h'
      exact h'
  have kg : Same C.G0 C.P := fun a u e => by
    have ha : a ≠ p := fun z => by rw [z, nG0] at e; cases e
    have e' : upd C.P p o a = some u := r.g0P a u e
    rw [upd_ne ha] at e'
    exact e'
  refine ⟨⟨r.exG, fun a u e => ?_, r.ex0, kg, fun a h1 h2 => r.frG a (kp a h1) h2, r.len, fun i c o' h1 h2 => ?_, r.apart⟩, r.exP p o hp, fun h => r.frG p (by rw [hp]; simp) h, fun i m => ?_⟩
  · have ha : a ≠ p := fun z => by rw [z, nP] at e; cases e
    refine r.exP a u ?_
    show upd C.P p o a = some u
    rw [upd_ne ha]
    exact e
  · have hc := r.cells i c o' h1 h2
    cases c with
    | no => trivial
    | im d => exact hc
    | di kvs => exact hc
    | mu ds =>
      obtain ⟨q, xs, e, w1, w2, w3, w4⟩ := hc
      exact ⟨q, xs, e, w1, w2, w3, kn q w4⟩
    | rf ds =>
      obtain ⟨q, xs, e, w1, w2, w3, w4, w5⟩ := hc
      exact ⟨q, xs, e, w1, w2, w3, kn q w4, w5⟩
  · obtain ⟨xs, ds, _, _, _, z⟩ := r.muSome m
    rw [hp] at z
    cases z
end
end Ft
/-! FtRead: readings by the evaluator; the rules for names, constants, operators, tests, calls. -/
namespace Ft
open PySem PySem.Spec PyProof.Rows L2
/-- what is wanted behind an evaluation -/
def Out (C : RC) (cl : Str → Addr) (W : WX) (σ : L2.St) {α : Type} (r : R (α × Env)) (k : α → Env → Prop) : Prop := match r with
  | .ok (a, ρ) => k a ρ
  | .error (.exc n) => ∀ H', Same C.P H' → W (.ref (cl n)) none σ H'
  | .error .stuck => False
section
variable {C C' : RC} {cl : Str → Addr} {W : WX} {σ : L2.St} {α β : Type}
theorem Out.mono {r : R (α × Env)} {k k' : α → Env → Prop} (h : Out C cl W σ r k) (f : ∀ a ρ, r = .ok (a, ρ) → k a ρ → k' a ρ) : Out C cl W σ r k' := by
  cases r with
  | ok q =>
    obtain ⟨a, ρ⟩ := q
    exact f a ρ rfl h
  | error e =>
    cases e with
    | exc n => exact h
    | stuck => exact h
theorem Out.rc {r : R (α × Env)} {k : α → Env → Prop} (h : Out C cl W σ r k) (hP : ∀ H', Same C'.P H' → Same C.P H') : Out C' cl W σ r k := by
  cases r with
  | ok q =>
    obtain ⟨a, ρ⟩ := q
    exact h
  | error e =>
    cases e with
    | exc n => exact fun H' e => h H' (hP H' e)
    | stuck => exact h
theorem Out.bind {r : R (α × Env)} {f : α × Env → R (β × Env)} {k : β → Env → Prop} (h : Out C cl W σ (bindR r f) k) : Out C cl W σ r (fun a ρ => Out C cl W σ (f (a, ρ)) k) := by
  cases r with
  | ok q =>
    obtain ⟨a, ρ⟩ := q
    exact h
  | error e =>
    cases e with
    | exc n => exact h
    | stuck => exact h
theorem Out.bindc {r : R α} {f : α → R (β × Env)} {k : β → Env → Prop} (h : Out C cl W σ (bindC r f) k) : ∃ a, r = .ok a ∧ Out C cl W σ (f a) k := by
  cases r with
  | ok a => exact ⟨a, rfl, h⟩
  | error e => exact h.elim
end
theorem Same.with {C : RC} {p : Addr} {o : HO} (nP : C.P p = none) {H' : Hp} (e : Same (C.with p o).P H') : Same C.P H' := fun a u h => by
  have ha : a ≠ p := fun z => by rw [z, nP] at h; cases h
  refine e a u ?_
  show upd C.P p o a = some u
  rw [upd_ne ha]
  exact h
/-- a value that is looked at: known, or a list of one's own with known items -/
inductive PkD (K : PySem.W.Frag) (G H : Hp) : V → D → Prop where
  | kn {v : V} {d : D} (h : Dp K G v d) : PkD K G H v d
  | own {a : Addr} {xs : List V} {ds : List D} (h : H a = some (.lst xs)) (hd : DpAll K G xs ds) : PkD K G H (.ref a) (.list ds)
theorem PkD.dp {K : PySem.W.Frag} {G H : Hp} {v : V} {d : D} (h : PkD K G H v d) (e : Same G H) : Dp K H v d := by
  cases h with
  | kn h => exact dp_mono e h
  | own h hd => exact .lst (SqL.of h) (dps_mono e hd)
theorem PkD.lst {K : PySem.W.Frag} {G H : Hp} {v : V} {ds : List D} (h : PkD K G H v (.list ds)) (e : Same G H) : ∃ a xs, v = .ref a ∧ SqL K H a xs ∧ DpAll K G xs ds := by
  cases h with
  | kn h =>
    cases h with
    | lst h1 h2 => exact ⟨_, _, rfl, same_l e h1, h2⟩
  | own h hd => exact ⟨_, _, rfl, SqL.of h, hd⟩
theorem PkD.tup {K : PySem.W.Frag} {G H : Hp} {v : V} {ds : List D} (h : PkD K G H v (.tuple ds)) : Dp K G v (.tuple ds) := by
  cases h with
  | kn h => exact h
section
variable (F : Fns) (K : PySem.W.Frag) (cl : Str → Addr) (W : WX)
def rdE (e : E) : TE := fun σ H Q => ∃ C G ρ, Rel K C G ρ σ H ∧ Out C cl W σ (evE F e ρ) (fun d ρ' => ∀ G' v H', Same G G' → Rel K C G' ρ' σ H' → Dp K G' v d → Q v H')
/-- only looked at, at once -/
def rdP (e : E) : TE := fun σ H Q => ∃ C G ρ, Rel K C G ρ σ H ∧ Out C cl W σ (pk e ρ (evE F e ρ)) (fun d ρ' => ∀ G' v H', Same G G' → Rel K C G' ρ' σ H' → PkD K G' H' v d → Q v H')
/-- a new list of one's own -/
def rdF (e : E) : TE := fun σ H Q => ∃ C G ρ, Rel K C G ρ σ H ∧ Out C cl W σ (evE F e ρ) (fun d ρ' => ∃ ds, d = .list ds ∧ ∀ G' p xs H', Same G G' → Rel K C G' ρ' σ H' → Own C G' ρ' σ H' p xs → DpAll K G' xs ds → Q (.ref p) H')
def rdA (es : E) : TA := fun σ H Q => ∃ C G ρ, Rel K C G ρ σ H ∧ Out C cl W σ (evA F es ρ) (fun ds ρ' => ∀ G' vs H', Same G G' → Rel K C G' ρ' σ H' → DpAll K G' vs ds → Q vs H')
def rdT (e : E) : TT := fun σ H Q => ∃ C G ρ, Rel K C G ρ σ H ∧ Out C cl W σ (evT F e ρ) (fun b ρ' => ∀ G' H', Same G G' → Rel K C G' ρ' σ H' → Q b H')
def rdO (e : E) : TO := fun σ H Q => ∃ C G ρ, Rel K C G ρ σ H ∧ Out C cl W σ (evO F e ρ) (fun b ρ' => ∀ G' H', Same G G' → Rel K C G' ρ' σ H' → Q b H')
end
theorem PE.imp {X : Cx} {e : Expr} {t t' : TE} (h : PE X e t) (w : ∀ σ H Q, t' σ H Q → t σ H Q) : PE X e t' := ⟨fun pins s σ H Q I q => h.run pins s σ H Q I (w σ H Q q)⟩
theorem PT.imp {X : Cx} {e : Expr} {t t' : TT} (h : PT X e t) (w : ∀ σ H Q, t' σ H Q → t σ H Q) : PT X e t' := ⟨fun pins s σ H Q I q => h.run pins s σ H Q I (w σ H Q q)⟩
theorem PA.imp {X : Cx} {e : List Expr} {t t' : TA} (h : PA X e t) (w : ∀ σ H Q, t' σ H Q → t σ H Q) : PA X e t' := ⟨fun pos pins s σ H Q I q => h.run pos pins s σ H Q I (w σ H Q q)⟩
section
variable {F : Fns} {K : PySem.W.Frag} {cl : Str → Addr} {W : WX} {X : Cx} {a b e : E} {ea eb ee : Expr} {pos : Pos}
/-! ### names, constants -/
theorem s_loc {i : Nat} {x : Str} (hN : X.N[i]? = some x) (hv : Vis X.env.scope x) (hd : (x == ("__debug__" : Str)) = false) (hc : (x == ("__classdict__" : Str)) = false) : PE X (.Name x pos) (rdE F K cl W (.loc i)) := by
  refine PE.imp (pe_var hN hv hd hc) fun σ H Q ⟨C, G, ρ, r, h⟩ => ?_
  unfold evE rd at h
  cases hc : ρ[i]? with
  | none => rw [hc] at h; exact h.elim
  | some c =>
    rw [hc] at h
    cases c with
    | no => exact h.elim
    | rf ds => exact h.elim
    | di kvs => exact h.elim
    | im d =>
      obtain ⟨v, e, q⟩ := r.imAt hc
      exact ⟨v, e, h G v H (Same.refl G) r q⟩
    | mu ds =>
      obtain ⟨p, xs, e, nG, dp, r2⟩ := r.freeze hc
      exact ⟨_, e, h _ _ H (same_new nG) r2 dp⟩
theorem s_locP {i : Nat} {x : Str} (hN : X.N[i]? = some x) (hv : Vis X.env.scope x) (hd : (x == ("__debug__" : Str)) = false) (hc : (x == ("__classdict__" : Str)) = false) : PE X (.Name x pos) (rdP F K cl W (.loc i)) := by
  refine PE.imp (pe_var hN hv hd hc) fun σ H Q ⟨C, G, ρ, r, h⟩ => ?_
  unfold pk peek at h
  dsimp only at h
  cases hc : ρ[i]? with
  | none => rw [hc] at h; exact h.elim
  | some c =>
    rw [hc] at h
    cases c with
    | no => exact h.elim
    | di kvs => exact h.elim
    | im d =>
      obtain ⟨v, e, q⟩ := r.imAt hc
      exact ⟨v, e, h G v H (Same.refl G) r (.kn q)⟩
    | mu ds =>
      obtain ⟨p, xs, e, h1, h2, _⟩ := r.muAt hc rfl
      exact ⟨_, e, h G _ H (Same.refl G) r (.own h1 h2)⟩
    | rf ds =>
      obtain ⟨p, xs, e, h1, h2, _⟩ := r.muAt hc rfl
      exact ⟨_, e, h G _ H (Same.refl G) r (.own h1 h2)⟩
/-- any other expression that is looked at -/
theorem s_pk (h : PE X ea (rdE F K cl W a)) (hn : ∀ ρ r, pk a ρ r = r) : PE X ea (rdP F K cl W a) := by
  refine PE.imp h fun σ H Q ⟨C, G, ρ, r, q⟩ => ⟨C, G, ρ, r, ?_⟩
  rw [hn] at q
  exact q.mono fun d ρ' _ k G' v H' e r' dp => k G' v H' e r' (.kn dp)
theorem s_non {j : Nat} : PE X (.Constant .none j pos) (rdE F K cl W .non) := PE.imp pe_non fun σ H Q ⟨C, G, ρ, r, h⟩ => by
  unfold evE at h
  exact h G _ H (Same.refl G) r .non
theorem s_bl {j : Nat} {b : Bool} : PE X (.Constant (.bool b) j pos) (rdE F K cl W (.bl b)) := PE.imp pe_bl fun σ H Q ⟨C, G, ρ, r, h⟩ => by
  unfold evE at h
  exact h G _ H (Same.refl G) r (.bl b)
theorem s_int {j : Nat} {i : Int} : PE X (.Constant (.int i) j pos) (rdE F K cl W (.int i)) := PE.imp pe_int fun σ H Q ⟨C, G, ρ, r, h⟩ => by
  unfold evE at h
  exact h G _ H (Same.refl G) r (.int i)
theorem s_str {j : Nat} {i : Str} : PE X (.Constant (.str i) j pos) (rdE F K cl W (.str i)) := PE.imp pe_str fun σ H Q ⟨C, G, ρ, r, h⟩ => by
  unfold evE at h
  exact h G _ H (Same.refl G) r (.str i)
/-! ### operations by values -/
/-- a rule for two values that hands back z -/
def Bin2 (K : PySem.W.Frag) (r : R2) (f : D → D → R D) : Prop := ∀ {x y z : D} {vx vy : V} {C : RC} {G H : Hp} {ρ : Env} {σ : L2.St} {Q : VK}, f x y = .ok z → Rel K C G ρ σ H → Dp K G vx x → Dp K G vy y →
  (∀ G' v H', Same G G' → Rel K C G' ρ σ H' → Dp K G' v z → Q v H') → r vx vy H Q
/-- the second value only looked at -/
def Bin2P (K : PySem.W.Frag) (r : R2) (f : D → D → R Bool) : Prop := ∀ {x y : D} {z : Bool} {vx vy : V} {H : Hp} {Q : VK}, f x y = .ok z → Dp K H vx x → Dp K H vy y → Q (.bl z) H → r vx vy H Q
theorem s_bin {op : Operator} {o : Bi} {r : R2} (ho : OpR X (binaryOp op) r) (hb2 : Bin2 K r (binD o)) (ha : PE X ea (rdE F K cl W a)) (hb : PE X eb (rdE F K cl W b)) : PE X (.BinOp ea op eb pos) (rdE F K cl W (.bin o a b)) := by
  refine PE.imp (pe_op ho ha hb) fun σ H Q ⟨C, G, ρ, r, h⟩ => ⟨C, G, ρ, r, ?_⟩
  unfold evE at h
  refine h.bind.mono fun x ρ1 _ h1 G1 v1 H1 e1 r1 d1 => ⟨C, G1, ρ1, r1, ?_⟩
  refine Out.mono (Out.bind h1) fun y ρ2 _ h2 G2 v2 H2 e2 r2 d2 => ?_
  obtain ⟨z, hz, h3⟩ := Out.bindc h2
  exact hb2 hz r2 (dp_mono e2 d1) d2 fun G' v H' e3 r3 d3 => h3 G' v H' ((e1.trans e2).trans e3) r3 d3
theorem s_cmp {op : CmpOp} {c : Cm} {r : R2} (ho : OpR X (compareOp op) r) (hb2 : Bin2P K r (cmpD c)) (ha : PE X ea (rdE F K cl W a)) (hb : PE X eb (rdP F K cl W b)) (hm : behindInMarks op eb = false) : PE X (.Compare ea [op] [eb] pos) (rdE F K cl W (.cmp c a b)) := by
  refine PE.imp (pe_cmpR ho ha hb hm) fun σ H Q ⟨C, G, ρ, r, h⟩ => ⟨C, G, ρ, r, ?_⟩
  unfold evE at h
  refine h.bind.mono fun x ρ1 _ h1 G1 v1 H1 e1 r1 d1 => ⟨C, G1, ρ1, r1, ?_⟩
  refine Out.mono (Out.bind h1) fun y ρ2 _ h2 G2 v2 H2 e2 r2 d2 => ?_
  obtain ⟨z, hz, h3⟩ := Out.bindc h2
  exact hb2 hz (dp_mono (e2.trans r2.exG) d1) (d2.dp r2.exG) (h3 G2 _ H2 (e1.trans e2) r2 (.bl z))
theorem s_chain {op op' : CmpOp} {c c' : Cm} {r r' : R2} (ho : OpR X (compareOp op) r) (ho' : OpR X (compareOp op') r') (hb2 : Bin2P K r (cmpD c)) (hb2' : Bin2P K r' (cmpD c')) (ha : PE X ea (rdE F K cl W a)) (hb : PE X eb (rdE F K cl W b)) (he : PE X ee (rdE F K cl W e))
    (hm : behindInMarks op eb = false) (hm' : behindInMarks op' ee = false) : PE X (.Compare ea [op, op'] [eb, ee] pos) (rdE F K cl W (.chain c c' a b e)) := by
  refine PE.imp (pe_chain ho ho' ha hb he (hm := hm')) fun σ H Q ⟨C, G, ρ, r, h⟩ => ⟨C, G, ρ, r, ?_⟩
  unfold evE at h
  refine h.bind.mono fun x ρ1 _ h1 G1 v1 H1 e1 r1 d1 => ⟨C, G1, ρ1, r1, ?_⟩
  refine Out.mono (Out.bind h1) fun y ρ2 _ h2 G2 v2 H2 e2 r2 d2 => ?_
  obtain ⟨z, hz, h3⟩ := Out.bindc h2
  refine hb2 hz (dp_mono (e2.trans r2.exG) d1) (dp_mono r2.exG d2) ⟨z, rfl, ?_⟩
  cases z with
  | false =>
    rw [if_neg Bool.false_ne_true] at h3
    exact iteF (h3 G2 _ H2 (e1.trans e2) r2 (.bl false))
  | true =>
    rw [if_pos rfl] at h3
    refine iteT ⟨C, G2, ρ2, r2, ?_⟩
    refine Out.mono (Out.bind h3) fun u ρ3 _ h4 G3 v3 H3 e3 r3 d3 => ?_
    obtain ⟨z', hz', h5⟩ := Out.bindc h4
    exact hb2' hz' (dp_mono (e3.trans r3.exG) d2) (dp_mono r3.exG d3) (h5 G3 _ H3 ((e1.trans e2).trans e3) r3 (.bl z'))
end
end Ft
/-! FtRead2: connectives, tests, displays, arguments, calls, built-ins. -/
namespace Ft
open PySem PySem.Spec PyProof.Rows L2
def nostar : Expr → Bool
  | .Starred _ _ => false
  | _ => true
theorem star_cons {e : Expr} {es : List Expr} {env : PySem.Env} (h : nostar e = true) : starEach (e :: es) env = (false, eval e env) :: starEach es env := by
  cases e <;> first | rfl | cases h
theorem star_none {pos : Pos} {env : PySem.Env} : ∀ {es : List Expr}, es.all nostar = true → (backTo pos (starEach es env)).any (·.1) = false
  | [], _ => rfl
  | e :: es, h => by
    have h' : (nostar e && es.all nostar) = true := h
    rw [Bool.and_eq_true] at h'
    rw [star_cons h'.1]
    have ih := star_none (pos := pos) (env := env) h'.2
    unfold backTo at ih ⊢
    rw [List.map_cons, List.any_cons, ih]
    rfl
/-- its test is its value's truth -/
def plainT : Expr → Bool
  | .UnaryOp .Not _ _ => false
  | .BoolOp _ _ _ => false
  | .IfExp _ _ _ _ => false
  | .Compare _ _ _ _ => false
  | _ => true
theorem plain_isTrue {e : Expr} {env : PySem.Env} (h : plainT e = true) (whole : Sem Value) : isTrue e env whole = (do let v ← whole; standAt e.pos; holding [v] (truthy v)) := by
  cases e with
  | UnaryOp op a p => cases op <;> first | rfl | cases h
  | BoolOp _ _ _ => cases h
  | IfExp _ _ _ _ => cases h
  | Compare _ _ _ _ => cases h
  | _ => rfl
section
variable {F : Fns} {K : PySem.W.Frag} {cl : Str → Addr} {W : WX} {X : Cx} {a b e t as es : E} {ea eb ee ec : Expr} {pos : Pos} {rest : List Expr}
/-! ### connectives as values -/
theorem s_neg (ha : PE X ea (rdE F K cl W a)) : PE X (.UnaryOp .USub ea pos) (rdE F K cl W (.neg a)) := by
  refine PE.imp (pe_un un_neg ha) fun σ H Q ⟨C, G, ρ, r, h⟩ => ⟨C, G, ρ, r, ?_⟩
  unfold evE at h
  refine h.bind.mono fun x ρ1 _ h1 G1 v1 H1 e1 r1 d1 => ?_
  cases d1 with
  | int i => exact ⟨i, rfl, h1 G1 _ H1 e1 r1 (.int _)⟩
  | _ => exact (show False from h1).elim
theorem s_and (ha : PE X ea (rdE F K cl W a)) (hb : PE X (.BoolOp .And (eb :: rest) pos) (rdE F K cl W b)) : PE X (.BoolOp .And (ea :: eb :: rest) pos) (rdE F K cl W (.and a b)) := by
  refine PE.imp (pe_and ha hb) fun σ H Q ⟨C, G, ρ, r, h⟩ => ⟨C, G, ρ, r, ?_⟩
  unfold evE at h
  refine h.bind.mono fun x ρ1 _ h1 G1 v1 H1 e1 r1 d1 => ?_
  cases d1 with
  | bl i =>
    refine ⟨i, rfl, ?_⟩
    cases i with
    | true => exact iteT ⟨C, G1, ρ1, r1, Out.mono h1 fun d ρ2 _ k G2 v2 H2 e2 r2 d2 => k G2 v2 H2 (e1.trans e2) r2 d2⟩
    | false => exact iteF (h1 G1 _ H1 e1 r1 (.bl _))
  | _ => exact (show False from h1).elim
theorem s_or (ha : PE X ea (rdE F K cl W a)) (hb : PE X (.BoolOp .Or (eb :: rest) pos) (rdE F K cl W b)) : PE X (.BoolOp .Or (ea :: eb :: rest) pos) (rdE F K cl W (.or a b)) := by
  refine PE.imp (pe_or ha hb) fun σ H Q ⟨C, G, ρ, r, h⟩ => ⟨C, G, ρ, r, ?_⟩
  unfold evE at h
  refine h.bind.mono fun x ρ1 _ h1 G1 v1 H1 e1 r1 d1 => ?_
  cases d1 with
  | bl i =>
    refine ⟨i, rfl, ?_⟩
    cases i with
    | false => exact iteF ⟨C, G1, ρ1, r1, Out.mono h1 fun d ρ2 _ k G2 v2 H2 e2 r2 d2 => k G2 v2 H2 (e1.trans e2) r2 d2⟩
    | true => exact iteT (h1 G1 _ H1 e1 r1 (.bl _))
  | _ => exact (show False from h1).elim
theorem s_ife (ht : PT X ec (rdT F K cl W t)) (ha : PE X ea (rdE F K cl W a)) (hb : PE X eb (rdE F K cl W b)) : PE X (.IfExp ec ea eb pos) (rdE F K cl W (.ife t a b)) := by
  refine PE.imp (pe_ifExp ht ha hb) fun σ H Q ⟨C, G, ρ, r, h⟩ => ⟨C, G, ρ, r, ?_⟩
  unfold evE at h
  refine h.bind.mono fun c ρ1 _ h1 G1 H1 e1 r1 => ?_
  have h1 : Out C cl W σ (if c = true then evE F a ρ1 else evE F b ρ1) _ := h1
  cases c with
  | true =>
    rw [if_pos rfl] at h1
    exact iteT ⟨C, G1, ρ1, r1, Out.mono h1 fun d ρ2 _ k G2 v2 H2 e2 r2 d2 => k G2 v2 H2 (e1.trans e2) r2 d2⟩
  | false =>
    rw [if_neg Bool.false_ne_true] at h1
    exact iteF ⟨C, G1, ρ1, r1, Out.mono h1 fun d ρ2 _ k G2 v2 H2 e2 r2 d2 => k G2 v2 H2 (e1.trans e2) r2 d2⟩
/-! ### tests -/
theorem t_tt_false : True := trivial
theorem t_not (ha : PT X ea (rdT F K cl W a)) : PT X (.UnaryOp .Not ea pos) (rdT F K cl W (.not a)) := by
  refine PT.imp (pt_not ha) fun σ H Q ⟨C, G, ρ, r, h⟩ => ⟨C, G, ρ, r, ?_⟩
  unfold evT at h
  exact h.bind.mono fun c ρ1 _ h1 G1 H1 e1 r1 => h1 G1 H1 e1 r1
theorem t_and (ha : PT X ea (rdT F K cl W a)) (hb : PW X (.BoolOp .And (eb :: rest) pos) (rdT F K cl W b)) : PW X (.BoolOp .And (ea :: eb :: rest) pos) (rdT F K cl W (.and a b)) := by
  refine ⟨fun wh pins s σ H Q I hq => (pw_and ha hb).run wh pins s σ H Q I ?_⟩
  obtain ⟨C, G, ρ, r, h⟩ := hq
  refine ⟨C, G, ρ, r, ?_⟩
  unfold evT at h
  refine h.bind.mono fun c ρ1 _ h1 G1 H1 e1 r1 => ?_
  have h1 : Out C cl W σ (if c = true then evT F b ρ1 else .ok (false, ρ1)) _ := h1
  cases c with
  | true =>
    rw [if_pos rfl] at h1
    exact iteT ⟨C, G1, ρ1, r1, Out.mono h1 fun d ρ2 _ k G2 H2 e2 r2 => k G2 H2 (e1.trans e2) r2⟩
  | false =>
    rw [if_neg Bool.false_ne_true] at h1
    exact iteF (h1 G1 H1 e1 r1)
theorem t_or (ha : PT X ea (rdT F K cl W a)) (hb : PW X (.BoolOp .Or (eb :: rest) pos) (rdT F K cl W b)) : PW X (.BoolOp .Or (ea :: eb :: rest) pos) (rdT F K cl W (.or a b)) := by
  refine ⟨fun wh pins s σ H Q I hq => (pw_or ha hb).run wh pins s σ H Q I ?_⟩
  obtain ⟨C, G, ρ, r, h⟩ := hq
  refine ⟨C, G, ρ, r, ?_⟩
  unfold evT at h
  refine h.bind.mono fun c ρ1 _ h1 G1 H1 e1 r1 => ?_
  have h1 : Out C cl W σ (if c = true then .ok (true, ρ1) else evT F b ρ1) _ := h1
  cases c with
  | false =>
    rw [if_neg Bool.false_ne_true] at h1
    exact iteF ⟨C, G1, ρ1, r1, Out.mono h1 fun d ρ2 _ k G2 H2 e2 r2 => k G2 H2 (e1.trans e2) r2⟩
  | true =>
    rw [if_pos rfl] at h1
    exact iteT (h1 G1 H1 e1 r1)
theorem t_ife (ht : PT X ec (rdT F K cl W t)) (ha : PT X ea (rdT F K cl W a)) (hb : PT X eb (rdT F K cl W b)) : PT X (.IfExp ec ea eb pos) (rdT F K cl W (.ife t a b)) := by
  refine ⟨fun pins s σ H Q I hq => ?_⟩
  obtain ⟨C, G, ρ, r, h⟩ := hq
  unfold evT at h
  rw [arm_isTrue_IfExp]
  refine wpAny_bind (thn (ht.run pins s σ H (fun c H1 => if c = true then rdT F K cl W a σ H1 Q else rdT F K cl W b σ H1 Q) I ⟨C, G, ρ, r, h.bind.mono fun c ρ1 _ h1 G1 H1 e1 r1 => ?_⟩) fun d s1 ⟨H1, I1, q1⟩ => ?_)
  · have h1 : Out C cl W σ (if c = true then evT F a ρ1 else evT F b ρ1) _ := h1
    cases c with
    | true =>
      rw [if_pos rfl] at h1
      exact iteT ⟨C, G1, ρ1, r1, Out.mono h1 fun d ρ2 _ k G2 H2 e2 r2 => k G2 H2 (e1.trans e2) r2⟩
    | false =>
      rw [if_neg Bool.false_ne_true] at h1
      exact iteF ⟨C, G1, ρ1, r1, Out.mono h1 fun d ρ2 _ k G2 H2 e2 r2 => k G2 H2 (e1.trans e2) r2⟩
  · cases d with
    | true => exact ha.run pins s1 σ H1 Q I1 q1
    | false => exact hb.run pins s1 σ H1 Q I1 q1
theorem tru_of {x : D} {b : Bool} {v : V} {H : Hp} (hx : truthD x = .ok b) (d : Dp K H v x) : TruV K v H b := by
  cases d with
  | non => cases hx; rfl
  | bl c => cases hx; rfl
  | int i => cases hx; rfl
  | str s =>
    have hx : (if s.length ≤ LIM then Except.ok (s.length != 0) else stk) = Except.ok b := hx
    split at hx
    · rename_i hl
      cases hx
      refine ⟨Nat.le_trans hl (by decide), ?_⟩
      cases hn : s.length <;> rfl
    · cases hx
  | lst h ha =>
    cases hx
    refine .inl ⟨_, h, ?_⟩
    cases ha <;> rfl
  | tup h ha =>
    cases hx
    refine .inr (.inl ⟨_, h.sq, ?_⟩)
    cases ha <;> rfl
theorem s_not (hK : X.K = K) (ha : PE X ea (rdE F K cl W a)) : PE X (.UnaryOp .Not ea pos) (rdE F K cl W (.not a)) := by
  refine PE.imp (pe_notT ha) fun σ H Q ⟨C, G, ρ, r, h⟩ => ⟨C, G, ρ, r, ?_⟩
  unfold evE at h
  refine h.bind.mono fun x ρ1 _ h1 G1 v1 H1 e1 r1 d1 => ?_
  obtain ⟨b, hb, h2⟩ := Out.bindc h1
  exact ⟨b, by rw [hK]; exact tru_of hb (dp_mono r1.exG d1), h2 G1 _ H1 e1 r1 (.bl _)⟩
theorem t_tr (hK : X.K = K) (ha : PE X ea (rdP F K cl W a)) (hp : plainT ea = true) : PT X ea (rdT F K cl W (.tr a)) := by
  refine PT.imp (pt_truth ha (plain_isTrue hp)) fun σ H Q ⟨C, G, ρ, r, h⟩ => ⟨C, G, ρ, r, ?_⟩
  unfold evT at h
  refine h.bind.mono fun x ρ1 _ h1 G1 v1 H1 e1 r1 d1 => ?_
  obtain ⟨b, hb, h2⟩ := Out.bindc h1
  exact ⟨b, by rw [hK]; exact tru_of hb (d1.dp r1.exG), h2 G1 H1 e1 r1⟩
/-- a comparison as a test -/
theorem t_cmp {op : CmpOp} {c : Cm} {r : R2} (ho : OpR X (compareOp op) r) (hb2 : Bin2P K r (cmpD c)) (ha : PE X ea (rdE F K cl W a)) (hb : PE X eb (rdP F K cl W b)) (hm : behindInMarks op eb = false) : PT X (.Compare ea [op] [eb] pos) (rdT F K cl W (.tr (.cmp c a b))) := by
  refine PT.imp (pt_cmpR ho ha hb hm) fun σ H Q ⟨C, G, ρ, r, h⟩ => ⟨C, G, ρ, r, ?_⟩
  unfold evT pk evE at h
  refine h.bind.bind.mono fun x ρ1 _ h1 G1 v1 H1 e1 r1 d1 => ⟨C, G1, ρ1, r1, ?_⟩
  refine Out.mono (Out.bind h1) fun y ρ2 _ h2 G2 v2 H2 e2 r2 d2 => ?_
  obtain ⟨z, hz, h3⟩ := Out.bindc h2
  exact hb2 hz (dp_mono (e2.trans r2.exG) d1) (d2.dp r2.exG) ⟨z, rfl, h3 G2 H2 (e1.trans e2) r2⟩
theorem t_chain {op op' : CmpOp} {c c' : Cm} {r r' : R2} (ho : OpR X (compareOp op) r) (ho' : OpR X (compareOp op') r') (hb2 : Bin2P K r (cmpD c)) (hb2' : Bin2P K r' (cmpD c')) (ha : PE X ea (rdE F K cl W a)) (hb : PE X eb (rdE F K cl W b)) (he : PE X ee (rdE F K cl W e))
    (hm : behindInMarks op eb = false) (hm' : behindInMarks op' ee = false) : PT X (.Compare ea [op, op'] [eb, ee] pos) (rdT F K cl W (.tr (.chain c c' a b e))) := by
  refine PT.imp (pt_chain ho ho' ha hb he (hm := hm')) fun σ H Q ⟨C, G, ρ, r, h⟩ => ⟨C, G, ρ, r, ?_⟩
  unfold evT pk evE at h
  refine h.bind.bind.mono fun x ρ1 _ h1 G1 v1 H1 e1 r1 d1 => ⟨C, G1, ρ1, r1, ?_⟩
  refine Out.mono (Out.bind h1) fun y ρ2 _ h2 G2 v2 H2 e2 r2 d2 => ?_
  obtain ⟨z, hz, h3⟩ := Out.bindc h2
  refine hb2 hz (dp_mono (e2.trans r2.exG) d1) (dp_mono r2.exG d2) ⟨z, rfl, ?_⟩
  cases z with
  | false =>
    rw [if_neg Bool.false_ne_true] at h3
    exact iteF ⟨false, rfl, h3 G2 H2 (e1.trans e2) r2⟩
  | true =>
    rw [if_pos rfl] at h3
    refine iteT ⟨C, G2, ρ2, r2, ?_⟩
    refine Out.mono (Out.bind h3) fun u ρ3 _ h4 G3 v3 H3 e3 r3 d3 => ?_
    obtain ⟨z', hz', h5⟩ := Out.bindc h4
    exact hb2' hz' (dp_mono (e3.trans r3.exG) d2) (dp_mono r3.exG d3) ⟨z', rfl, h5 G3 H3 ((e1.trans e2).trans e3) r3⟩
/-! ### arguments, displays -/
theorem a_nil : PA X [] (rdA F K cl W .nil) := PA.imp pa_nil fun σ H Q ⟨C, G, ρ, r, h⟩ => by
  unfold evA at h
  exact h G [] H (Same.refl G) r .nil
theorem a_cons {ees : List Expr} (he : PE X ee (rdE F K cl W e)) (hs : PA X ees (rdA F K cl W es)) (hn : nostar ee = true) : PA X (ee :: ees) (rdA F K cl W (.cons e es)) := by
  refine PA.imp (pa_cons he hs (star_cons hn)) fun σ H Q ⟨C, G, ρ, r, h⟩ => ⟨C, G, ρ, r, ?_⟩
  unfold evA at h
  refine h.bind.mono fun x ρ1 _ h1 G1 v1 H1 e1 r1 d1 => ⟨C, G1, ρ1, r1, ?_⟩
  refine Out.mono (Out.bind h1) fun ds ρ2 _ h2 G2 vs H2 e2 r2 d2 => ?_
  exact h2 G2 (v1 :: vs) H2 (e1.trans e2) r2 (.cons (dp_mono e2 d1) d2)
def alen : E → Nat
  | .cons _ es => alen es + 1
  | _ => 0
theorem evA_len : ∀ (es : E) {ρ ρ' : Env} {ds : List D}, evA F es ρ = .ok (ds, ρ') → ds.length = alen es := by
  intro es
  induction es with
  | nil =>
    intro ρ ρ' ds h
    unfold evA at h
    cases h
    rfl
  | cons e es _ ih =>
    intro ρ ρ' ds h
    unfold evA at h
    cases h1 : evE F e ρ with
    | error x => rw [h1] at h; cases h
    | ok q =>
      obtain ⟨d, ρ1⟩ := q
      rw [h1] at h
      have h : bindR (evA F es ρ1) (fun (ds, ρ2) => .ok (d :: ds, ρ2)) = .ok (ds, ρ') := h
      cases h2 : evA F es ρ1 with
      | error x => rw [h2] at h; cases h
      | ok q2 =>
        obtain ⟨ds1, ρ2⟩ := q2
        rw [h2] at h
        cases h
        rw [List.length_cons, ih h2]
        rfl
  | _ =>
    intro ρ ρ' ds h
    unfold evA at h
    cases h
theorem s_tup {ees : List Expr} {k : Nat} (h : PA X ees (rdA F K cl W as)) (hl : alen as ≤ 1000) : PE X (.Tuple ees k pos) (rdE F K cl W (.tup as)) := by
  refine PE.imp (pe_tupN h) fun σ H Q ⟨C, G, ρ, r, h⟩ => ⟨C, G, ρ, r, ?_⟩
  unfold evE at h
  refine h.bind.mono fun ds ρ1 he h1 G1 vs H1 e1 r1 d1 => ⟨?_, fun p o hp ho => ?_⟩
  · rw [dps_len d1, evA_len as he]
    exact Nat.le_trans hl (by decide)
  · exact h1 _ _ _ (e1.trans (same_new (r1.nG hp))) (r1.know hp) (.tup (NT.of ho upd_same) (dps_mono (same_new (r1.nG hp)) d1))
theorem f_lst {ees : List Expr} (h : PA X ees (rdA F K cl W as)) (hl : alen as ≤ 1000) : PE X (.List ees pos) (rdF F K cl W (.lst as)) := by
  refine PE.imp (pe_lst h) fun σ H Q ⟨C, G, ρ, r, h⟩ => ⟨C, G, ρ, r, ?_⟩
  unfold evE at h
  refine h.bind.mono fun ds ρ1 he h1 G1 vs H1 e1 r1 d1 => ⟨?_, fun p hp => ?_⟩
  · rw [dps_len d1, evA_len as he]
    exact Nat.le_trans hl (by decide)
  · obtain ⟨es, ee, h2⟩ := h1
    cases ee
    exact h2 G1 p vs _ e1 (r1.alloc hp) (r1.own hp) d1
/-- a new list that becomes known -/
theorem s_ofF (h : PE X ea (rdF F K cl W a)) (hL : ∀ {ρ ρ' d}, evE F a ρ = .ok (d, ρ') → ∃ ds, d = .list ds) : PE X ea (rdE F K cl W a) := by
  refine PE.imp h fun σ H Q ⟨C, G, ρ, r, h⟩ => ⟨C, G, ρ, r, ?_⟩
  refine h.mono fun d ρ' he k => ?_
  obtain ⟨ds, hd⟩ := hL he
  refine ⟨ds, hd, fun G' p xs H' e' r' o hx => k _ _ _ (e'.trans o.same) (r'.take o) ?_⟩
  subst hd
  exact .lst (SqL.of upd_same) (dps_mono o.same hx)
theorem lst_list {ρ ρ' : Env} {d : D} (h : evE F (.lst as) ρ = .ok (d, ρ')) : ∃ ds, d = .list ds := by
  unfold evE at h
  cases h1 : evA F as ρ with
  | error x => rw [h1] at h; cases h
  | ok q =>
    obtain ⟨ds, ρ1⟩ := q
    rw [h1] at h
    cases h
    exact ⟨ds, rfl⟩
theorem s_lst {ees : List Expr} (h : PA X ees (rdA F K cl W as)) (hl : alen as ≤ 1000) : PE X (.List ees pos) (rdE F K cl W (.lst as)) := s_ofF (f_lst h hl) lst_list
end
end Ft
/-! FtRep: tuple * 1. -/
namespace Ft
open PySem PySem.Spec PyProof.Rows L2
theorem tuple_mul1 (l : Addr) (items : Array Value) (n : Nat) (dd : Option Addr) (sl : Array (Option Value)) (u : Tok) :
    Meets (Builtin.«tuple.__mul__» ⟨[.ref l, .int 1 u], []⟩) (fun _ R s => s.heap.get? l = some { cls := .type "tuple", dict := dd, data := .seq items n, slots := sl } ∧
      R (.ok (.ret (Value.ref l))) s) :=
  .of_wp fun prog w A R s h => by
    obtain ⟨hp, g, d, tk, os⟩ := s
    obtain ⟨hl, h⟩ := h
    have f1 := AutoSeq1.idx_int
    have c0 : (decide ((1 : Int) < -(2 ^ 63)) || decide ((1 : Int) ≥ 2 ^ 63)) = false := by decide
    have c1 : (items.isEmpty || (1 : Int) == 1) = true := by simp
    wp_walk using wpAny_loadPart' hl
    repeat (first
      | (refine wpAny_ite_false (decide_eq_false (by rw [c0]; exact Bool.false_ne_true)) ?_; wp_walk using wpAny_loadPart' hl)
      | (refine wpAny_ite_true (decide_eq_true c1) ?_; wp_walk using wpAny_loadPart' hl))
    exact ⟨_, rfl, h⟩
def rRepT1 (K : PySem.W.Frag) : R2 := fun x y H Q => ∃ l xs, x = .ref l ∧ y = .int 1 ∧ SqT K H l xs ∧ Q (.ref l) H
theorem op_repT1 {X : Cx} : OpR X (binaryOp .Mult) (rRepT1 X.K) := by
  intro pins s σ H x y v u Q I rx ry h
  obtain ⟨l, xs, rfl, rfl, hT, q⟩ := h
  cases rx
  obtain ⟨t, rfl⟩ := ry
  obtain ⟨its, r, ⟨⟨cls, dd, data, sl⟩, ho, hc, n, hd⟩, hs⟩ := I.tuple hT
  simp only at hc hd
  subst hc hd
  refine wpAny_binaryOp_repeat_ref (T := "tuple") (U := "int") (by decide) ⟨_, ho, rfl⟩ (fun s' => typeIs_int s' 1 t) noFill_tuple_mul F.fills_int_mul F.slot_int_rmul repeat_tuple F.slot_int_index.lookup
    (call_meets F.slot_int_rmul (typeIs_int s 1 t) F.entry_int_rmul (F.args_int_rmul_2 _ _) (int_rmul_tuple 1 t l its.toArray n dd sl)
      ⟨ho, rfl, ⟨_, ho, rfl⟩, call_meets F.slot_tuple_mul ⟨_, ho, rfl⟩ F.entry_tuple_mul (F.args_tuple_mul_2 _ _) (tuple_mul1 l its.toArray n dd sl t) ⟨ho, ?_⟩⟩)
  exact ⟨.ref l, _, I, rfl, q⟩
end Ft
/-! FtOps: the operators by values. -/
namespace Ft
open PySem PySem.Spec PyProof.Rows L2
section
variable {X : Cx} {K : PySem.W.Frag}
/-- list + list, whatever they are held by -/
def rCatL (K : PySem.W.Frag) : R2 := fun x y H Q => ∃ l b xs zs, x = .ref l ∧ y = .ref b ∧ SqL K H l xs ∧ SqL K H b zs ∧ xs.length + zs.length ≤ sizeLine ∧ ∀ p, H p = none → Q (.ref p) (upd H p (.lst (xs ++ zs)))
theorem op_catL : OpR X (binaryOp .Add) (rCatL X.K) := by
  intro pins s σ H x y v u Q I rx ry h
  obtain ⟨l, b, xs, zs, rfl, rfl, hH, hB, hz, q⟩ := h
  cases rx
  cases ry
  obtain ⟨its, r, ⟨o1, n1, e1, c1, d1, t1⟩, z⟩ := I.list hH
  obtain ⟨its2, r2, ⟨o2, n2, e2, c2, d2, t2⟩, z2⟩ := I.list hB
  obtain ⟨cls, dd, data, sl⟩ := o1
  obtain ⟨cls2, dd2, data2, sl2⟩ := o2
  simp only at c1 t1 c2 t2
  subst c1 t1 c2 t2
  have h1 := r.length
  have h2 := r2.length
  refine concat_meets ⟨_, e1, rfl⟩ ⟨_, e2, rfl⟩ noFill_list_add seq_list_add PySem.F.slot_list_add PySem.F.entry_list_add (PySem.F.args_list_add_2 _ _) (list_addW l b its.toArray its2.toArray n1 n2 dd dd2 sl sl2 (by rw [List.size_toArray, List.size_toArray]; omega)) ⟨e1, e2, ?_⟩
  have ea : its.toArray ++ its2.toArray = (its ++ its2).toArray := by simp
  rw [ea]
  exact ⟨.ref _, _, I.lnew (t' := s.toks) (r.append r2) (by rw [List.length_append]; omega), rfl, q _ I.fresh⟩
def rAddAll (K : PySem.W.Frag) : R2 := fun x y H Q => (rI0 fun i j => .int (i + j)) x y H Q ∨ (∃ i j, x = .str i ∧ y = .str j ∧ i.length + j.length ≤ sizeLine ∧ Q (.str (i ++ j)) H) ∨ rCatL K x y H Q ∨ rCatN K x y H Q
theorem op_addAll : OpR X (binaryOp .Add) (rAddAll X.K) := OpR.or op_add (OpR.or op_add_str (OpR.or op_catL op_catN))
theorem lim_line {n : Nat} (h : n ≤ LIM) : n ≤ sizeLine := Nat.le_trans h (by decide)
theorem add_cases {x y z : D} (h : binD .add x y = .ok z) : (∃ i j, x = .int i ∧ y = .int j ∧ z = .int (i + j)) ∨ (∃ a b, x = .str a ∧ y = .str b ∧ a.length + b.length ≤ LIM ∧ z = .str (a ++ b)) ∨
    (∃ a b, x = .list a ∧ y = .list b ∧ a.length + b.length ≤ LIM ∧ z = .list (a ++ b)) ∨ ∃ a b, x = .tuple a ∧ y = .tuple b ∧ a.length + b.length ≤ LIM ∧ z = .tuple (a ++ b) := by
  cases x with
  | int i =>
    cases y with
    | int j => cases h; exact .inl ⟨_, _, rfl, rfl, rfl⟩
    | _ => cases h
  | str a =>
    cases y with
    | str b =>
      have h : (if a.length + b.length ≤ LIM then Except.ok (PyData.str (a ++ b)) else stk) = Except.ok z := h
      split at h
      · rename_i hl
        cases h
        exact .inr (.inl ⟨_, _, rfl, rfl, hl, rfl⟩)
      · cases h
    | _ => cases h
  | list a =>
    cases y with
    | list b =>
      have h : (if a.length + b.length ≤ LIM then Except.ok (PyData.list (a ++ b)) else stk) = Except.ok z := h
      split at h
      · rename_i hl
        cases h
        exact .inr (.inr (.inl ⟨_, _, rfl, rfl, hl, rfl⟩))
      · cases h
    | _ => cases h
  | tuple a =>
    cases y with
    | tuple b =>
      have h : (if a.length + b.length ≤ LIM then Except.ok (PyData.tuple (a ++ b)) else stk) = Except.ok z := h
      split at h
      · rename_i hl
        cases h
        exact .inr (.inr (.inr ⟨_, _, rfl, rfl, hl, rfl⟩))
      · cases h
    | _ => cases h
  | _ => cases h
theorem b2_add : Bin2 K (rAddAll K) (binD .add) := by
  intro x y z vx vy C G H ρ σ Q hz r dx dy k
  rcases add_cases hz with ⟨i, j, rfl, rfl, rfl⟩ | ⟨a, b, rfl, rfl, hl, rfl⟩ | ⟨a, b, rfl, rfl, hl, rfl⟩ | ⟨a, b, rfl, rfl, hl, rfl⟩
  · cases dx
    cases dy
    exact .inl ⟨i, j, rfl, rfl, k G _ H (Same.refl G) r (.int _)⟩
  · cases dx
    cases dy
    exact .inr (.inl ⟨a, b, rfl, rfl, lim_line hl, k G _ H (Same.refl G) r (.str _)⟩)
  · cases dx with
    | lst h1 a1 =>
      cases dy with
      | lst h2 a2 =>
        refine .inr (.inr (.inl ⟨_, _, _, _, rfl, rfl, same_l r.exG h1, same_l r.exG h2, by rw [dps_len a1, dps_len a2]; exact lim_line hl, fun p hp => ?_⟩))
        have nG := r.nG hp
        exact k _ _ _ (same_new nG) (r.know hp) (.lst (SqL.of upd_same) (dps_mono (same_new nG) (dps_append a1 a2)))
  · cases dx with
    | tup h1 a1 =>
      cases dy with
      | tup h2 a2 =>
        refine .inr (.inr (.inr ⟨_, _, _, _, rfl, rfl, same_t r.exG h1, same_t r.exG h2, by rw [dps_len a1, dps_len a2]; exact lim_line hl, fun e => ?_, fun _ e => ?_, fun _ _ p o hp ho => ?_⟩))
        · subst e
          cases a1
          exact k G _ H (Same.refl G) r (.tup h2 a2)
        · subst e
          cases a2
          rw [List.append_nil] at k
          exact k G _ H (Same.refl G) r (.tup h1 a1)
        · have nG := r.nG hp
          exact k _ _ _ (same_new nG) (r.know hp) (.tup (NT.of ho upd_same) (dps_mono (same_new nG) (dps_append a1 a2)))
/-- the ints' operations -/
theorem b2_int {o : Bi} {r : R2} (P : Int → Int → Prop) (g : Int → Int → Int) (hc : ∀ {x y z : D}, binD o x y = .ok z → ∃ i j, x = .int i ∧ y = .int j ∧ P i j ∧ z = .int (g i j)) (hr : ∀ i j H Q, P i j → Q (.int (g i j)) H → r (.int i) (.int j) H Q) : Bin2 K r (binD o) := by
  intro x y z vx vy C G H ρ σ Q hz rr dx dy k
  obtain ⟨i, j, rfl, rfl, p, rfl⟩ := hc hz
  cases dx
  cases dy
  exact hr i j H Q p (k G _ H (Same.refl G) rr (.int _))
theorem b2_sub : Bin2 K (rI0 fun i j => .int (i - j)) (binD .sub) := b2_int (fun _ _ => True) (fun i j => i - j) (fun {x y z} h => by
  cases x <;> cases y <;> cases h
  exact ⟨_, _, rfl, rfl, trivial, rfl⟩) (fun i j H Q _ q => ⟨i, j, rfl, rfl, q⟩)
theorem natAbs_lt {i : Int} (h : i.natAbs < 2 ^ 64) : -(2 ^ 64) < i ∧ i < 2 ^ 64 := by omega
def CMulA (i j : Int) : Prop := CMul i j ∨ CMulW i j
theorem op_mulA : OpR X (binaryOp .Mult) (rI CMulA fun i j => .int (i * j)) := by
  intro pins s σ H x y v u Q I rx ry h
  obtain ⟨i, j, e1, e2, hc, q⟩ := h
  rcases hc with hc | hc
  · exact op_mul pins s σ H x y v u Q I rx ry ⟨i, j, e1, e2, hc, q⟩
  · exact op_mulW pins s σ H x y v u Q I rx ry ⟨i, j, e1, e2, hc, q⟩
theorem mulA_of {i j : Int} (h : mulOk i j) : CMulA i j := by
  rcases h with h | h | h
  · exact .inl (.inl (natAbs_lt h))
  · exact .inl (.inr (natAbs_lt h))
  · exact .inr h
/-- a text once or not at all -/
def rMulS : R2 := fun x y H Q => ∃ a n, x = .str a ∧ y = .int n ∧ (n = 0 ∨ n = 1) ∧ Q (.str (if n = 0 then Str.empty else a)) H
theorem op_mulS : OpR X (binaryOp .Mult) rMulS := by
  intro pins s σ H x y v u Q I rx ry h
  obtain ⟨a, n, rfl, rfl, hn, q⟩ := h
  obtain ⟨t, rfl⟩ := rx
  obtain ⟨t2, rfl⟩ := ry
  have hm : Txt.mul a n = if n = 0 then Str.empty else a := by
    unfold Txt.mul
    rcases hn with rfl | rfl <;> rfl
  have hok : MulOk a n := by
    rcases hn with rfl | rfl
    · exact ⟨by decide, fun h => absurd (by decide) h, fun h => absurd (by decide) h⟩
    · exact ⟨by decide, fun _ h => by simp at h, fun _ h => by simp at h⟩
  refine SB.mul hok fun t' k => ⟨.str _, H, I.tok k, ⟨t', rfl⟩, ?_⟩
  rw [hm]
  exact q
def rMulAll (K : PySem.W.Frag) : R2 := fun x y H Q => (rI CMulA fun i j => .int (i * j)) x y H Q ∨ rRepN K x y H Q ∨ rRepT1 K x y H Q ∨ rMulS x y H Q
theorem op_mulAll : OpR X (binaryOp .Mult) (rMulAll X.K) := OpR.or op_mulA (OpR.or op_repN (OpR.or op_repT1 op_mulS))
theorem dps_rep {H : Hp} {xs : List V} {ds : List D} (h : DpAll K H xs ds) : ∀ n : Nat, DpAll K H (List.replicate n xs).flatten (List.replicate n ds).flatten
  | 0 => .nil
  | n + 1 => by
    rw [List.replicate_succ, List.replicate_succ, List.flatten_cons, List.flatten_cons]
    exact dps_append h (dps_rep h n)
theorem b2_mul : Bin2 K (rMulAll K) (binD .mul) := by
  intro x y z vx vy C G H ρ σ Q hz r dx dy k
  cases x with
  | int i =>
    cases y with
    | int j =>
      have hz : (if mulOk i j then Except.ok (PyData.int (i * j)) else stk) = Except.ok z := hz
      split at hz
      · rename_i hm
        cases hz
        cases dx
        cases dy
        exact .inl ⟨i, j, rfl, rfl, mulA_of hm, k G _ H (Same.refl G) r (.int _)⟩
      · cases hz
    | _ => cases hz
  | str a =>
    cases y with
    | int n =>
      have hz : (if n = 0 then Except.ok (PyData.str Str.empty) else if n = 1 then Except.ok (PyData.str a) else stk) = Except.ok z := hz
      cases dx
      cases dy
      by_cases h0 : n = 0
      · rw [if_pos h0] at hz
        cases hz
        exact .inr (.inr (.inr ⟨a, n, rfl, rfl, .inl h0, by rw [if_pos h0]; exact k G _ H (Same.refl G) r (.str _)⟩))
      · rw [if_neg h0] at hz
        by_cases h1 : n = 1
        · rw [if_pos h1] at hz
          cases hz
          exact .inr (.inr (.inr ⟨a, n, rfl, rfl, .inr h1, by rw [if_neg h0]; exact k G _ H (Same.refl G) r (.str _)⟩))
        · rw [if_neg h1] at hz
          cases hz
    | _ => cases hz
  | tuple xs =>
    cases y with
    | int j =>
      have hz : (if xs ≠ [] ∧ 1 ≤ j ∧ j ≤ 1000 ∧ xs.length ≤ 1000 then Except.ok (PyData.tuple (List.replicate j.toNat xs).flatten) else stk) = Except.ok z := hz
      split at hz
      · rename_i hm
        cases hz
        by_cases h1j : j = 1
        · subst h1j
          have ex : (List.replicate (1 : Int).toNat xs).flatten = xs := by simp
          rw [ex] at k
          have dx' := dx
          cases dx with
          | tup h1 a1 =>
            cases dy
            exact .inr (.inr (.inl ⟨_, _, rfl, rfl, same_t r.exG h1, k G _ H (Same.refl G) r dx'⟩))
        · cases dx with
          | tup h1 a1 =>
            cases dy
            refine .inr (.inl ⟨_, j, _, rfl, rfl, same_t r.exG h1, ?_, (by omega), hm.2.2.1, by rw [dps_len a1]; exact hm.2.2.2, fun p o hp ho => ?_⟩)
            · intro e
              subst e
              cases a1
              exact hm.1 rfl
            · have nG := r.nG hp
              exact k _ _ _ (same_new nG) (r.know hp) (.tup (NT.of ho upd_same) (dps_mono (same_new nG) (dps_rep a1 _)))
      · cases hz
    | _ => cases hz
  | _ => cases y <;> cases hz
theorem b2_fdiv : Bin2 K (rI CDivW fun i j => .int (i / j)) (binD .fdiv) := b2_int (fun _ j => 0 < j ∧ j.natAbs.log2 < 9000) (fun i j => i / j) (fun {x y z} h => by
  cases x with
  | int i =>
    cases y with
    | int j =>
      have h : (if 0 < j ∧ j.natAbs.log2 < 9000 then Except.ok (PyData.int (i / j)) else stk) = Except.ok z := h
      split at h
      · rename_i hm
        cases h
        exact ⟨_, _, rfl, rfl, hm, rfl⟩
      · cases h
    | _ => cases h
  | _ => cases y <;> cases h) (fun i j H Q p q => ⟨i, j, rfl, rfl, p, q⟩)
theorem b2_mod : Bin2 K (rI (fun _ j => 0 < j) fun i j => .int (i % j)) (binD .mod) := b2_int (fun _ j => 0 < j) (fun i j => i % j) (fun {x y z} h => by
  cases x with
  | int i =>
    cases y with
    | int j =>
      have h : (if 0 < j then Except.ok (PyData.int (i % j)) else stk) = Except.ok z := h
      split at h
      · rename_i hm
        cases h
        exact ⟨_, _, rfl, rfl, hm, rfl⟩
      · cases h
    | _ => cases h
  | _ => cases y <;> cases h) (fun i j H Q p q => ⟨i, j, rfl, rfl, p, q⟩)
theorem b2_shl : Bin2 K (rI CPow fun i j => .int (i * 2 ^ j.toNat)) (binD .shl) := b2_int (fun i j => 0 ≤ j ∧ j ≤ LIM ∧ i.natAbs < 2 ^ 64) (fun i j => i * 2 ^ j.toNat) (fun {x y z} h => by
  cases x with
  | int i =>
    cases y with
    | int j =>
      have h : (if 0 ≤ j ∧ j ≤ LIM ∧ i.natAbs < 2 ^ 64 then Except.ok (PyData.int (i * 2 ^ j.toNat)) else stk) = Except.ok z := h
      split at h
      · rename_i hm
        cases h
        exact ⟨_, _, rfl, rfl, hm, rfl⟩
      · cases h
    | _ => cases h
  | _ => cases y <;> cases h) (fun i j H Q p q => ⟨i, j, rfl, rfl, p, q⟩)
theorem b2_shr : Bin2 K (rI (fun _ j => 0 ≤ j) fun i j => .int (i / 2 ^ j.toNat)) (binD .shr) := b2_int (fun i j => 0 ≤ j) (fun i j => i / 2 ^ j.toNat) (fun {x y z} h => by
  cases x with
  | int i =>
    cases y with
    | int j =>
      have h : (if 0 ≤ j then Except.ok (PyData.int (i / 2 ^ j.toNat)) else stk) = Except.ok z := h
      split at h
      · rename_i hm
        cases h
        exact ⟨_, _, rfl, rfl, hm, rfl⟩
      · cases h
    | _ => cases h
  | _ => cases y <;> cases h) (fun i j H Q p q => ⟨i, j, rfl, rfl, p, q⟩)
theorem b2_band : Bin2 K (rI0 fun i j => .int (Builtin.bitAnd i j)) (binD .band) := b2_int (fun _ _ => True) (fun i j => Builtin.bitAnd i j) (fun {x y z} h => by
  cases x <;> cases y <;> cases h
  exact ⟨_, _, rfl, rfl, trivial, rfl⟩) (fun i j H Q _ q => ⟨i, j, rfl, rfl, q⟩)
theorem b2_bor : Bin2 K (rI0 fun i j => .int (Builtin.bitOr i j)) (binD .bor) := b2_int (fun _ _ => True) (fun i j => Builtin.bitOr i j) (fun {x y z} h => by
  cases x <;> cases y <;> cases h
  exact ⟨_, _, rfl, rfl, trivial, rfl⟩) (fun i j H Q _ q => ⟨i, j, rfl, rfl, q⟩)
def opOf : Bi → Operator
  | .add => .Add
  | .sub => .Sub
  | .mul => .Mult
  | .fdiv => .FloorDiv
  | .mod => .Mod
  | .shl => .LShift
  | .shr => .RShift
  | .band => .BitAnd
  | .bor => .BitOr
theorem op_all (hK : X.K = K) : ∀ o : Bi, ∃ r : R2, OpR X (binaryOp (opOf o)) r ∧ Bin2 K r (binD o)
  | .add => ⟨_, by have h := op_addAll (X := X); rw [hK] at h; exact h, b2_add⟩
  | .sub => ⟨_, op_sub, b2_sub⟩
  | .mul => ⟨_, by have h := op_mulAll (X := X); rw [hK] at h; exact h, b2_mul⟩
  | .fdiv => ⟨_, op_fdivW, b2_fdiv⟩
  | .mod => ⟨_, op_mod, b2_mod⟩
  | .shl => ⟨_, op_shl, b2_shl⟩
  | .shr => ⟨_, op_shr, b2_shr⟩
  | .band => ⟨_, op_and, b2_band⟩
  | .bor => ⟨_, op_or, b2_bor⟩
end
end Ft
/-! FtCmp: the comparisons by values. -/
namespace Ft
open PySem PySem.Spec PyProof.Rows L2
section
variable {X : Cx} {K : PySem.W.Frag}
theorem eqD_cases {x y : D} {b : Bool} (h : eqD x y = .ok b) : b = PyData.eqv x y ∧ ((scalD x = true ∧ scalD y = true) ∨ (SeqAt.shaped x = true ∧ SeqAt.shaped y = true)) := by
  unfold eqD at h
  split at h
  · rename_i hc
    cases h
    rw [Bool.or_eq_true, Bool.and_eq_true, Bool.and_eq_true] at hc
    exact ⟨rfl, hc⟩
  · cases h
theorem scal_eq {x y : D} {vx vy : V} {H : Hp} (sx : scalD x = true) (sy : scalD y = true) (dx : Dp K H vx x) (dy : Dp K H vy y) : (scal vx vy = true ∧ decide (vx = vy) = PyData.eqv x y) ∨ (SeqAt.shaped x = true ∧ SeqAt.shaped y = true) := by
  cases dx <;> first | cases sx | skip
  all_goals (cases dy <;> first | cases sy | skip)
  all_goals first
    | (left; exact ⟨rfl, dec_str⟩)
    | (right; constructor <;> rfl)
    | (left; refine ⟨rfl, ?_⟩; simp [PyData.eqv])
    | (left; refine ⟨rfl, ?_⟩; rfl)
def rEqAll (K : PySem.W.Frag) : R2 := fun x y H Q => rEq x y H Q ∨ rEqD K x y H Q
def rNeAll (K : PySem.W.Frag) : R2 := fun x y H Q => rNe x y H Q ∨ rNeD K x y H Q
theorem c_eq : Bin2P K (rEqAll K) (cmpD .eq) := by
  intro x y z vx vy H Q hz dx dy q
  obtain ⟨rfl, hc⟩ := eqD_cases hz
  have deep : SeqAt.shaped x = true ∧ SeqAt.shaped y = true → rEqAll K vx vy H Q := fun s => .inr ⟨x, y, dx.up, dy.up, s.1, s.2, q⟩
  rcases hc with ⟨sx, sy⟩ | s
  · rcases scal_eq sx sy dx dy with ⟨h1, h2⟩ | s
    · exact .inl ⟨h1, by rw [h2]; exact q⟩
    · exact deep s
  · exact deep s
theorem c_ne : Bin2P K (rNeAll K) (cmpD .ne) := by
  intro x y z vx vy H Q hz dx dy q
  have hz : bindR (eqD x y) (fun b => .ok (!b)) = .ok z := hz
  cases he : eqD x y with
  | error e => rw [he] at hz; cases hz
  | ok b =>
    rw [he] at hz
    cases hz
    obtain ⟨rfl, hc⟩ := eqD_cases he
    have deep : SeqAt.shaped x = true ∧ SeqAt.shaped y = true → rNeAll K vx vy H Q := fun s => .inr ⟨x, y, dx.up, dy.up, s.1, s.2, q⟩
    rcases hc with ⟨sx, sy⟩ | s
    · rcases scal_eq sx sy dx dy with ⟨h1, h2⟩ | s
      · exact .inl ⟨h1, by rw [h2]; exact q⟩
      · exact deep s
    · exact deep s
/-- the order of ints, of texts -/
def rOrd (f : Int → Int → Bool) (g : Str → Str → Bool) : R2 := fun x y H Q => (∃ i j, x = .int i ∧ y = .int j ∧ Q (.bl (f i j)) H) ∨ ∃ i j, x = .str i ∧ y = .str j ∧ Q (.bl (g i j)) H
theorem c_ord {c : Cm} {f : Int → Int → Bool} {g : Str → Str → Bool} (hc : ∀ {x y : D} {z : Bool}, cmpD c x y = .ok z → (∃ i j, x = .int i ∧ y = .int j ∧ z = f i j) ∨ ∃ i j, x = .str i ∧ y = .str j ∧ z = g i j) : Bin2P K (rOrd f g) (cmpD c) := by
  intro x y z vx vy H Q hz dx dy q
  rcases hc hz with ⟨i, j, rfl, rfl, rfl⟩ | ⟨i, j, rfl, rfl, rfl⟩
  · cases dx
    cases dy
    exact .inl ⟨i, j, rfl, rfl, q⟩
  · cases dx
    cases dy
    exact .inr ⟨i, j, rfl, rfl, q⟩
theorem c_lt : Bin2P K (rOrd (fun i j => decide (i < j)) (fun a b => decide (a.cps.toList < b.cps.toList))) (cmpD .lt) := c_ord fun {x y z} h => by
  cases x <;> cases y <;> cases h
  · exact .inl ⟨_, _, rfl, rfl, rfl⟩
  · exact .inr ⟨_, _, rfl, rfl, rfl⟩
theorem c_le : Bin2P K (rOrd (fun i j => decide (i ≤ j)) (fun a b => !decide (b.cps.toList < a.cps.toList))) (cmpD .le) := c_ord fun {x y z} h => by
  cases x <;> cases y <;> cases h
  · exact .inl ⟨_, _, rfl, rfl, rfl⟩
  · exact .inr ⟨_, _, rfl, rfl, rfl⟩
theorem c_gt : Bin2P K (rOrd (fun i j => decide (j < i)) (fun a b => decide (b.cps.toList < a.cps.toList))) (cmpD .gt) := c_ord fun {x y z} h => by
  cases x <;> cases y <;> cases h
  · exact .inl ⟨_, _, rfl, rfl, rfl⟩
  · exact .inr ⟨_, _, rfl, rfl, rfl⟩
theorem c_ge : Bin2P K (rOrd (fun i j => decide (j ≤ i)) (fun a b => !decide (a.cps.toList < b.cps.toList))) (cmpD .ge) := c_ord fun {x y z} h => by
  cases x <;> cases y <;> cases h
  · exact .inl ⟨_, _, rfl, rfl, rfl⟩
  · exact .inr ⟨_, _, rfl, rfl, rfl⟩
theorem c_is : Bin2P K (fun x y H Q => y = .non ∧ Q (.bl (decide (x = .non))) H) (cmpD .is) := by
  intro x y z vx vy H Q hz dx dy q
  cases y with
  | none =>
    cases dy
    refine ⟨rfl, ?_⟩
    cases dx <;> cases hz <;> exact q
  | _ => cases hz
theorem c_isnot : Bin2P K (fun x y H Q => y = .non ∧ Q (.bl (!decide (x = .non))) H) (cmpD .isnot) := by
  intro x y z vx vy H Q hz dx dy q
  cases y with
  | none =>
    cases dy
    refine ⟨rfl, ?_⟩
    cases dx <;> cases hz <;> exact q
  | _ => cases hz
/-! ### in -/
def rInT (K : PySem.W.Frag) (neg : Bool) : R2 := fun x y H Q => ∃ d ds, Dp K H x d ∧ Dp K H y (.tuple ds) ∧ SeqAt.shaped d = true ∧ SeqAt.shaped (.list ds) = true ∧ Q (.bl (if neg then !(ds.any fun z => PyData.eqv z d) else ds.any fun z => PyData.eqv z d)) H
theorem room_in {A : Around} {d : PyData} {ds : List PyData} (h : SeqAt.shaped d = true) (hu : A.units + 65 < cLine) : A.units + 1 + min (PyData.depthAll ds) d.depth < cLine := by
  have h1 := SeqAt.depth_of_shaped h
  have h2 : min (PyData.depthAll ds) d.depth ≤ d.depth := Nat.min_le_right _ _
  omega
theorem op_inT (hu : X.A.units + 65 < cLine) : OpR X (compareOp .In) (rInT X.K false) := by
  intro pins s σ H x y v u Q I rx ry h
  obtain ⟨d, ds, hd, he, sd, se, q⟩ := h
  obtain ⟨as, r1⟩ := Dp.reads I d x v hd rx
  obtain ⟨bs, r2⟩ := Dp.reads I (.tuple ds) y u he ry
  exact SeqAt.in_tuple_reads r2 r1 (SeqAt.canLay_of_shaped se) (SeqAt.canLay_of_shaped sd) (room_in sd hu) ⟨.bl _, H, I, rfl, q⟩
theorem op_notInT (hu : X.A.units + 65 < cLine) : OpR X (compareOp .NotIn) (rInT X.K true) := by
  intro pins s σ H x y v u Q I rx ry h
  obtain ⟨d, ds, hd, he, sd, se, q⟩ := h
  obtain ⟨as, r1⟩ := Dp.reads I d x v hd rx
  obtain ⟨bs, r2⟩ := Dp.reads I (.tuple ds) y u he ry
  exact SeqAt.notIn_tuple_reads r2 r1 (SeqAt.canLay_of_shaped se) (SeqAt.canLay_of_shaped sd) (room_in sd hu) ⟨.bl _, H, I, rfl, q⟩
theorem flat_of {x : D} {v : V} {H : Hp} (s : scalD x = true) (d : Dp K H v x) : flatV v = true := by cases d <;> first | rfl | cases s
theorem eqV_of {x y : D} {v w : V} {H : Hp} (sx : scalD x = true) (sy : scalD y = true) (dx : Dp K H v x) (dy : Dp K H w y) : eqV v w = PyData.eqv x y := by
  cases dx <;> first | cases sx | skip
  all_goals (cases dy <;> first | cases sy | skip)
  all_goals first | rfl | simp [eqV, PyData.eqv]
theorem flats_of : ∀ {xs : List V} {ds : List D} {H : Hp}, ds.all scalD = true → DpAll K H xs ds → xs.all flatV = true
  | _, _, _, _, .nil => rfl
  | _, _, _, s, .cons d a => by
    rw [List.all_cons, Bool.and_eq_true] at s
    rw [List.all_cons, flat_of s.1 d, flats_of s.2 a]
    rfl
theorem inV_of {x : D} {v : V} {H : Hp} (sx : scalD x = true) (dx : Dp K H v x) : ∀ {xs : List V} {ds : List D}, ds.all scalD = true → DpAll K H xs ds → inV v xs = ds.any fun z => PyData.eqv z x
  | _, _, _, .nil => rfl
  | _, _, s, .cons d a => by
    rw [List.all_cons, Bool.and_eq_true] at s
    have ih := inV_of sx dx s.2 a
    unfold inV at ih ⊢
    rw [List.any_cons, List.any_cons, eqV_of s.1 sx d dx, ih]
theorem inD_cases {x y : D} {b : Bool} (h : inD x y = .ok b) : ∃ ys, (y = .list ys ∨ y = .tuple ys) ∧ b = (ys.any fun z => PyData.eqv z x) ∧ ((scalD x = true ∧ ys.all scalD = true) ∨ (SeqAt.shaped x = true ∧ SeqAt.shaped (.list ys) = true)) := by
  unfold inD at h
  have key : ∀ ys, (if ((scalD x && ys.all scalD) || (SeqAt.shaped x && SeqAt.shaped (.list ys))) = true then Except.ok (ys.any fun z => PyData.eqv z x) else stk) = Except.ok b → b = (ys.any fun z => PyData.eqv z x) ∧ ((scalD x = true ∧ ys.all scalD = true) ∨ (SeqAt.shaped x = true ∧ SeqAt.shaped (.list ys) = true)) := by
    intro ys h
    split at h
    · rename_i hc
      cases h
      rw [Bool.or_eq_true, Bool.and_eq_true, Bool.and_eq_true] at hc
      exact ⟨rfl, hc⟩
    · cases h
  cases y with
  | list ys => exact ⟨ys, .inl rfl, key ys h⟩
  | tuple ys => exact ⟨ys, .inr rfl, key ys h⟩
  | _ => cases h
def rInAll (K : PySem.W.Frag) : R2 := fun x y H Q => rIn K false x y H Q ∨ rInD K x y H Q ∨ rInT K false x y H Q
def rNotInAll (K : PySem.W.Frag) : R2 := fun x y H Q => rIn K true x y H Q ∨ rNotInD K x y H Q ∨ rInT K true x y H Q
theorem c_in : Bin2P K (rInAll K) (cmpD .isin) := by
  intro x y z vx vy H Q hz dx dy q
  obtain ⟨ys, hy, rfl, hc⟩ := inD_cases hz
  rcases hc with ⟨sx, sy⟩ | ⟨sx, sy⟩
  · rcases hy with rfl | rfl
    · cases dy with
      | lst h a => exact .inl ⟨_, _, rfl, .inl h, flat_of sx dx, flats_of sy a, by rw [if_neg Bool.false_ne_true, inV_of sx dx sy a]; exact q⟩
    · cases dy with
      | tup h a => exact .inl ⟨_, _, rfl, .inr h.sq, flat_of sx dx, flats_of sy a, by rw [if_neg Bool.false_ne_true, inV_of sx dx sy a]; exact q⟩
  · rcases hy with rfl | rfl
    · exact .inr (.inl ⟨x, ys, dx.up, dy.up, sx, sy, q⟩)
    · exact .inr (.inr ⟨x, ys, dx, dy, sx, sy, q⟩)
theorem c_notin : Bin2P K (rNotInAll K) (cmpD .notin) := by
  intro x y z vx vy H Q hz dx dy q
  have hz : bindR (inD x y) (fun b => .ok (!b)) = .ok z := hz
  cases he : inD x y with
  | error e => rw [he] at hz; cases hz
  | ok b =>
    rw [he] at hz
    cases hz
    obtain ⟨ys, hy, rfl, hc⟩ := inD_cases he
    rcases hc with ⟨sx, sy⟩ | ⟨sx, sy⟩
    · rcases hy with rfl | rfl
      · cases dy with
        | lst h a => exact .inl ⟨_, _, rfl, .inl h, flat_of sx dx, flats_of sy a, by rw [if_pos rfl, inV_of sx dx sy a]; exact q⟩
      · cases dy with
        | tup h a => exact .inl ⟨_, _, rfl, .inr h.sq, flat_of sx dx, flats_of sy a, by rw [if_pos rfl, inV_of sx dx sy a]; exact q⟩
    · rcases hy with rfl | rfl
      · exact .inr (.inl ⟨x, ys, dx.up, dy.up, sx, sy, q⟩)
      · exact .inr (.inr ⟨x, ys, dx, dy, sx, sy, q⟩)
def cmOf : Cm → CmpOp
  | .eq => .Eq
  | .ne => .NotEq
  | .lt => .Lt
  | .le => .LtE
  | .gt => .Gt
  | .ge => .GtE
  | .is => .Is
  | .isnot => .IsNot
  | .isin => .In
  | .notin => .NotIn
theorem cmp_all (hK : X.K = K) (hu : X.A.units + 65 < cLine) : ∀ c : Cm, ∃ r : R2, OpR X (compareOp (cmOf c)) r ∧ Bin2P K r (cmpD c)
  | .eq => ⟨_, by have h := OpR.or (op_eq (X := X)) (op_eqD (by omega)); rw [hK] at h; exact h, c_eq⟩
  | .ne => ⟨_, by have h := OpR.or (op_ne (X := X)) (op_neD (by omega)); rw [hK] at h; exact h, c_ne⟩
  | .lt => ⟨_, OpR.or op_lt op_lt_str, c_lt⟩
  | .le => ⟨_, OpR.or op_le op_le_str, c_le⟩
  | .gt => ⟨_, OpR.or op_gt op_gt_str, c_gt⟩
  | .ge => ⟨_, OpR.or op_ge op_ge_str, c_ge⟩
  | .is => ⟨_, op_isN, c_is⟩
  | .isnot => ⟨_, op_notN, c_isnot⟩
  | .isin => ⟨_, by have h := OpR.or (op_in_seq (X := X)) (OpR.or (op_inD hu) (op_inT hu)); rw [hK] at h; exact h, c_in⟩
  | .notin => ⟨_, by have h := OpR.or (op_notIn_seq (X := X)) (OpR.or (op_notInD hu) (op_notInT hu)); rw [hK] at h; exact h, c_notin⟩
end
end Ft
/-! FtCall: own defs called. -/
namespace Ft
open PySem PySem.Spec PyProof.Rows L2
def spF (K : PySem.W.Frag) (cl : Str → Addr) (n : Nat) (f : List D → R D) : Sp := fun vs H Q E => ∃ G ds, Same G H ∧ DpAll K G vs ds ∧ ds.length = n ∧ match f ds with
  | .ok d => ∀ G' v H', Same G G' → Same G' H' → Same H H' → (∀ a, G' a ≠ none → G a = none → H a = none) → Dp K G' v d → Q v H'
  | .error (.exc m) => ∀ H', Same H H' → E (.ref (cl m)) none H'
  | .error .stuck => False
def spG (K : PySem.W.Frag) (n : Nat) (g : List D → List D → R (D × List D)) : Sp := fun vs H Q _ => ∃ G ds ss xs p v0 vr, vs = v0 :: .ref p :: vr ∧ Same G H ∧ DpAll K G (v0 :: vr) ds ∧ ds.length + 1 = n ∧ H p = some (.lst xs) ∧ DpAll K G xs ss ∧ G p = none ∧ match g ds ss with
  | .ok (d, ss') => ∀ G' v H' xs', Same G G' → Same G' H' → (∀ a o, a ≠ p → H a = some o → H' a = some o) → H' p = some (.lst xs') → DpAll K G' xs' ss' → (∀ a, G' a ≠ none → G a = none → H a = none) → Dp K G' v d → Q v H'
  | .error _ => False
theorem spF_len {K : PySem.W.Frag} {cl : Str → Addr} {n : Nat} {f : List D → R D} {vs : List V} {H : Hp} {Q : VK} {E : XK} (h : spF K cl n f vs H Q E) : vs.length = n := by
  obtain ⟨G, ds, _, h1, h2, _⟩ := h
  rw [dps_len h1, h2]
theorem spG_len {K : PySem.W.Frag} {n : Nat} {g : List D → List D → R (D × List D)} {vs : List V} {H : Hp} {Q : VK} {E : XK} (h : spG K n g vs H Q E) : vs.length = n := by
  obtain ⟨G, ds, ss, xs, p, v0, vr, rfl, _, h1, h2, _⟩ := h
  have h3 := dps_len h1
  rw [List.length_cons] at h3
  rw [List.length_cons, List.length_cons]
  omega
theorem lstAt_cases {ρ : Env} {i : Nat} {q : List D × (List D → Cell)} (h : lstAt ρ i = .ok q) : ∃ c, ρ[i]? = some c ∧ c.ls = some q.1 ∧ ∀ ds, SameK c (q.2 ds) ds := by
  unfold lstAt at h
  cases hc : ρ[i]? with
  | none => rw [hc] at h; cases h
  | some c =>
    rw [hc] at h
    cases c with
    | mu ds => cases h; exact ⟨_, rfl, rfl, fun _ => .inl ⟨_, rfl, rfl⟩⟩
    | rf ds => cases h; exact ⟨_, rfl, rfl, fun _ => .inr ⟨_, rfl, rfl⟩⟩
    | _ => cases h
theorem upd_self {H : Hp} {p : Addr} {o : HO} (h : H p = some o) : upd H p o = H := by
  funext a
  by_cases ha : a = p
  · subst ha; rw [upd_same, h]
  · rw [upd_ne ha]
/-- behind a call that changes the list in slot i -/
theorem Rel.turned {K : PySem.W.Frag} {C : RC} {G G' H H' : Hp} {ρ : Env} {σ : L2.St} {i : Nat} {p : Addr} {c c' : Cell} {ds ds' : List D} {xs' : List V} (r : Rel K C G ρ σ H) (h : ρ[i]? = some c) (hl : c.ls = some ds) (hp : σ[i]? = some (some (.ref p))) (hc : SameK c c' ds')
    (e1 : Same G G') (e2 : Same G' H') (e3 : ∀ a o, a ≠ p → H a = some o → H' a = some o) (e4 : H' p = some (.lst xs')) (e5 : DpAll K G' xs' ds') (fr : ∀ a, G' a ≠ none → G a = none → H a = none) : Rel K C G' (ρ.set i c') σ H' := by
  obtain ⟨xs, es, h1, h2, h3, h4⟩ := r.muSome ⟨c, ds, h, hl, hp⟩
  have nG' : G' p = none := by
    cases q : G' p with
    | none => rfl
    | some o =>
      have := fr p (by rw [q]; simp) h3
      rw [h1] at this
      cases this
  have r1 : Rel K C G' ρ σ (upd H' p (.lst xs)) := r.step e1 (fun a o e => by
    rw [upd_ne (ne_of_none e nG')]
    exact e2 a o e) (fun a o e => by
    by_cases ha : a = p
    · subst ha
      rw [upd_same, ← h1, e]
    · rw [upd_ne ha]
      exact e3 a o ha e) fr
  have r2 := r1.write h hl hp hc e5
  rw [upd_upd, upd_self e4] at r2
  exact r2
section
variable {F : Fns} {K : PySem.W.Frag} {cl : Str → Addr} {W : WX} {X : Cx} {a b e t as es : E} {ea eb ee ec : Expr} {pos p : Pos} {rest : List Expr}
/-- what is known of an own def -/
structure FnAt (X : Cx) (x : Str) (k n : Nat) (sp : Sp) : Prop where
  ex : ∃ (f : Addr) (fd : FuncData) (ps : List Str), FnOk X.prog X.w X.K X.mg X.base (L2.CX X.prog X.w) k f fd ps sp ∧ X.mg x = some (.ref f) ∧ PySem.W.keepIn X.K (.ref f) = true ∧ Binds X.K fd ps []
theorem s_call {x : Str} {k n : Nat} {ees : List Expr} (fa : FnAt X x k n (spF K cl n (F.f x))) (hr : Room k X.A) (hg : Gl X x) (tk : Takes X W) (ha : PA X (ee :: ees) (rdA F K cl W as)) (hl : alen as = n) (hd : (x == ("__debug__" : Str)) = false)
    (hs : nostar ee = true) (hs2 : ees.all nostar = true) : PE X (.Call (.Name x p) (ee :: ees) [] pos) (rdE F K cl W (.call x as)) := by
  obtain ⟨f, fd, ps, G0, m, kp, bi⟩ := fa.ex
  refine PE.imp (pe_callS G0 hr hg m kp bi (fun σ => passAt tk σ) ha hd (star_cons hs) (star_none hs2)) fun σ H Q ⟨C, G, ρ, r, h⟩ => ⟨C, G, ρ, r, ?_⟩
  unfold evE at h
  refine h.bind.mono fun ds ρ1 he h1 G1 vs H1 e1 r1 d1 => ⟨G1, ds, r1.exG, d1, (evA_len as he).trans hl, ?_⟩
  have h1 : Out C cl W σ (bindR (F.f x ds) fun d => .ok (d, ρ1)) _ := h1
  cases hf : F.f x ds with
  | ok d =>
    rw [hf] at h1
    exact fun G' v H' q1 q2 q3 q4 q5 => h1 G' v H' (e1.trans q1) (r1.step q1 q2 q3 q4) q5
  | error er =>
    rw [hf] at h1
    cases er with
    | stuck => exact h1
    | exc m => exact fun H' q => h1 H' (r1.exP.trans q)
theorem pe_callS0 {CX : CXT} {k : Nat} {f : Addr} {fd : FuncData} {ps : List Str} {sp : Sp} {E : L2.St → XK} {x : Str} (F : FnOk X.prog X.w X.K X.mg X.base CX k f fd ps sp) (hr : Room k X.A) (hg : Gl X x) (hm : X.mg x = some (.ref f)) (hk : PySem.W.keepIn X.K (.ref f) = true) (hb : Binds X.K fd ps []) (hx : ∀ σ, PassesAt CX X σ (E σ))
    (hdb : (x == ("__debug__" : Str)) = false) : PE X (.Call (.Name x p) [] [] pos) (fun σ H Q => sp [] H Q (E σ)) := by
  refine ⟨fun pins s σ H Q I h => ?_⟩
  refine wpAny_Call_Name_kw (ld_glob I hg hm ?_ hdb)
  exact PySem.W.callWith_K0 I.kIn hk (run_fnS (us := []) F hr hb (hx σ) I .nil h)
theorem s_call0 {x : Str} {k : Nat} (fa : FnAt X x k 0 (spF K cl 0 (F.f x))) (hr : Room k X.A) (hg : Gl X x) (tk : Takes X W) (hd : (x == ("__debug__" : Str)) = false) : PE X (.Call (.Name x p) [] [] pos) (rdE F K cl W (.call x .nil)) := by
  obtain ⟨f, fd, ps, G0, m, kp, bi⟩ := fa.ex
  refine PE.imp (pe_callS0 G0 hr hg m kp bi (fun σ => passAt tk σ) hd) fun σ H Q ⟨C, G, ρ, r, h⟩ => ⟨G, [], r.exG, .nil, rfl, ?_⟩
  unfold evE evA at h
  have h1 : Out C cl W σ (bindR (F.f x []) fun d => .ok (d, ρ)) _ := h
  cases hf : F.f x [] with
  | ok d =>
    rw [hf] at h1
    exact fun G' v H' q1 q2 q3 q4 q5 => h1 G' v H' q1 (r.step q1 q2 q3 q4) q5
  | error er =>
    rw [hf] at h1
    cases er with
    | stuck => exact h1
    | exc m => exact fun H' q => h1 H' (r.exP.trans q)
theorem s_callS {x y : Str} {k n i : Nat} {ees : List Expr} {p2 : Pos} (fa : FnAt X x k n (spG K n (F.g x))) (hr : Room k X.A) (hg : Gl X x) (tk : Takes X W) (h0 : PE X ee (rdE F K cl W e)) (hv : PE X (.Name y p2) (tVar i)) (ha : PA X ees (rdA F K cl W es)) (hl : alen es + 2 = n) (hd : (x == ("__debug__" : Str)) = false)
    (hs : nostar ee = true) (hs2 : ees.all nostar = true) : PE X (.Call (.Name x p) (ee :: .Name y p2 :: ees) [] pos) (rdE F K cl W (.callS x i e es)) := by
  obtain ⟨f, fd, ps, G0, m, kp, bi⟩ := fa.ex
  have hpa : PA X (ee :: .Name y p2 :: ees) (tCons (rdE F K cl W e) (tCons (tVar i) (rdA F K cl W es))) := pa_cons h0 (pa_cons hv ha rfl) (star_cons hs)
  have hst : (Expr.Name y p2 :: ees).all nostar = true := by rw [List.all_cons, hs2]; rfl
  refine PE.imp (pe_callS G0 hr hg m kp bi (fun σ => passAt tk σ) hpa hd (star_cons hs) (star_none hst)) fun σ H Q ⟨C, G, ρ, r, h⟩ => ⟨C, G, ρ, r, ?_⟩
  unfold evE at h
  obtain ⟨q0, hq0, h⟩ := Out.bindc h
  obtain ⟨c0, j1, j2, _⟩ := lstAt_cases hq0
  obtain ⟨pp, _, hpp, _⟩ := r.muAt j1 j2
  refine h.bind.mono fun d0 ρ1 he0 h1 G1 v0 H1 e1 r1 d1 => ⟨.ref pp, hpp, C, G1, ρ1, r1, ?_⟩
  refine Out.mono (Out.bind h1) fun ds ρ2 he1 h2 G2 vs H2 e2 r2 d2 => ?_
  obtain ⟨q1, hq1, h3⟩ := Out.bindc h2
  obtain ⟨c1, k1, k2, k3⟩ := lstAt_cases hq1
  obtain ⟨p', xs, w1, w2, w3, w4, w5⟩ := r2.muAt k1 k2
  rw [hpp] at w1
  cases w1
  obtain ⟨q2, hq2, h4⟩ := Out.bindc h3
  refine ⟨G2, d0 :: ds, q1.1, xs, pp, v0, vs, rfl, r2.exG, .cons (dp_mono e2 d1) d2, ?_, w2, w3, w4, ?_⟩
  · have := evA_len es he1
    rw [List.length_cons]
    omega
  · rw [hq2]
    obtain ⟨d, ss'⟩ := q2
    exact fun G' v H' xs' z1 z2 z3 z4 z5 z6 z7 => h4 G' v H' ((e1.trans e2).trans z1) (r2.turned k1 k2 hpp (k3 ss') z1 z2 z3 z4 z5 z6) z7
end
end Ft
/-! FtPrim: built-ins of one argument, isinstance, subscripts, slices. -/
namespace Ft
open PySem PySem.Spec PyProof.Rows L2
/-! ### order of texts -/
theorem ltCps_dec : ∀ (a b : List Nat), ltCps a b = decide (a < b)
  | [], [] => by simp [ltCps]
  | [], _ :: _ => by simp [ltCps]
  | _ :: _, [] => by simp [ltCps]
  | a :: r, b :: t => by
    rw [ltCps, ltCps_dec r t]
    rw [Bool.eq_iff_iff]
    simp [List.cons_lt_cons_iff]
theorem strLt_irrefl (a : Str) : strLt a a = false := by
  unfold strLt
  rw [decide_eq_false_iff_not]
  exact List.lt_irrefl _
theorem strLt_trans {a b c : Str} (h1 : strLt a b = true) (h2 : strLt b c = true) : strLt a c = true := by
  unfold strLt at *
  rw [decide_eq_true_iff] at *
  exact List.lt_trans h1 h2
theorem str_ext {a b : Str} (h : a.cps.toList = b.cps.toList) : a = b := by
  cases a
  cases b
  simp only [Array.toList_inj] at h
  simp [h]
theorem strLt_tri {a b : Str} (h1 : strLt a b = false) (h2 : strLt b a = false) : a = b := by
  unfold strLt at *
  rw [decide_eq_false_iff_not] at *
  exact str_ext (List.le_antisymm h2 h1)
/-- rising or equal -/
def RiseS (l : List Str) : Prop := l.Pairwise fun a b => strLt b a = false
theorem insS_perm (x : Str) : ∀ l : List Str, (insS x l).Perm (x :: l)
  | [] => List.Perm.refl _
  | y :: r => by
    unfold insS
    split
    · exact ((insS_perm x r).cons y).trans (List.Perm.swap x y r)
    · exact List.Perm.refl _
theorem sortS_perm : ∀ l : List Str, (sortS l).Perm l
  | [] => List.Perm.refl _
  | x :: r => (insS_perm x (sortS r)).trans ((sortS_perm r).cons x)
theorem strLt_asymm {a b : Str} (h : strLt a b = true) : strLt b a = false := by
  cases hb : strLt b a with
  | false => rfl
  | true =>
    have := strLt_trans h hb
    rw [strLt_irrefl] at this
    cases this
theorem strLe_trans {a b c : Str} (h1 : strLt b a = false) (h2 : strLt c b = false) : strLt c a = false := by
  cases h : strLt c a with
  | false => rfl
  | true =>
    cases hab : strLt a b with
    | true =>
      rw [strLt_trans h hab] at h2
      cases h2
    | false =>
      have e := strLt_tri hab h1
      subst e
      rw [h] at h2
      cases h2
theorem insS_rise (x : Str) : ∀ l : List Str, RiseS l → RiseS (insS x l)
  | [], _ => by
    show List.Pairwise _ [x]
    simp
  | y :: r, h => by
    have h' := List.pairwise_cons.mp h
    unfold insS
    split
    · rename_i hyx
      refine List.pairwise_cons.mpr ⟨fun z hz => ?_, insS_rise x r h'.2⟩
      rcases List.mem_cons.mp ((insS_perm x r).mem_iff.mp hz) with rfl | hz
      · exact strLt_asymm hyx
      · exact h'.1 z hz
    · rename_i hyx
      have hyx : strLt y x = false := by simpa using hyx
      refine List.pairwise_cons.mpr ⟨fun z hz => ?_, h⟩
      rcases List.mem_cons.mp hz with rfl | hz
      · exact hyx
      · exact strLe_trans hyx (h'.1 z hz)
theorem sortS_rise : ∀ l : List Str, RiseS (sortS l)
  | [] => List.Pairwise.nil
  | x :: r => insS_rise x _ (sortS_rise r)
theorem rise_unique : ∀ {l m : List Str}, RiseS l → RiseS m → l.Perm m → l = m
  | [], m, _, _, p => (List.Perm.nil_eq p)
  | a :: l, [], _, _, p => absurd p.symm.nil_eq (by simp)
  | a :: l, b :: m, hl, hm, p => by
    have hl' := List.pairwise_cons.mp hl
    have hm' := List.pairwise_cons.mp hm
    have e : a = b := by
      have ha : a ∈ b :: m := p.mem_iff.mp List.mem_cons_self
      have hb : b ∈ a :: l := p.mem_iff.mpr List.mem_cons_self
      rcases List.mem_cons.mp ha with e | ha
      · exact e
      · rcases List.mem_cons.mp hb with e | hb
        · exact e.symm
        · exact strLt_tri (hm'.1 a ha) (hl'.1 b hb)
    subst e
    rw [rise_unique hl'.2 hm'.2 (List.Perm.cons_inv p)]
theorem rise_of_sortedS : ∀ {l : List Str}, sortedS l = true → RiseS l := by
  have key : ∀ (l : List Str) (p : Str), risingS p l = true → RiseS (p :: l) := by
    intro l
    induction l with
    | nil => intro p _; exact List.pairwise_singleton _ _
    | cons x r ih =>
      intro p h
      have h : (!ltCps x.cps.toList p.cps.toList && risingS x r) = true := h
      rw [Bool.and_eq_true, Bool.not_eq_true', ltCps_dec] at h
      have h2 := ih x h.2
      refine List.pairwise_cons.mpr ⟨fun z hz => ?_, h2⟩
      rcases List.mem_cons.mp hz with rfl | hz
      · exact h.1
      · exact strLe_trans h.1 ((List.pairwise_cons.mp h2).1 z hz)
  intro l h
  cases l with
  | nil => exact List.Pairwise.nil
  | cons x r => exact key r x h
/-! ### the greatest -/
theorem maxI_ge : ∀ (r : List Int) (m : Int), m ≤ maxI m r
  | [], m => Int.le_refl m
  | x :: r, m => by
    unfold maxI
    have := maxI_ge r (if x > m then x else m)
    split at this <;> (rename_i h; simp only [h, if_true, if_false]; omega)
theorem maxI_all : ∀ (r : List Int) (m : Int), ∀ y ∈ r, y ≤ maxI m r
  | x :: r, m, y, h => by
    unfold maxI
    rcases List.mem_cons.mp h with rfl | h
    · have := maxI_ge r (if y > m then y else m)
      split at this <;> (rename_i h; simp only [h, if_true, if_false]; omega)
    · exact maxI_all r _ y h
theorem maxI_mem : ∀ (r : List Int) (m : Int), maxI m r ∈ m :: r
  | [], m => List.mem_cons_self
  | x :: r, m => by
    unfold maxI
    have := maxI_mem r (if x > m then x else m)
    rcases List.mem_cons.mp this with e | h
    · rw [e]
      split
      · exact List.mem_cons_of_mem _ List.mem_cons_self
      · exact List.mem_cons_self
    · exact List.mem_cons_of_mem _ (List.mem_cons_of_mem _ h)
theorem minI_le : ∀ (r : List Int) (m : Int), minI m r ≤ m
  | [], m => Int.le_refl m
  | x :: r, m => by
    unfold minI
    have := minI_le r (if x < m then x else m)
    split at this <;> (rename_i h; simp only [h, if_true, if_false]; omega)
theorem minI_all : ∀ (r : List Int) (m : Int), ∀ y ∈ r, minI m r ≤ y
  | x :: r, m, y, h => by
    unfold minI
    rcases List.mem_cons.mp h with rfl | h
    · have := minI_le r (if y < m then y else m)
      split at this <;> (rename_i h; simp only [h, if_true, if_false]; omega)
    · exact minI_all r _ y h
theorem minI_mem : ∀ (r : List Int) (m : Int), minI m r ∈ m :: r
  | [], m => List.mem_cons_self
  | x :: r, m => by
    unfold minI
    have := minI_mem r (if x < m then x else m)
    rcases List.mem_cons.mp this with e | h
    · rw [e]
      split
      · exact List.mem_cons_of_mem _ List.mem_cons_self
      · exact List.mem_cons_self
    · exact List.mem_cons_of_mem _ (List.mem_cons_of_mem _ h)
/-! ### lists of one kind -/
section
variable {K : PySem.W.Frag} {H G : Hp}
theorem bools_of : ∀ {ds : List D} {xs : List V} {bs : List Bool}, boolsD ds = .ok bs → DpAll K H xs ds → xs = bs.map V.bl
  | [], _, _, h, .nil => by cases h; rfl
  | d :: ds, _, bs, h, .cons q a => by
    cases q with
    | bl b =>
      have h : bindR (boolsD ds) (fun bs => .ok (b :: bs)) = .ok bs := h
      cases e : boolsD ds with
      | error x => rw [e] at h; cases h
      | ok cs => rw [e] at h; cases h; rw [bools_of e a]; rfl
    | _ => cases h
theorem ints_of : ∀ {ds : List D} {xs : List V} {bs : List Int}, intsD ds = .ok bs → DpAll K H xs ds → xs = bs.map V.int
  | [], _, _, h, .nil => by cases h; rfl
  | d :: ds, _, bs, h, .cons q a => by
    cases q with
    | int b =>
      have h : bindR (intsD ds) (fun bs => .ok (b :: bs)) = .ok bs := h
      cases e : intsD ds with
      | error x => rw [e] at h; cases h
      | ok cs => rw [e] at h; cases h; rw [ints_of e a]; rfl
    | _ => cases h
theorem strs_of : ∀ {ds : List D} {xs : List V} {bs : List Str}, strsD ds = .ok bs → DpAll K H xs ds → xs = bs.map V.str
  | [], _, _, h, .nil => by cases h; rfl
  | d :: ds, _, bs, h, .cons q a => by
    cases q with
    | str b =>
      have h : bindR (strsD ds) (fun bs => .ok (b :: bs)) = .ok bs := h
      cases e : strsD ds with
      | error x => rw [e] at h; cases h
      | ok cs => rw [e] at h; cases h; rw [strs_of e a]; rfl
    | _ => cases h
theorem dps_strs (G : Hp) : ∀ ss : List Str, DpAll K G (ss.map V.str) (ss.map PyData.str)
  | [] => .nil
  | s :: r => .cons (.str s) (dps_strs G r)
/-- a rule for one value -/
def Un1 (K : PySem.W.Frag) (r : List V → Hp → VK → Prop) (f : D → R D) : Prop := ∀ {x z : D} {v : V} {C : RC} {G H : Hp} {ρ : Env} {σ : L2.St} {Q : VK}, f x = .ok z → Rel K C G ρ σ H → PkD K G H v x →
  (∀ G' v H', Same G G' → Rel K C G' ρ σ H' → Dp K G' v z → Q v H') → r [v] H Q
theorem bindR_ok_inv {α β : Type} {x : R α} {f : α → R β} {b : β} (h : bindR x f = .ok b) : ∃ a, x = .ok a ∧ f a = .ok b := by
  cases x with
  | ok a => exact ⟨a, rfl, h⟩
  | error e => cases h
/-- a list of values of one kind, answered by a scalar -/
theorem u_list {α : Type} {f : D → R D} {r : List V → Hp → VK → Prop} {g : List D → R (List α)} {mk : α → V} {z : List α → R D}
    (hp : ∀ {x d}, f x = .ok d → ∃ ds as, x = .list ds ∧ g ds = .ok as ∧ z as = .ok d) (hg : ∀ {ds xs as} {H : Hp}, g ds = .ok as → DpAll K H xs ds → xs = as.map mk)
    (hr : ∀ {a as d C G H ρ σ} {Q : VK}, z as = .ok d → Rel K C G ρ σ H → SqL K H a (as.map mk) → (∀ G' v H', Same G G' → Rel K C G' ρ σ H' → Dp K G' v d → Q v H') → r [.ref a] H Q) : Un1 K r f := by
  intro x d v C G H ρ σ Q hd rr pk k
  obtain ⟨ds, as, rfl, h1, h2⟩ := hp hd
  obtain ⟨a, xs, rfl, h3, h4⟩ := pk.lst rr.exG
  have e := hg h1 h4
  subst e
  exact hr h2 rr h3 k
theorem u_all : Un1 K (rAll K) (primD .all) := u_list (g := boolsD) (mk := V.bl) (z := fun bs => .ok (.bool (bs.all id))) (fun {x d} h => by
  cases x with
  | list ds => obtain ⟨bs, h1, h2⟩ := bindR_ok_inv h; exact ⟨ds, bs, rfl, h1, h2⟩
  | _ => cases h) bools_of (fun {a as d C G H ρ σ Q} hz rr h3 k => by
  cases hz
  exact ⟨a, as, rfl, h3, k G _ H (Same.refl G) rr (.bl _)⟩)
theorem u_any : Un1 K (rAny K) (primD .any) := u_list (g := boolsD) (mk := V.bl) (z := fun bs => .ok (.bool (bs.any id))) (fun {x d} h => by
  cases x with
  | list ds => obtain ⟨bs, h1, h2⟩ := bindR_ok_inv h; exact ⟨ds, bs, rfl, h1, h2⟩
  | _ => cases h) bools_of (fun {a as d C G H ρ σ Q} hz rr h3 k => by
  cases hz
  exact ⟨a, as, rfl, h3, k G _ H (Same.refl G) rr (.bl _)⟩)
section
variable {prog : Program} {w : World} {A : Around} {E : Value → Shared → Prop} {s : Shared} {l : Addr} {its : List Value} {ns : List Int} {Q : Value → Shared → Prop}
theorem sum_rawT (hh : A.handled = none) (hl : s.heap.IsTuple l its.toArray) (hi : IntsAre its ns)
    (h : ∀ h' tk t', (∀ b o, s.heap.get? b = some o → h'.get? b = some o) → Q (.int ns.sum t') { s with heap := h', toks := tk }) : wpAny (model prog w) A (call (.builtin "sum") [.ref l]) Q E s := by
  obtain ⟨xs, e⟩ := hi.allInts.items
  have hn : numsOf (intItems xs).toList = ns := by rw [← e]; exact hi.numsOf
  rw [nums_intItems] at hn
  rw [e] at hl
  refine PySem.W.ktm_sumG hh hl fun h' tk t' hk => ?_
  have := h h' tk t' hk
  rw [preSum_eq, List.take_of_length_le (by simp), hn]; exact this
end
/-- sum(xs) of a list or a tuple of ints -/
def rSum2 (K : PySem.W.Frag) : List V → Hp → VK → Prop := fun vs H Q => ∃ (a : Addr) (ns : List Int), vs = [V.ref a] ∧ (SqL K H a (ns.map V.int) ∨ SqT K H a (ns.map V.int)) ∧ Q (.int ns.sum) H
theorem cr_sum2 {X : Cx} (hc : X.calm = true) : CallR X (.builtin "sum") (rSum2 X.K) := by
  intro pins s σ H vs us Q I r h
  obtain ⟨a, ns, rfl, hs, q⟩ := h
  rw [Vals.ref1 r]
  rcases hs with hs | hs
  · obtain ⟨its, rv, hl, _⟩ := I.list hs
    exact sum_raw (I.ok.hd hc) hl.isList rv.ints fun h' tk t' hk => ⟨.int _, H, I.kept hk, ⟨_, rfl⟩, q⟩
  · obtain ⟨its, rv, hl, _⟩ := I.tuple hs
    exact sum_rawT (I.ok.hd hc) hl rv.ints fun h' tk t' hk => ⟨.int _, H, I.kept hk, ⟨_, rfl⟩, q⟩
theorem u_sum : Un1 K (rSum2 K) (primD .sum) := by
  intro x d v C G H ρ σ Q hd rr pk k
  cases x with
  | list ds =>
    obtain ⟨bs, h1, h2⟩ := bindR_ok_inv hd
    cases h2
    obtain ⟨a, xs, rfl, h3, h4⟩ := pk.lst rr.exG
    have e := ints_of h1 h4
    subst e
    exact ⟨a, bs, rfl, .inl h3, k G _ H (Same.refl G) rr (.int _)⟩
  | tuple ds =>
    obtain ⟨bs, h1, h2⟩ := bindR_ok_inv hd
    cases h2
    cases pk.tup with
    | tup h3 h4 =>
      have e := ints_of h1 h4
      subst e
      exact ⟨_, bs, rfl, .inr (same_t rr.exG h3), k G _ H (Same.refl G) rr (.int _)⟩
  | _ => cases hd
theorem u_max : Un1 K (rMax K) (primD .max) := u_list (g := intsD) (mk := V.int) (z := fun ns => match ns with | [] => stk | n :: r => .ok (.int (maxI n r))) (fun {x d} h => by
  cases x with
  | list ds => obtain ⟨bs, h1, h2⟩ := bindR_ok_inv h; exact ⟨ds, bs, rfl, h1, h2⟩
  | _ => cases h) ints_of (fun {a as d C G H ρ σ Q} hz rr h3 k => by
  cases as with
  | nil => cases hz
  | cons n r =>
    cases hz
    refine ⟨a, n :: r, rfl, h3, Nat.zero_lt_succ _, fun m hm hall => ?_⟩
    have e : m = maxI n r := by
      have h1 := hall _ (maxI_mem r n)
      have h2 : m ≤ maxI n r := by
        rcases List.mem_cons.mp hm with rfl | h
        · exact maxI_ge r m
        · exact maxI_all r n m h
      omega
    rw [e]
    exact k G _ H (Same.refl G) rr (.int _))
theorem u_min : Un1 K (rMin K) minID := u_list (g := intsD) (mk := V.int) (z := fun ns => match ns with | [] => stk | n :: r => .ok (.int (minI n r))) (fun {x d} h => by
  cases x with
  | list ds => obtain ⟨bs, h1, h2⟩ := bindR_ok_inv h; exact ⟨ds, bs, rfl, h1, h2⟩
  | _ => cases h) ints_of (fun {a as d C G H ρ σ Q} hz rr h3 k => by
  cases as with
  | nil => cases hz
  | cons n r =>
    cases hz
    refine ⟨a, n :: r, rfl, h3, Nat.zero_lt_succ _, fun m hm hall => ?_⟩
    have e : m = minI n r := by
      have h1 := hall _ (minI_mem r n)
      have h2 : minI n r ≤ m := by
        rcases List.mem_cons.mp hm with rfl | h
        · exact minI_le r m
        · exact minI_all r n m h
      omega
    rw [e]
    exact k G _ H (Same.refl G) rr (.int _))
def rLenA (K : PySem.W.Frag) : List V → Hp → VK → Prop := fun xs H Q => (∃ p ys, xs = [.ref p] ∧ (SqL K H p ys ∨ SqT K H p ys) ∧ Q (.int ys.length) H) ∨ ∃ z, xs = [.str z] ∧ z.length ≤ sizeLine ∧ Q (.int z.length) H
theorem u_len : Un1 K (rLenA K) (primD .len) := by
  intro x d v C G H ρ σ Q hd rr pk k
  cases x with
  | list ds =>
    cases hd
    obtain ⟨a, xs, rfl, h3, h4⟩ := pk.lst rr.exG
    exact .inl ⟨a, xs, rfl, .inl h3, by rw [dps_len h4]; exact k G _ H (Same.refl G) rr (.int _)⟩
  | tuple ds =>
    cases hd
    cases pk.tup with
    | tup h3 h4 => exact .inl ⟨_, _, rfl, .inr (same_t rr.exG h3), by rw [dps_len h4]; exact k G _ H (Same.refl G) rr (.int _)⟩
  | str s =>
    have hd : (if s.length ≤ LIM then Except.ok (PyData.int (s.length : Nat)) else stk) = Except.ok d := hd
    split at hd
    · rename_i hl
      cases hd
      cases pk with
      | kn h =>
        cases h
        exact .inr ⟨s, rfl, lim_line hl, k G _ H (Same.refl G) rr (.int _)⟩
    · cases hd
  | _ => cases hd
def rTupS : List V → Hp → VK → Prop := fun xs H Q => ∃ z : Str, xs = [.str z] ∧ z.length ≤ sizeLine ∧ ∀ l o, H l = none → o.dict = none → Q (.ref l) (upd H l (.frz o (.tup ((charsS z).map V.str))))
def rTupA (K : PySem.W.Frag) : List V → Hp → VK → Prop := fun xs H Q => (∃ p ys, xs = [.ref p] ∧ ((SqL K H p ys ∧ ∀ l o, H l = none → o.dict = none → Q (.ref l) (upd H l (.frz o (.tup ys)))) ∨ (SqT K H p ys ∧ Q (.ref p) H))) ∨ rTupS xs H Q
theorem vals_signs {z : Str} {acc : Array Value} (h : ItemsOf (SignAt z) acc z.cps.size) : Vals ((charsS z).map V.str) acc.toList := by
  have e : (charsS z).map V.str = (List.range acc.toList.length).map fun i => V.str ⟨#[z.cps.toList.getD i 0]⟩ := by
    apply List.ext_getElem
    · simp [charsS, h.1]
    · intro i h1 h2
      have hi : i < z.cps.size := by simpa [charsS] using h1
      simp [charsS, List.getD_eq_getElem?_getD, hi]
  rw [e]
  refine vals_of_get acc.toList _ fun j u hj => ?_
  obtain ⟨c, y, hc, rfl⟩ := h.2 j u (by rw [← hj, Array.getElem?_toList])
  refine ⟨y, ?_⟩
  have : z.cps.toList.getD j 0 = c := by rw [List.getD_eq_getElem?_getD, Array.getElem?_toList, hc]; rfl
  rw [this]
theorem cr_tupStr {X : Cx} (hc : X.calm = true) : CallR X (.type "tuple") rTupS := by
  intro pins s σ H xs us Q I r h
  obtain ⟨z, rfl, hz, q⟩ := h
  obtain ⟨u, rfl, t, rfl⟩ := vals1 r
  have hz' : z.cps.size ≤ sizeLine := hz
  refine call_tuple_str (I.ok.hd hc) z t (fun h' tk acc hk hacc => ?_) hz'
  have rv := vals_signs hacc
  have hl : ((charsS z).map V.str).length ≤ sizeLine := by simpa [charsS] using hz'
  have I1 : Inv X pins σ H { s with heap := h', toks := tk } := I.kept (t' := tk) hk
  exact ⟨.ref h'.objs.size, _, laidN (s := { s with heap := h', toks := tk }) (t' := tk) (its := acc.toList) I1 (fun b o e => Heap.get?_push_of_some _ e) (Nat.le_refl _) (Heap.get?_push_size _ rfl) rfl (by simp; rfl) hl rv, rfl, q _ _ (I1.hok.fresh (Nat.le_refl _)) rfl⟩
theorem u_tuple : Un1 K (rTupA K) (primD .tuple) := by
  intro x d v C G H ρ σ Q hd rr pk k
  cases x with
  | list ds =>
    cases hd
    obtain ⟨a, xs, rfl, h3, h4⟩ := pk.lst rr.exG
    refine .inl ⟨a, xs, rfl, .inl ⟨h3, fun l o hl ho => ?_⟩⟩
    have nG := rr.nG hl
    exact k _ _ _ (same_new nG) (rr.know hl) (.tup (NT.of ho upd_same) (dps_mono (same_new nG) h4))
  | tuple ds =>
    cases hd
    have hp := pk.tup
    cases hp with
    | tup h3 h4 => exact .inl ⟨_, _, rfl, .inr ⟨same_t rr.exG h3, k G _ H (Same.refl G) rr (.tup h3 h4)⟩⟩
  | str s =>
    have hd : (if s.length ≤ LIM then Except.ok (PyData.tuple ((charsS s).map .str)) else stk) = Except.ok d := hd
    split at hd
    · rename_i hl
      cases hd
      cases pk with
      | kn h =>
        cases h
        refine .inr ⟨s, rfl, lim_line hl, fun l o hn ho => ?_⟩
        have nG := rr.nG hn
        exact k _ _ _ (same_new nG) (rr.know hn) (.tup (NT.of ho upd_same) (dps_strs _ _))
    · cases hd
  | _ => cases hd
def rListA (K : PySem.W.Frag) : List V → Hp → VK → Prop := fun xs H Q => ∃ p ys, xs = [.ref p] ∧ (SqL K H p ys ∨ SqT K H p ys) ∧ ∀ l, H l = none → Q (.ref l) (upd H l (.lst ys))
theorem u_listF {x z : D} {v : V} {C : RC} {G H : Hp} {ρ : Env} {σ : L2.St} {Q : VK} (hd : primD .list x = .ok z) (rr : Rel K C G ρ σ H) (pk : PkD K G H v x)
    (k : ∃ ds, z = .list ds ∧ ∀ G' p xs H', Same G G' → Rel K C G' ρ σ H' → Own C G' ρ σ H' p xs → DpAll K G' xs ds → Q (.ref p) H') : rListA K [v] H Q := by
  obtain ⟨es, ez, k⟩ := k
  cases x with
  | list ds =>
    cases hd
    cases ez
    obtain ⟨a, xs, rfl, h3, h4⟩ := pk.lst rr.exG
    exact ⟨a, xs, rfl, .inl h3, fun l hl => k G l xs _ (Same.refl G) (rr.alloc hl) (rr.own hl) h4⟩
  | tuple ds =>
    cases hd
    cases ez
    cases pk.tup with
    | tup h3 h4 => exact ⟨_, _, rfl, .inr (same_t rr.exG h3), fun l hl => k G l _ _ (Same.refl G) (rr.alloc hl) (rr.own hl) h4⟩
  | _ => cases hd
theorem u_list1 : Un1 K (rListA K) (primD .list) := by
  intro x d v C G H ρ σ Q hd rr pk k
  have hl : ∃ ds, d = .list ds := by
    cases x <;> cases hd <;> exact ⟨_, rfl⟩
  obtain ⟨ds, rfl⟩ := hl
  exact u_listF hd rr pk ⟨ds, rfl, fun G' p xs H' e1 r1 o hx => k _ _ _ (e1.trans o.same) (r1.take o) (.lst (SqL.of upd_same) (dps_mono o.same hx))⟩
theorem u_abs : Un1 K (fun xs H Q => ∃ i, xs = [.int i] ∧ Q (.int (if i < 0 then -i else i)) H) (primD .abs) := by
  intro x d v C G H ρ σ Q hd rr pk k
  cases x with
  | int i =>
    cases hd
    cases pk with
    | kn h => cases h; exact ⟨i, rfl, k G _ H (Same.refl G) rr (.int _)⟩
  | _ => cases hd
theorem u_int : Un1 K (fun xs H Q => (∃ i, xs = [.int i] ∧ Q (.int i) H) ∨ ∃ k, xs = [.bl k] ∧ Q (.int (if k then 1 else 0)) H) (primD .int) := by
  intro x d v C G H ρ σ Q hd rr pk k
  cases x with
  | int i =>
    cases hd
    cases pk with
    | kn h => cases h; exact .inl ⟨i, rfl, k G _ H (Same.refl G) rr (.int _)⟩
  | bool b =>
    cases hd
    cases pk with
    | kn h => cases h; exact .inr ⟨b, rfl, k G _ H (Same.refl G) rr (.int _)⟩
  | _ => cases hd
theorem u_str : Un1 K (fun xs H Q => ∃ i, xs = [.int i] ∧ i.natAbs.log2 < 1920 ∧ Q (.str (toString i)) H) (primD .str) := by
  intro x d v C G H ρ σ Q hd rr pk k
  cases x with
  | int i =>
    have hd : (if i.natAbs.log2 < 1920 then Except.ok (PyData.str (toString i)) else stk) = Except.ok d := hd
    split at hd
    · rename_i hl
      cases hd
      cases pk with
      | kn h => cases h; exact ⟨i, rfl, hl, k G _ H (Same.refl G) rr (.str _)⟩
    · cases hd
  | _ => cases hd
end
end Ft
/-! FtPrim2: the rules for built-ins, isinstance, subscripts, slices, methods. -/
namespace Ft
open PySem PySem.Spec PyProof.Rows L2
theorem attr_name {x m : Str} {p : Pos} {env : PySem.Env} {w : Sem Value} : attributeBase (.Name x p) m env w = w := rfl
section
variable {F : Fns} {K : PySem.W.Frag} {cl : Str → Addr} {W : WX} {X : Cx} {a b e t as es lo hi : E} {ea eb ee ec : Expr} {pos p apos p2 : Pos} {rest : List Expr}
theorem prim_imp {q : Pr} {r : List V → Hp → VK → Prop} (hu : Un1 K r (primD q)) (σ : L2.St) (H : Hp) (Q : VK) (h : rdE F K cl W (.prim q a) σ H Q) : tCB r (tCons (rdP F K cl W a) tNil) σ H Q := by
  obtain ⟨C, G, ρ, rr, h⟩ := h
  refine ⟨C, G, ρ, rr, ?_⟩
  unfold evE at h
  refine h.bind.mono fun x ρ1 _ h1 G1 v1 H1 e1 r1 d1 => ?_
  obtain ⟨z, hz, h2⟩ := Out.bindc h1
  exact hu hz r1 d1 fun G' v H' e' r' d' => h2 G' v H' (e1.trans e') r' d'
theorem s_primB {x : Str} {id : String} {q : Pr} {r : List V → Hp → VK → Prop} (hc : CallR X (.builtin id) r) (hu : Un1 K r (primD q)) (hg : Gl X x) (hm : X.mg x = none) (hv : bootBuiltins x = some (.builtin id)) (ha : PE X ea (rdP F K cl W a)) (hn : x ≠ "__name__") (hd : (x == ("__debug__" : Str)) = false) (hs : nostar ea = true) :
    PE X (.Call (.Name x p) [ea] [] pos) (rdE F K cl W (.prim q a)) := PE.imp (pe_callB hc hg hm hv (pa_cons ha pa_nil (star_cons hs)) hn hd (star_cons hs) rfl) (prim_imp hu)
theorem s_primT {x : Str} {T : String} {q : Pr} {r : List V → Hp → VK → Prop} (hc : CallR X (.type T) r) (hu : Un1 K r (primD q)) (hg : Gl X x) (hm : X.mg x = none) (hv : bootBuiltins x = some (.type T)) (ha : PE X ea (rdP F K cl W a)) (hn : x ≠ "__name__") (hd : (x == ("__debug__" : Str)) = false) (hs : nostar ea = true) :
    PE X (.Call (.Name x p) [ea] [] pos) (rdE F K cl W (.prim q a)) := PE.imp (pe_callTy hc hg hm hv (pa_cons ha pa_nil (star_cons hs)) hn hd (star_cons hs) rfl) (prim_imp hu)
/-- list(x), a list of one's own -/
theorem f_list {x : Str} (hK : X.K = K) (hg : Gl X x) (hm : X.mg x = none) (hv : bootBuiltins x = some (.type "list")) (ha : PE X ea (rdP F K cl W a)) (hn : x ≠ "__name__") (hd : (x == ("__debug__" : Str)) = false) (hs : nostar ea = true) :
    PE X (.Call (.Name x p) [ea] [] pos) (rdF F K cl W (.prim .list a)) := by
  refine PE.imp (pe_callTy call_list_of hg hm hv (pa_cons ha pa_nil (star_cons hs)) hn hd (star_cons hs) rfl) fun σ H Q h => ?_
  obtain ⟨C, G, ρ, rr, h⟩ := h
  refine ⟨C, G, ρ, rr, ?_⟩
  unfold evE at h
  refine h.bind.mono fun x ρ1 _ h1 G1 v1 H1 e1 r1 d1 => ?_
  obtain ⟨z, hz, h2⟩ := Out.bindc h1
  rw [hK]
  refine u_listF hz r1 d1 ?_
  obtain ⟨ds, hd, k⟩ := h2
  exact ⟨ds, hd, fun G' p xs H' q1 q2 q3 q4 => k G' p xs H' (e1.trans q1) q2 q3 q4⟩
/-! ### isinstance -/
def tyN : Ty → String
  | .int => "int"
  | .bool => "bool"
  | .str => "str"
  | .tuple => "tuple"
  | .list => "list"
theorem ty_of {x : D} {v : V} {H : Hp} (d : Dp K H v x) : ∃ T : String, TyX K H v (.type T) ∧ ∀ t : Ty, kitB T (tyN t) = some (isTy t x) := by
  cases d with
  | non => exact ⟨"NoneType", .base .non, fun t => by cases t <;> first | (show kitB _ _ = some true; decide +kernel) | (show kitB _ _ = some false; decide +kernel)⟩
  | bl b => exact ⟨"bool", .base (.bl b), fun t => by cases t <;> first | (show kitB _ _ = some true; decide +kernel) | (show kitB _ _ = some false; decide +kernel)⟩
  | int i => exact ⟨"int", .base (.int i), fun t => by cases t <;> first | (show kitB _ _ = some true; decide +kernel) | (show kitB _ _ = some false; decide +kernel)⟩
  | str s => exact ⟨"str", .base (.str s), fun t => by cases t <;> first | (show kitB _ _ = some true; decide +kernel) | (show kitB _ _ = some false; decide +kernel)⟩
  | lst h ha =>
    refine ⟨"list", ?_, fun t => by cases t <;> first | (show kitB _ _ = some true; decide +kernel) | (show kitB _ _ = some false; decide +kernel)⟩
    rcases h with (h | ⟨o, h⟩) | ⟨o, its, n, h1, h2, _⟩
    · exact .base (.lst h)
    · exact .base (.frz h)
    · exact .kList h1 h2
  | tup h ha =>
    refine ⟨"tuple", ?_, fun t => by cases t <;> first | (show kitB _ _ = some true; decide +kernel) | (show kitB _ _ = some false; decide +kernel)⟩
    obtain ⟨o, h, _⟩ := h
    exact .fTuple h
theorem s_isi {ty : Ty} {x y : Str} {u : Value} (hK : X.K = K) (hg : Gl X x) (hm : X.mg x = none) (hv : bootBuiltins x = some (.builtin "isinstance")) (hg2 : Gl X y) (hm2 : X.mg y = none) (hv2 : bootBuiltins y = some (.type (tyN ty))) (ha : PE X ea (rdP F K cl W a))
    (hn : x ≠ "__name__") (hd : (x == ("__debug__" : Str)) = false) (hn2 : y ≠ "__name__") (hd2 : (y == ("__debug__" : Str)) = false) (hs : nostar ea = true) :
    PE X (.Call (.Name x p) [ea, .Name y p2] [] pos) (rdE F K cl W (.isi a ty)) := by
  have hy : PE X (.Name y p2) (tC (.ty (tyN ty))) := pe_bltn hg2 hm2 hv2 rfl hn2 hd2
  refine PE.imp (pe_callB call_isi hg hm hv (pa_cons ha (pa_cons hy pa_nil rfl) (star_cons hs)) hn hd (star_cons hs) rfl) fun σ H Q ⟨C, G, ρ, rr, h⟩ => ⟨C, G, ρ, rr, ?_⟩
  unfold evE at h
  refine h.bind.mono fun x ρ1 _ h1 G1 v1 H1 e1 r1 d1 => ?_
  rw [hK]
  obtain ⟨T, hT, hk⟩ := ty_of (d1.dp r1.exG)
  exact ⟨v1, _, _, _, isTy ty x, rfl, .ty _, hT, kit_ty (hk ty), h1 G1 _ H1 e1 r1 (.bl _)⟩
/-! ### subscripts -/
theorem at_of {xs : List V} {ds : List D} {i : Int} {d : D} {G : Hp} (h : atD ds i = .ok d) (ha : DpAll K G xs ds) : ∃ v, atI xs i = some v ∧ Dp K G v d := by
  have hl := dps_len ha
  unfold atD at h
  split at h
  · rename_i h0
    split at h
    · rename_i x hx
      cases h
      obtain ⟨v, h1, h2⟩ := dps_get ha hx
      have hlt := (List.getElem?_eq_some_iff.mp h1).1
      refine ⟨v, ?_, h2⟩
      unfold atI ixN
      rw [if_pos h0, if_pos (by omega)]
      exact h1
    · cases h
  · rename_i h0
    split at h
    · rename_i h1
      split at h
      · rename_i x hx
        cases h
        obtain ⟨v, h2, h3⟩ := dps_get ha hx
        refine ⟨v, ?_, h3⟩
        unfold atI ixN
        rw [if_neg h0, hl, if_pos h1]
        exact h2
      · cases h
    · cases h
theorem at_nat {xs : List Nat} {i : Int} {c : Nat} (h : atD xs i = .ok c) : atI xs i = some c := by
  unfold atD at h
  split at h
  · rename_i h0
    split at h
    · rename_i x hx
      cases h
      have hlt := (List.getElem?_eq_some_iff.mp hx).1
      unfold atI ixN
      rw [if_pos h0, if_pos (by omega)]
      exact hx
    · cases h
  · rename_i h0
    split at h
    · rename_i h1
      split at h
      · rename_i x hx
        cases h
        unfold atI ixN
        rw [if_neg h0, if_pos h1]
        exact hx
      · cases h
    · cases h
def noslice : Expr → Bool
  | .Slice _ _ _ _ => false
  | _ => true
theorem plainIx_of {e : Expr} (h : noslice e = true) : PlainIx e := fun o i => by
  cases e <;> first | rfl | cases h
theorem ix_of {x y z : D} {vx vy : V} {C : RC} {G H : Hp} {ρ : Env} {σ : L2.St} {Q : VK} (hz : ixD x y = .ok z) (r : Rel K C G ρ σ H) (dx : PkD K G H vx x) (dy : Dp K G vy y) (q : ∀ v, Dp K G v z → Q v H) : rIx K vx vy H Q := by
  cases y with
  | int i =>
    cases dy
    cases x with
    | list ds =>
      obtain ⟨a, xs, rfl, h3, h4⟩ := dx.lst r.exG
      obtain ⟨v, h5, h6⟩ := at_of hz h4
      exact .inl ⟨a, xs, i, v, rfl, rfl, h3, h5, q v h6⟩
    | tuple ds =>
      cases dx.tup with
      | tup h3 h4 =>
        obtain ⟨v, h5, h6⟩ := at_of hz h4
        exact .inr (.inl ⟨_, _, i, v, rfl, rfl, same_t r.exG h3, h5, q v h6⟩)
    | str s =>
      have hz : (if s.length ≤ LIM then bindR (atD s.cps.toList i) fun c => .ok (.str ⟨#[c]⟩) else stk) = Except.ok z := hz
      split at hz
      · rename_i hl
        obtain ⟨c, h1, h2⟩ := bindR_ok_inv hz
        cases h2
        cases dx with
        | kn h =>
          cases h
          exact .inr (.inr ⟨s, i, c, rfl, rfl, lim_line hl, at_nat h1, q _ (.str _)⟩)
      · cases hz
    | _ => cases hz
  | _ => cases x <;> cases hz
theorem s_ix (hK : X.K = K) (ha : PE X ea (rdE F K cl W a)) (hb : PE X eb (rdE F K cl W b)) (hs : noslice eb = true) : PE X (.Subscript ea eb pos) (rdE F K cl W (.ix a b)) := by
  refine PE.imp (pe_ix ix_seq ha hb (plainIx_of hs)) fun σ H Q ⟨C, G, ρ, r, h⟩ => ⟨C, G, ρ, r, ?_⟩
  unfold evE at h
  refine h.bind.mono fun x ρ1 _ h1 G1 v1 H1 e1 r1 d1 => ⟨C, G1, ρ1, r1, ?_⟩
  refine Out.mono (Out.bind h1) fun y ρ2 _ h2 G2 v2 H2 e2 r2 d2 => ?_
  obtain ⟨z, hz, h3⟩ := Out.bindc h2
  rw [hK]
  exact ix_of hz r2 (.kn (dp_mono e2 d1)) d2 fun v dv => h3 G2 v H2 (e1.trans e2) r2 dv
theorem peek_cases {ρ ρ' : Env} {i : Nat} {d : D} (h : peek ρ i = .ok (d, ρ')) : ρ' = ρ ∧ (ρ[i]? = some (.im d) ∨ ∃ c ds, ρ[i]? = some c ∧ c.ls = some ds ∧ d = .list ds) := by
  unfold peek at h
  cases hc : ρ[i]? with
  | none => rw [hc] at h; cases h
  | some c =>
    rw [hc] at h
    cases c with
    | no => cases h
    | di kvs => cases h
    | im d => cases h; exact ⟨rfl, .inl rfl⟩
    | mu ds => cases h; exact ⟨rfl, .inr ⟨_, _, rfl, rfl, rfl⟩⟩
    | rf ds => cases h; exact ⟨rfl, .inr ⟨_, _, rfl, rfl, rfl⟩⟩
theorem Rel.peeked {C : RC} {G H : Hp} {ρ ρ' : Env} {σ : L2.St} {i : Nat} {d : D} (r : Rel K C G ρ σ H) (h : peek ρ i = .ok (d, ρ')) : ρ' = ρ ∧ ∃ v, σ[i]? = some (some v) ∧ PkD K G H v d := by
  obtain ⟨e, h⟩ := peek_cases h
  refine ⟨e, ?_⟩
  rcases h with h | ⟨c, ds, h1, h2, rfl⟩
  · obtain ⟨v, h1, h2⟩ := r.imAt h
    exact ⟨v, h1, .kn h2⟩
  · obtain ⟨p, xs, h3, h4, h5, _⟩ := r.muAt h1 h2
    exact ⟨_, h3, .own h4 h5⟩
/-- x[i], x a name: the slot holds a value ahead of i -/
theorem s_ixv {s : Nat} {x : Str} (hK : X.K = K) (hN : X.N[s]? = some x) (hv : Vis X.env.scope x) (hd : (x == ("__debug__" : Str)) = false) (hc : (x == ("__classdict__" : Str)) = false) (hb : PE X eb (rdE F K cl W b)) (hs : noslice eb = true)
    : PE X (.Subscript (.Name x p) eb pos) (rdE F K cl W (.ixv s b)) := by
  refine PE.imp (pe_ix ix_seq (pe_var hN hv hd hc) hb (plainIx_of hs)) fun σ H Q ⟨C, G, ρ, r, h⟩ => ?_
  unfold evE at h
  obtain ⟨q0, hq0, h⟩ := Out.bindc h
  obtain ⟨_, v0, hv0, _⟩ := r.peeked (d := q0.1) (ρ' := q0.2) hq0
  refine ⟨v0, hv0, C, G, ρ, r, ?_⟩
  refine Out.mono (Out.bind h) fun y ρ2 _ h2 G2 v2 H2 e2 r2 d2 => ?_
  obtain ⟨q1, hq1, h3⟩ := Out.bindc h2
  obtain ⟨er, v1, hv1, pd⟩ := r2.peeked (d := q1.1) (ρ' := q1.2) hq1
  rw [hv0] at hv1
  cases hv1
  obtain ⟨z, hz, h4⟩ := Out.bindc h3
  rw [hK]
  refine ix_of hz r2 pd d2 fun v dv => h4 G2 v H2 e2 ?_ dv
  show Rel K C G2 q1.2 σ H2
  rw [er]
  exact r2
/-! ### slices -/
theorem o_none : PO X none (rdO F K cl W .nil) := ⟨fun pins s σ H Q I ⟨C, G, ρ, r, h⟩ => by
  unfold evO at h
  exact po_none.run pins s σ H Q I (h G H (Same.refl G) r)⟩
theorem o_some (ha : PE X ea (rdE F K cl W a)) : PO X (some ea) (rdO F K cl W (.tr a)) := ⟨fun pins s σ H Q I ⟨C, G, ρ, r, h⟩ => by
  refine (po_some ha).run pins s σ H Q I ⟨C, G, ρ, r, ?_⟩
  unfold evO at h
  refine h.bind.mono fun x ρ1 _ h1 G1 v1 H1 e1 r1 d1 => ?_
  obtain ⟨i, hi, h2⟩ := Out.bindc h1
  cases x with
  | int j =>
    cases hi
    cases d1
    exact ⟨i, rfl, h2 G1 H1 e1 r1⟩
  | _ => cases hi⟩
theorem cut_of {xs : List V} {ds : List D} {lo hi : Option Int} {G : Hp} (ha : DpAll K G xs ds) : DpAll K G (cutV xs lo hi) (cutL ds lo hi) := by
  have e : ∀ n d o, HT.sIx n d o = cutIx n d o := fun n d o => by cases o <;> rfl
  unfold cutV cutL
  rw [e, e, dps_len ha]
  exact dps_take _ (dps_drop _ ha)
def rSlAll (K : PySem.W.Frag) : V → Option Int → Option Int → Hp → VK → Prop := fun x lo hi H Q => rSlL K x lo hi H Q ∨ rSlN K x lo hi H Q ∨ rSlS x lo hi H Q
theorem sl_all : SlR X (rSlAll X.K) := SlR.or sl_list (SlR.or sl_tupN sl_str)
theorem cut_whole {ds : List D} {lo hi : Option Int} (h : cutIx ds.length 0 lo = 0 ∧ cutIx ds.length ds.length hi = ds.length) : cutL ds lo hi = ds := by
  unfold cutL
  rw [h.1, h.2]
  simp
theorem slc_of {x z : D} {v : V} {lo hi : Option Int} {C : RC} {G H : Hp} {ρ : Env} {σ : L2.St} {Q : VK} (hz : slcD lo hi x = .ok z) (r : Rel K C G ρ σ H) (dx : Dp K G v x) (k : ∀ G' v H', Same G G' → Rel K C G' ρ σ H' → Dp K G' v z → Q v H') : rSlAll K v lo hi H Q := by
  cases dx with
  | lst h1 h2 =>
    cases hz
    refine .inl ⟨_, _, rfl, same_l r.exG h1, fun p hp => ?_⟩
    have nG := r.nG hp
    exact k _ _ _ (same_new nG) (r.know hp) (.lst (SqL.of upd_same) (dps_mono (same_new nG) (cut_of h2)))
  | @tup a xs ds h1 h2 =>
    cases hz
    have e : ∀ n d o, HT.sIx n d o = cutIx n d o := fun n d o => by cases o <;> rfl
    have hl := dps_len h2
    refine .inr (.inl ⟨_, _, rfl, same_t r.exG h1, fun hw => ?_, fun _ p o hp ho => ?_⟩)
    · rw [e, e, hl] at hw
      rw [cut_whole hw] at k
      exact k G _ H (Same.refl G) r (.tup h1 h2)
    · have nG := r.nG hp
      exact k _ _ _ (same_new nG) (r.know hp) (.tup (NT.of ho upd_same) (dps_mono (same_new nG) (cut_of h2)))
  | str s =>
    have hz : (if s.length ≤ LIM then Except.ok (PyData.str ⟨(cutL s.cps.toList lo hi).toArray⟩) else stk) = Except.ok z := hz
    split at hz
    · rename_i hl
      cases hz
      refine .inr (.inr ⟨s, rfl, lim_line hl, ?_⟩)
      have e : ∀ n d o, HT.sIx n d o = cutIx n d o := fun n d o => by cases o <;> rfl
      have hs : s.length = s.cps.toList.length := by simp [Str.length]
      have e2 : cutS s lo hi = ⟨(cutL s.cps.toList lo hi).toArray⟩ := by
        unfold cutS cutL
        rw [e, e, hs]
      rw [e2]
      exact k G _ H (Same.refl G) r (.str _)
    · cases hz
  | _ => cases hz
theorem s_slc {l h : Option Expr} (hK : X.K = K) (ha : PE X ea (rdE F K cl W a)) (hl : PO X l (rdO F K cl W lo)) (hh : PO X h (rdO F K cl W hi)) : PE X (.Subscript ea (.Slice l h none p2) pos) (rdE F K cl W (.slc a lo hi)) := by
  refine PE.imp (pe_slice sl_all ha hl hh) fun σ H Q ⟨C, G, ρ, r, h⟩ => ⟨C, G, ρ, r, ?_⟩
  unfold evE at h
  refine h.bind.mono fun x ρ1 _ h1 G1 v1 H1 e1 r1 d1 => ⟨C, G1, ρ1, r1, ?_⟩
  refine Out.mono (Out.bind h1) fun l ρ2 _ h2 G2 H2 e2 r2 => ⟨C, G2, ρ2, r2, ?_⟩
  refine Out.mono (Out.bind h2) fun u ρ3 _ h3 G3 H3 e3 r3 => ?_
  obtain ⟨z, hz, h4⟩ := Out.bindc h3
  rw [hK]
  exact slc_of hz r3 (dp_mono (e2.trans e3) d1) fun G' v H' e' r' d' => h4 G' v H' (((e1.trans e2).trans e3).trans e') r' d'
/-! ### x.pop(i) -/
theorem s_pop {s : Nat} {x : Str} (hN : X.N[s]? = some x) (hv : Vis X.env.scope x) (hd : (x == ("__debug__" : Str)) = false) (hc : (x == ("__classdict__" : Str)) = false) (hb : PE X eb (rdE F K cl W b)) (hs : nostar eb = true) (hline : (apos.endLine == pos.line) = true)
    : PE X (.Call (.Attribute (.Name x p) "pop" apos) [eb] [] pos) (rdE F K cl W (.pop s b)) := by
  have hfew : ((backTo pos (starEach [eb] X.env)).all (fun x => !x.1) && (backToKw pos (keywordEach [] X.env)).all (fun x => x.1.isSome) && decide ([eb].length + ([] : List Keyword).length + (if ([] : List Keyword).isEmpty then 0 else 1) < 30)) = true := by
    rw [star_cons hs]
    rfl
  refine PE.imp (pe_bm PySem.F.plainAttrs_list PySem.F.slot_list_pop PySem.F.type_list_pop mt_popAt (pe_var hN hv hd hc) (pa_cons hb pa_nil (star_cons hs)) (hbase := attr_name) (hfew := hfew) (hline := hline) (hs := star_cons hs) (hplain := rfl)) fun σ H Q ⟨C, G, ρ, r, h⟩ => ?_
  unfold evE at h
  obtain ⟨q0, hq0, h⟩ := Out.bindc h
  obtain ⟨c0, j1, j2, _⟩ := lstAt_cases hq0
  obtain ⟨pp, xs0, hpp, hx0, _⟩ := r.muAt j1 j2
  refine ⟨.ref pp, hpp, .inl ⟨rfl, _, SqL.of hx0⟩, C, G, ρ, r, ?_⟩
  refine Out.mono (Out.bind h) fun y ρ1 _ h2 G2 v2 H2 e2 r2 d2 => ?_
  obtain ⟨k, hk, h3⟩ := Out.bindc h2
  cases y with
  | int k' =>
    cases hk
    cases d2
    obtain ⟨q1, hq1, h4⟩ := Out.bindc h3
    obtain ⟨c1, k1, k2, k3⟩ := lstAt_cases hq1
    obtain ⟨p', xs, w1, w2, w3, w4, w5⟩ := r2.muAt k1 k2
    rw [hpp] at w1
    cases w1
    obtain ⟨j, hj, h5⟩ := Out.bindc h4
    have hj : (if 0 ≤ k ∧ k < (q1.1.length : Int) ∧ k < 2 ^ 60 then Except.ok k.toNat else stk) = Except.ok j := hj
    split at hj
    · rename_i hb
      cases hj
      obtain ⟨d, hd, h6⟩ := Out.bindc h5
      have hget : q1.1[k.toNat]? = some d := by
        unfold atD at hd
        rw [if_pos hb.1] at hd
        split at hd
        · rename_i z hz; cases hd; exact hz
        · cases hd
      obtain ⟨v, hv1, hv2⟩ := dps_get w3 hget
      have hl := dps_len w3
      refine ⟨pp, xs, k, k.toNat, v, rfl, rfl, w2, by omega, by omega, ?_, hv1, ?_⟩
      · exact (ixN_seq (n := xs.length) (i := k) (j := k.toNat) (by unfold ixN; rw [if_pos hb.1, if_pos (by omega)])).1
      · exact h6 G2 v _ e2 (r2.write k1 k2 hpp (k3 _) (dps_erase _ w3)) hv2
    · cases hj
  | _ => cases hk
end
end Ft
/-! FtEnum: enumerate over a tuple; a tuple backwards. -/
namespace Ft
open PySem PySem.Spec PyProof.Rows L2
open AutoSeq1 (wpAny_loadPart')
theorem meets_enumerate_newT (l : Addr) (items : Array Value) (n : Nat) (dct : Option Addr) (sl : Array (Option Value)) :
    Meets (Builtin.«enumerate.__new__» ⟨[.type "enumerate", .ref l], []⟩) (fun _ R s => s.heap.get? l = some { cls := .type "tuple", dict := dct, data := .seq items n, slots := sl } ∧
      R (.ok (.ret (.ref (s.heap.push { cls := .type "tuple_iterator", data := .fields #[.ref l, .int 0 0] }).objs.size)))
        { s with heap := (s.heap.push { cls := .type "tuple_iterator", data := .fields #[.ref l, .int 0 0] }).push { cls := .type "enumerate", data := .fields #[.none, .bool false, .ref s.heap.objs.size, rawInt 0, .none, .none] } }) :=
  .of_wp fun prog w A R s h => by
    obtain ⟨hp, g, d, tk, os⟩ := s; obtain ⟨hl, h⟩ := h
    have hsub := sub_enumerate
    have hL : Heap.IsTuple (Shared.heap ⟨hp, g, d, tk, os⟩) l items := ⟨_, hl, rfl, n, rfl⟩
    wp_walk using wpAny_loadPart' hl
    refine wpAny_stack_any fun st => wpAny_pure ?_
    split
    · rename_i c _ _ _ _ _
      cases (c == Value.type "enumerate")
      · wp_walk using wpAny_loadPart' hl, wpAny_pyIter_tuple hL
        exact ⟨_, rfl, h⟩
      · wp_walk using wpAny_loadPart' hl, wpAny_pyIter_tuple hL
        exact ⟨_, rfl, h⟩
    · wp_walk using wpAny_loadPart' hl, wpAny_pyIter_tuple hL
      exact ⟨_, rfl, h⟩
section
variable {prog : Program} {w : World} {A : Around} {E : Value → Shared → Prop} {s : Shared}
theorem call_enumerate_tuple {l : Addr} {items : Array Value} {Q : Value → Shared → Prop} (hL : s.heap.IsTuple l items)
    (h : ∀ h', IsEnum h' (s.heap.objs.size + 1) s.heap.objs.size 0 .none → h'.IsTupleIter s.heap.objs.size l 0 → h'.objs.size = s.heap.objs.size + 2 →
      (∀ b o, s.heap.get? b = some o → h'.get? b = some o) → Q (.ref (s.heap.objs.size + 1)) { s with heap := h' }) :
    wpAny (model prog w) A (call (.type "enumerate") [.ref l]) Q E s := by
  obtain ⟨⟨c, dct, dt, sl⟩, hl, hc, n, hd⟩ := hL
  replace hc : c = .type "tuple" := hc
  replace hd : dt = .seq items n := hd
  subst hc hd
  refine callType_new F.called_enumerate (by decide) (F.typeCall_enumerate_1 _) (F.newCall_enumerate_1 _) (fun obj => F.args_object_init_2 obj _) F.entry_enumerate_new
    (meets_enumerate_newT l items n dct sl) ⟨hl, ?_⟩
  have hz : (s.heap.push { cls := .type "tuple_iterator", data := .fields #[.ref l, .int 0 0] }).objs.size = s.heap.objs.size + 1 := Heap.size_push ..
  show _ ∧ _
  rw [hz]
  have he : IsEnum ((s.heap.push { cls := .type "tuple_iterator", data := .fields #[.ref l, .int 0 0] }).push
      { cls := .type "enumerate", data := .fields #[.none, .bool false, .ref s.heap.objs.size, rawInt 0, .none, .none] }) (s.heap.objs.size + 1) s.heap.objs.size 0 .none := by
    have := Heap.get?_push_size (s.heap.push { cls := .type "tuple_iterator", data := .fields #[.ref l, .int 0 0] })
      (o := { cls := .type "enumerate", data := .fields #[.none, .bool false, .ref s.heap.objs.size, rawInt 0, .none, .none] }) rfl
    rw [hz] at this; exact this
  refine ⟨⟨_, he, rfl⟩, h _ he ⟨_, Heap.get?_push_of_some _ (Heap.get?_push_size _ rfl), rfl, rfl⟩ (by rw [Heap.size_push, hz]) fun b o x => Heap.get?_push_of_some _ (Heap.get?_push_of_some _ x)⟩
end
theorem enumT_end {prog : Program} {w : World} {A : Around} {E : Value → Shared → Prop} {s : Shared} {e it t : Addr} {i : Nat} {items : Array Value} {old : Value} {Q : Option Value → Shared → Prop} (hh : A.in1.handled = none)
    (he : IsEnum s.heap e it i old) (hit : s.heap.IsTupleIter it t i) (hl : s.heap.IsTuple t items) (hx : items.size ≤ i)
    (hQ : ∀ h', Heap.ExtBut it s.heap h' → Q none { s with heap := h' }) : wpAny (model prog w) A (pyNext (.ref e)) Q E s := by
  have hT : s.TypeIs (.ref e) "enumerate" := ⟨_, he, rfl⟩
  unfold pyNext
  refine wpAny_bind (wpAny_attempt (wpAny_callSpecial?_slot (name := Str.ofString "__next__") hT F.slot_enumerate_next
    (wpAny_call_entry F.slot_enumerate_next hT F.entry_enumerate_next ?_ (F.args_enumerate_next_1 _))))
  show wpAny _ _ (field (.ref e) 2 >>= _) _ _ _
  refine wpAny_bind (wpAny_field he rfl (x := .ref it) rfl ?_)
  refine wpAny_bind (wpAny_nextOf_tuple_end hh hit hl (by simp; omega) fun h' x he' hx' => ?_)
  obtain ⟨o, ho, hc⟩ := hx'
  refine wpAny_bind (wpAny_isInstance (T := "StopIteration") (b := true) ⟨o, ho, hc⟩ isSubtype_stop ?_)
  exact wpAny_pure (hQ _ he')
/-- the tuple at a, its items in new pairs with their places -/
def IteT (K : PySem.W.Frag) (a : Addr) : It :=
  ⟨fun i H => ∃ (xs : List V) (x : V), SqT K H a xs ∧ xs[i]? = some x,
    fun i H v H' => ∃ T x, v = .ref T ∧ H T = none ∧ H' = upd H T (.tup [.int (i : Nat), x]) ∧ ∀ xs, SqT K H a xs → xs[i]? = some x,
    fun i H => ∃ xs : List V, SqT K H a xs ∧ xs.length ≤ i⟩
theorem turn_enumT {P : Program} {w : World} {K : PySem.W.Frag} {elts : List Expr} {kk : Nat} {tpos : Pos} (a e it : Addr) :
    Turn P w K (.Tuple elts kk tpos) (IteT K a) [e, it] e (fun i h => (∃ old, IsEnum h e it ((i : Nat) : Int) old) ∧ h.IsTupleIter it a i ∧ e ≠ it ∧ a ≠ it ∧ a ≠ e) where
  mem := by simp
  obj := fun i h st b hb => by
    obtain ⟨⟨old, he⟩, ⟨o, ho, hc, hd⟩, _⟩ := st
    have e' : b = e ∨ b = it := by simpa using hb
    rcases e' with z | z
    · rw [z]; exact ⟨_, he, fun v q => nomatch q⟩
    · rw [z]; exact ⟨o, ho, fun v q => by rw [hd] at q; cases q⟩
  keep := fun i h h' st k => let ⟨⟨old, he⟩, hi, hne⟩ := st; ⟨⟨old, k e (by simp) _ he⟩, hi.at fun o q => k it (by simp) o q, hne⟩
  item := by
    intro X hP hw hK hc i pins s σ H E I hf st hg
    subst hP hw hK
    obtain ⟨⟨old, he⟩, hit, hne, hai, hae⟩ := st
    obtain ⟨xs, x, hq, hx⟩ := hg
    obtain ⟨its, rv, p, hz⟩ := I.tuple hq
    obtain ⟨u, hu, ru⟩ := rv.get hx
    have hel : e < s.heap.objs.size := Heap.lt_size he
    have hil : it < s.heap.objs.size := by obtain ⟨_, q, _⟩ := hit; exact Heap.lt_size q
    have hlt : i < its.toArray.size := by
      rw [List.size_toArray]
      exact (List.getElem?_eq_some_iff.mp hu).1
    have hh : X.A.in1.handled = none := by
      have := I.ok.hd hc
      simpa using this
    refine wpAny_pyNext_enum_itemD (Draws.tuple hh it a hai its.toArray) he ⟨hit, p⟩ hlt hne (by simp; exact ⟨hne, fun z => hae z.symm⟩) fun y h' tk hy ho hst hT hsz hk => ?_
    have ey : y = u := by
      have hy' : its.toArray[i]? = some y := hy
      rw [List.getElem?_toArray, hu] at hy'
      exact (Option.some.inj hy').symm
    subst ey
    refine ⟨_, rfl, wpAny_letOwnedTupleGo_enum (s := { s with heap := h', toks := tk + 1 }) ho fun h'' he' sb => ?_⟩
    have hT2 : h''.get? s.heap.objs.size = some { cls := .type "tuple", data := .seq #[.int i tk, y] } := (sb.2 _ (Nat.ne_of_gt hel)).trans hT
    have new : ObjOk X.prog X.w (upd H s.heap.objs.size (.tup [.int (i : Nat), x])) h'' s.heap.objs.size (.tup [.int (i : Nat), x]) :=
      ⟨by show 2 ≤ sizeLine; decide, [.int i tk, y], .cons ⟨_, rfl⟩ (.cons ru .nil), ⟨_, hT2, rfl, _, rfl⟩⟩
    have I1 : Inv X pins σ (upd H s.heap.objs.size (.tup [.int (i : Nat), x])) { s with heap := h'', toks := tk + 1 } :=
      I.turnedNew (ch := [e, it]) (fun b ob hb q => (sb.2 b (fun z => hb (by simp [z]))).trans (hk b ob (fun z => hb (by simp [z])) (fun z => hb (by simp [z])) q)) hf (Nat.le_refl _) new
    refine ⟨.ref s.heap.objs.size, _, I1, rfl, ⟨_, x, rfl, I.hok.fresh (Nat.le_refl _), rfl, fun ys hy => by rw [I.tuple_inj hy hq]; exact hx⟩, ⟨⟨y, ?_⟩, hst.1.at fun o q => (sb.2 it (Ne.symm hne)).trans q, hne, hai, hae⟩, fun b hb => ?_⟩
    · have e1 : ((i + 1 : Nat) : Int) = (i : Int) + 1 := by omega
      rw [e1]; exact he'
    · have hb' : b < s.heap.objs.size := by
        have e' : b = e ∨ b = it := by simpa using hb
        rcases e' with z | z
        · rw [z]; exact hel
        · rw [z]; exact hil
      rw [upd_ne (Nat.ne_of_lt hb')]
      exact (hf b hb).1
  done := by
    intro X hP hw hK hc i pins s σ H E I hf st hg
    subst hP hw hK
    obtain ⟨⟨old, he⟩, hit, hne, hai, hae⟩ := st
    obtain ⟨xs, hq, hx⟩ := hg
    obtain ⟨its, rv, p, hz⟩ := I.tuple hq
    obtain ⟨f0, f1, f2, f3, f4, f5⟩ := hf it (by simp)
    have hl := rv.length
    have hh : X.A.in1.handled = none := by
      have := I.ok.hd hc
      simpa using this
    exact enumT_end hh he hit p (by rw [List.size_toArray]; omega) fun h' eb => ⟨rfl, I.turned (t' := s.toks) (fun b o hb q => eb b o hb q) f0 f1 f3 f4 f5⟩
  self := fun A i s Q E st h => let ⟨⟨_, he⟩, _⟩ := st; wpAny_pyIter_enum he h
/-- enumerate(e), of a list or a tuple -/
def iEnumA (K : PySem.W.Frag) (ta : TA) : TI := fun σ H R => ta σ H fun vs H1 => ∃ a xs, vs = [.ref a] ∧ ((SqL K H1 a xs ∧ R (Ite K a) H1) ∨ (SqT K H1 a xs ∧ R (IteT K a) H1))
theorem pi_enumA {X : Cx} {e : Expr} {ta : TA} {p pos tpos : Pos} {elts : List Expr} {kk : Nat} (hg : Gl X "enumerate") (hm : X.mg "enumerate" = none) (ha : PA X [e] ta) (hs : starEach [e] X.env = [(false, eval e X.env)]) :
    PI X (.Tuple elts kk tpos) (.Call (.Name "enumerate" p) [e] [] pos) (iEnumA X.K ta) := by
  refine ⟨fun pins s σ H R I h => ?_⟩
  refine Call_ (ld_blt I hg hm boot_enumerate (PyProof.Rows.callWith_type1 (thn (ha.run pos pins s σ H _ I h) fun us s1 ⟨vs, H1, I1, r1, q1⟩ => ?_) hs rfl))
  obtain ⟨a, xs, ex, q⟩ := q1
  subst ex
  cases r1 with
  | cons r rr =>
    cases rr
    cases r
    have hfp : ∀ b ∈ [s1.heap.objs.size + 1, s1.heap.objs.size], FpOk X pins H1 b := fun b hb => by
      have e' : b = s1.heap.objs.size + 1 ∨ b = s1.heap.objs.size := by simpa using hb
      have hle : s1.heap.objs.size ≤ b := by
        rcases e' with z | z
        · rw [z]; exact Nat.le_add_right _ _
        · rw [z]; exact Nat.le_refl _
      exact I1.fpOk hle (I1.hok.fresh hle)
    rcases q with ⟨hq, q⟩ | ⟨hq, q⟩
    · obtain ⟨its, rv, p', hz⟩ := I1.list hq
      refine call_enumerate_list p'.isList fun h' he hit hsz hk => wpAny_pyIter_enum he ?_
      have I2 : Inv X pins σ H1 { s1 with heap := h' } := I1.kept (t' := s1.toks) hk
      exact ⟨s1.heap.objs.size + 1, [s1.heap.objs.size + 1, s1.heap.objs.size], _, _, H1, rfl, I2, turn_enum a (s1.heap.objs.size + 1) s1.heap.objs.size, ⟨⟨.none, he⟩, hit, Nat.succ_ne_self _⟩, hfp, q⟩
    · obtain ⟨its, rv, p', hz⟩ := I1.tuple hq
      have hal : a < s1.heap.objs.size := by obtain ⟨o, ho, _⟩ := p'; exact Heap.lt_size ho
      refine call_enumerate_tuple p' fun h' he hit hsz hk => wpAny_pyIter_enum he ?_
      have I2 : Inv X pins σ H1 { s1 with heap := h' } := I1.kept (t' := s1.toks) hk
      exact ⟨s1.heap.objs.size + 1, [s1.heap.objs.size + 1, s1.heap.objs.size], _, _, H1, rfl, I2, turn_enumT a (s1.heap.objs.size + 1) s1.heap.objs.size, ⟨⟨.none, he⟩, hit, Nat.succ_ne_self _, Nat.ne_of_lt hal, Nat.ne_of_lt (Nat.lt_succ_of_lt hal)⟩, hfp, q⟩
theorem walk_enumT {K : PySem.W.Frag} {a : Addr} {xs : List V} : Walk (IteT K a) xs.length (fun H => SqT K H a xs) (YPair (fun i => some (.int (i : Nat))) (fun i => xs[i]?)) :=
  ⟨fun i H h g => ⟨xs, xs[i], g, List.getElem?_eq_getElem h⟩, fun H g => ⟨xs, g, Nat.le_refl _⟩, fun i H v H' h g ⟨T, x, e1, e2, e3, e4⟩ => ⟨T, _, x, e1, e2, e3, rfl, e4 xs g⟩⟩
/-! ### a tuple backwards -/
section
variable {prog : Program} {w : World} {A : Around} {E : Value → Shared → Prop} {s : Shared}
theorem adjust_rev (n : Nat) : Builtin.Slice.sliceAdjust none none (-1) (n : Int) = ((n : Int) - 1, -1) := by
  unfold Builtin.Slice.sliceAdjust
  have h1 : ((-1 : Int) < 0) := by omega
  simp only [h1, if_true]
theorem places_rev (n : Nat) : Builtin.Slice.slicePlaces ((n : Int) - 1) (-1) (-1) = n := by
  unfold Builtin.Slice.slicePlaces
  have h1 : ¬ ((-1 : Int) > 0) := by omega
  simp only [h1, if_false]
  have h2 : (- -1 : Int) = 1 := by decide
  rw [h2, Int.ediv_one]
  split <;> omega
theorem sliceApplied_rev {sl : Addr} {vs : Value} {n : Nat} {Q : Int × Int × Nat → Shared → Prop} (hs : s.heap.IsSliceOf sl .none .none vs) (ps : IsPart vs (some (-1)))
    (h : Q ((n : Int) - 1, -1, n) s) : wpAny (model prog w) A (Builtin.Slice.sliceApplied (.ref sl) (pure (n : Int))) Q E s := by
  obtain ⟨os, hos, hcs, hds⟩ := id hs
  unfold Builtin.Slice.sliceApplied Builtin.Slice.sliceFields
  refine wpAny_bind (wpAny_bind (wpAny_field hos hds (x := .none) rfl (wpAny_bind (wpAny_field hos hds (x := .none) rfl (wpAny_bind (wpAny_field hos hds (x := vs) rfl (wpAny_pure ?_)))))))
  refine wpAny_bind (HT.slicePart_ ps ?_)
  show wpAny _ _ (if ((-1 : Int) == 0) = true then _ else _) _ _ s
  rw [if_neg (by decide)]
  refine wpAny_bind (HT.slicePart_ .none (wpAny_bind (HT.slicePart_ .none (wpAny_bind (wpAny_pure ?_)))))
  show wpAny _ _ (match Builtin.Slice.sliceAdjust none none (-1) (n : Int) with | (lo, hi) => pure (lo, (-1 : Int), Builtin.Slice.slicePlaces lo hi (-1))) _ _ s
  rw [adjust_rev n]
  show wpAny _ _ (pure ((n : Int) - 1, (-1 : Int), Builtin.Slice.slicePlaces ((n : Int) - 1) (-1) (-1))) _ _ s
  rw [places_rev]
  exact wpAny_pure h
theorem pick_rev (xs : Array Value) : ((List.range xs.size).filterMap fun (m : Nat) => xs[(((xs.size : Int) - 1) + (m : Int) * (-1)).toNat]?).toArray = xs.toList.reverse.toArray := by
  have e : (fun (m : Nat) => xs[(((xs.size : Int) - 1) + (m : Int) * (-1)).toNat]?) = fun m => xs[xs.size - 1 - m]? := by
    funext m
    have : (((xs.size : Int) - 1) + (m : Int) * (-1)).toNat = xs.size - 1 - m := by omega
    rw [this]
  rw [e]
  have h := PySem.W.krv_range xs.size
  have h2 : (List.range xs.size).filterMap (fun m => xs[xs.size - 1 - m]?) = ((List.range xs.size).map (fun k => xs.size - 1 - k)).filterMap (xs[·]?) := by
    rw [List.filterMap_map]
    rfl
  rw [h2, h, List.filterMap_reverse, PySem.W.krv_all]
theorem getItem_tuple_rev {t sl : Addr} {items : Array Value} {vs : Value} {Q : Value → Shared → Prop} (ht : IsTup s.heap t items) (hs : s.heap.IsSliceOf sl .none .none vs) (ps : IsPart vs (some (-1)))
    (h : Q (.ref s.heap.objs.size) { s with heap := s.heap.push { cls := .type "tuple", data := .seq items.toList.reverse.toArray } })
    (hsz : items.size ≤ sizeLine) : wpAny (model prog w) A (getItem (.ref t) (.ref sl)) Q E s := by
  have htake : sizeOk (.seq items.toList.reverse.toArray) := by
    show items.toList.reverse.toArray.size ≤ sizeLine
    rw [List.size_toArray, List.length_reverse, Array.length_toList]
    omega
  obtain ⟨os, hos, hcs, hds⟩ := id hs
  have hTs : s.TypeIs (.ref sl) "slice" := ⟨os, hos, hcs⟩
  unfold getItem
  try with_reducible refine wpAny_holding ?_
  first | refine wpAny_bind (wpAny_pure ?_) | skip
  refine wpAny_bind (wpAny_sequenceKey ht.typeIs (by decide) ?_)
  refine wpAny_bind (wpAny_callSpecial?_slot (name := Str.ofString "__getitem__") ht.typeIs PyProof.Rows.slot_tuple_getitem
    (wpAny_call_entry PyProof.Rows.slot_tuple_getitem ht.typeIs entry_tuple_getitem ?_ (args_tuple_getitem _ _)))
  show wpAny _ _ (Builtin.Tuple.tupleItemsOf (.ref t) >>= _) _ _ s
  refine wpAny_bind (tupleItemsOf_ ht ?_)
  refine wpAny_bind (wpAny_typeOf hTs ?_)
  rw [if_pos (by decide)]
  refine wpAny_bind (sliceApplied_rev hs ps ?_)
  have hno : ¬ ((((items.size : Int) - 1) == 0 && (-1 : Int) == 1 && items.size == items.size) = true) := by
    simp
  show wpAny _ _ (if (((items.size : Int) - 1) == 0 && (-1 : Int) == 1 && items.size == items.size) = true then _ else _) _ _ s
  rw [if_neg hno, pick_rev]
  first
    | exact wpAny_bind (m := Builtin.Tuple.tupleExact _) (wpAny_newObj_type (wpAny_pure ⟨_, rfl, wpAny_pure h⟩) htake)
    | exact wpAny_bind (m := Builtin.Tuple.tupleExact _) (wpAny_newObj_type (wpAny_bind (wpAny_pure (wpAny_pure ⟨_, rfl, wpAny_pure h⟩))) htake)
    | exact wpAny_bind (wpAny_bind (m := Builtin.Tuple.tupleExact _) (wpAny_newObj_type (wpAny_pure (wpAny_pure ⟨_, rfl, wpAny_pure h⟩)) htake))
    | exact wpAny_bind (wpAny_bind (m := Builtin.Tuple.tupleExact _) (wpAny_newObj_type (wpAny_pure ⟨_, rfl, wpAny_pure h⟩) htake))
end
section
variable {X : Cx}
def tRevT (K : PySem.W.Frag) (te : TE) : TE := fun σ H Q => te σ H fun x H1 => ∃ a xs, x = .ref a ∧ ((SqT K H1 a xs ∧ ∀ p o, H1 p = none → o.dict = none → Q (.ref p) (upd H1 p (.frz o (.tup xs.reverse)))) ∨ (SqL K H1 a xs ∧ ∀ p, H1 p = none → Q (.ref p) (upd H1 p (.lst xs.reverse))))
theorem pe_revT {e : Expr} {te : TE} {k : Nat} {p1 p2 p3 pos : Pos} (he : PE X e te) : PE X (.Subscript e (.Slice none none (some (.UnaryOp .USub (.Constant (.int 1) k p1) p2)) p3) pos) (tRevT X.K te) := by
  refine ⟨fun pins s σ H Q I h => ?_⟩
  refine Subscript_ (thn (he.run pins s σ H _ I h) fun v s1 ⟨x, H1, I1, r1, q1⟩ => ?_)
  obtain ⟨a, xs, ex, hx⟩ := q1
  subst ex
  cases r1
  have hst : PO X (some (.UnaryOp .USub (.Constant (.int 1) k p1) p2)) (tPart (tUn (rU fun i => .int (-i)) (tC (.int 1)))) := po_some (pe_un un_neg pe_int)
  refine wpAny_Slice (thn (po_none.run pins s1 σ H1 (fun o H2 => o = none ∧ H2 = H1) I1 ⟨rfl, rfl⟩) fun vl s2 ⟨l, H2, I2, pl, el, e2⟩ => ?_)
  subst el e2
  refine thn (po_none.run pins s2 σ H2 (fun o H3 => o = none ∧ H3 = H2) I2 ⟨rfl, rfl⟩) fun vu s3 ⟨u, H3, I3, pu, eu, e3⟩ => ?_
  subst eu e3
  refine thn (hst.run pins s3 σ H3 (fun o H4 => o = some (-1) ∧ H4 = H3) I3 ⟨1, rfl, -1, rfl, rfl, rfl⟩) fun vs s4 ⟨o, H4, I4, ps, eo, e4⟩ => ?_
  subst eo e4
  rcases hx with ⟨hx, q⟩ | ⟨hx, q⟩
  · cases pl
    cases pu
    have I5 : Inv X pins σ H4 { s4 with heap := s4.heap.push { cls := .type "slice", data := .fields #[.none, .none, vs] } } := I4.kept (t' := s4.toks) fun b ob q => Heap.get?_push_of_some _ q
    obtain ⟨its, r, ht, hz⟩ := I5.tuple hx
    have hlen := r.length
    show wpAny (model X.prog X.w) X.A (subscriptTail e (.Slice none none (some (.UnaryOp .USub (.Constant (.int 1) k p1) p2)) p3) (.ref a) (.ref s4.heap.objs.size)) (EP X pins σ Q) X.xe { s4 with heap := s4.heap.push { cls := .type "slice", data := .fields #[.none, .none, vs] } }
    refine tail_any (ops := [.ref a, .ref s4.heap.objs.size]) ht.typeIs (PyProof.Rows.slot_tuple_getitem.lookup) ?_ (by with_unfolding_all rfl)
    refine getItem_tuple_rev ht (Heap.IsSliceOf.new _ .none .none vs) ps ?_ (by rw [List.size_toArray]; omega)
    exact ⟨.ref _, _, laidN (t' := s4.toks) (its := its.reverse) I5 (fun b ob q => Heap.get?_push_of_some _ q) (Nat.le_refl _) (Heap.get?_push_size _ rfl) rfl (by simp; rfl) (by rw [List.length_reverse]; exact hz) r.reverse, rfl, q _ _ (I5.hok.fresh (Nat.le_refl _)) rfl⟩
  · have I5 : Inv X pins σ H4 { s4 with heap := s4.heap.push { cls := .type "slice", data := .fields #[vl, vu, vs] } } := I4.kept (t' := s4.toks) fun b ob q => Heap.get?_push_of_some _ q
    obtain ⟨its, r, ht, hz⟩ := I5.list hx
    have hlen := r.length
    show wpAny (model X.prog X.w) X.A (subscriptTail e (.Slice none none (some (.UnaryOp .USub (.Constant (.int 1) k p1) p2)) p3) (.ref a) (.ref s4.heap.objs.size)) (EP X pins σ Q) X.xe { s4 with heap := s4.heap.push { cls := .type "slice", data := .fields #[vl, vu, vs] } }
    refine tail_any (ops := [.ref a, .ref s4.heap.objs.size]) ht.isList.typeIs (PySem.slot_list_getitem.lookup) ?_ (by with_unfolding_all rfl)
    refine wpAny_getItem_list_slice ht.isList (Heap.IsSliceOf.new _ vl vu vs) pl pu ps (by decide) ?_ (by rw [List.size_toArray]; omega)
    rw [PySem.W.krv_pick]
    refine ⟨.ref _, _, I5.laid (t' := s4.toks) (o := .lst xs.reverse) (fun b ob q => Heap.get?_push_of_some _ q) (Nat.le_refl _) ?_, rfl, q _ (I5.hok.fresh (Nat.le_refl _))⟩
    exact ⟨by rw [List.length_reverse]; exact hz, _, 0, r.reverse, Heap.get?_push_size _ rfl⟩
end
end Ft
/-! FtZipM: zip of a tuple and a list. -/
namespace Ft
open PySem PySem.Spec PyProof.Rows L2 RZ
/-- a tuple at a, a list at b, pair by pair -/
def ItzM (K : PySem.W.Frag) (a b : Addr) : It :=
  ⟨fun i H => ∃ (xs ys : List V) (x y : V), SqT K H a xs ∧ SqL K H b ys ∧ xs[i]? = some x ∧ ys[i]? = some y,
    fun i H v H' => ∃ T x y, v = .ref T ∧ H T = none ∧ H' = upd H T (.tup [x, y]) ∧ (∀ xs, SqT K H a xs → xs[i]? = some x) ∧ ∀ ys, SqL K H b ys → ys[i]? = some y,
    fun i H => ∃ xs ys : List V, SqT K H a xs ∧ SqL K H b ys ∧ i ≤ xs.length ∧ i ≤ ys.length ∧ (i = xs.length ∨ i = ys.length)⟩
theorem sep_of {z TI TO i1 i2 a b : Addr} (D : ZipApart z TI TO i1 i2 a b) : ZipSep2 z TI TO i1 i2 [i1, a] [i2, b] where
  TIz := D.TIz
  TOz := D.TOz
  TITO := D.TITO
  TIi1 := D.TIi1
  mem1 := List.mem_cons_self
  zf1 := fun h => by
    rcases List.mem_cons.mp h with e | e
    · exact D.i1z e.symm
    · exact D.l1z (List.mem_singleton.mp e).symm
  Tf1 := fun h => by
    rcases List.mem_cons.mp h with e | e
    · exact D.TOi1 e
    · exact D.l1TO (List.mem_singleton.mp e).symm
  TIi2 := D.TIi2
  mem2 := List.mem_cons_self
  zf2 := fun h => by
    rcases List.mem_cons.mp h with e | e
    · exact D.i2z e.symm
    · exact D.l2z (List.mem_singleton.mp e).symm
  Tf2 := fun h => by
    rcases List.mem_cons.mp h with e | e
    · exact D.TOi2 e
    · exact D.l2TO (List.mem_singleton.mp e).symm
  sep1_2 := fun h => by
    rcases List.mem_cons.mp h with e | e
    · exact D.i12 e
    · exact D.l2i1 (List.mem_singleton.mp e).symm
  sep2_1 := fun h => by
    rcases List.mem_cons.mp h with e | e
    · exact D.i12 e.symm
    · exact D.l1i2 (List.mem_singleton.mp e).symm
theorem turn_zipM {P : Program} {w : World} {K : PySem.W.Frag} {elts : List Expr} {kk : Nat} {tpos : Pos} {a b z TI TO i1 i2 : Addr} (D : ZipApart z TI TO i1 i2 a b) :
    Turn P w K (.Tuple elts kk tpos) (ItzM K a b) [z, TI, TO, i1, i2] z (fun i h => IsZip h z TI TO .none ∧ IsTupOf2 h TI (.ref i1) (.ref i2) ∧ (∃ x y, IsTupOf2 h TO x y) ∧ h.IsTupleIter i1 a i ∧ h.IsListIter i2 b i) where
  mem := List.mem_cons_self
  obj := fun i h ⟨q1, q2, ⟨x, y, q3⟩, ⟨o1, e1, _, d1⟩, ⟨o2, e2, _, d2⟩⟩ c hc => by
    rcases List.mem_cons.mp hc with rfl | hc
    · exact ⟨_, q1, fun v q => nomatch q⟩
    rcases List.mem_cons.mp hc with rfl | hc
    · exact ⟨_, q2, fun v q => nomatch q⟩
    rcases List.mem_cons.mp hc with rfl | hc
    · exact ⟨_, q3, fun v q => nomatch q⟩
    rcases List.mem_cons.mp hc with rfl | hc
    · exact ⟨o1, e1, fun v q => by rw [d1] at q; cases q⟩
    · rw [List.mem_singleton.mp hc]
      exact ⟨o2, e2, fun v q => by rw [d2] at q; cases q⟩
  keep := fun i h h' ⟨q1, q2, ⟨x, y, q3⟩, q4, q5⟩ k => ⟨k z (by simp) _ q1, k TI (by simp) _ q2, ⟨x, y, k TO (by simp) _ q3⟩, q4.at fun o e => k i1 (by simp) o e, q5.at fun o e => k i2 (by simp) o e⟩
  item := by
    intro X hP hw hK hc i pins s σ H E I hf ⟨hz, hTI, ⟨x0, y0, hTO⟩, h1, h2⟩ ⟨xs, ys, x, y, hqx, hqy, hx, hy⟩
    subst hP hw hK
    obtain ⟨its, rv, p, _⟩ := I.tuple hqx
    obtain ⟨its2, rv2, p2, _⟩ := I.list hqy
    obtain ⟨u, hu, ru⟩ := rv.get hx
    obtain ⟨u2, hu2, ru2⟩ := rv2.get hy
    have hzl : z < s.heap.objs.size := Heap.lt_size hz
    have hn1 : i < its.toArray.size := by
      have := (List.getElem?_eq_some_iff.mp hu).1
      simpa using this
    have hn2 : i < its2.toArray.size := by
      have := (List.getElem?_eq_some_iff.mp hu2).1
      simpa using this
    have hh : X.A.in1.handled = none := I.ok.hd hc
    refine wpAny_pyNext_zipD2_item (sep_of D) (Draws.tuple hh i1 a D.l1i1 its.toArray) (Draws.list hh i2 b D.l2i2 its2.toArray) hz hTI hTO ⟨h1, p⟩ ⟨h2, p2.isList⟩ hn1 hn2 fun x1 x2 h' tk k1 k2 z' TO' st1 st2 hT hsz hk => ?_
    have k1 : its[i]? = some x1 := by simpa using k1
    have k2 : its2[i]? = some x2 := by simpa using k2
    rw [hu] at k1
    cases k1
    rw [hu2] at k2
    cases k2
    refine ⟨_, rfl, wpAny_letOwnedTupleGo_zip (s := { s with heap := h', toks := tk }) z' fun h2' z2' sb => ?_⟩
    have keepAll : ∀ c o, c ≠ z → c ≠ TO → c ≠ i1 → c ≠ i2 → s.heap.get? c = some o → h2'.get? c = some o := fun c o a1 a2 a3 a4 q => (sb.2 c a1).trans (hk c o a1 a2 a3 a4 q)
    have got : h2'.get? s.heap.objs.size = some { cls := .type "tuple", data := .seq #[u, u2] } := (sb.2 _ (Nat.ne_of_gt hzl)).trans hT
    have made : ObjOk X.prog X.w (upd H s.heap.objs.size (.tup [x, y])) h2' s.heap.objs.size (.tup [x, y]) := ⟨show 2 ≤ sizeLine by decide, [u, u2], .cons ru (.cons ru2 .nil), ⟨_, got, rfl, _, rfl⟩⟩
    have J : Inv X pins σ (upd H s.heap.objs.size (.tup [x, y])) { s with heap := h2', toks := tk } := I.turnedNew (t' := tk) (ch := [z, TI, TO, i1, i2]) (fun c o hb q => keepAll c o (fun e => hb (by simp [e])) (fun e => hb (by simp [e])) (fun e => hb (by simp [e])) (fun e => hb (by simp [e])) q) hf (Nat.le_refl _) made
    refine ⟨.ref s.heap.objs.size, _, J, rfl, ⟨_, x, y, rfl, I.hok.fresh (Nat.le_refl _), rfl, fun l hl => by rw [I.tuple_inj hl hqx]; exact hx, fun l hl => by rw [I.list_inj hl hqy]; exact hy⟩, ⟨z2', keepAll TI _ D.TIz D.TITO D.TIi1 D.TIi2 hTI, ⟨u, u2, (sb.2 _ D.TOz).trans TO'⟩, st1.1.at fun o q => (sb.2 _ D.i1z).trans q, st2.1.at fun o q => (sb.2 _ D.i2z).trans q⟩, fun c hcm => ?_⟩
    have hlt : c < s.heap.objs.size := by
      rcases List.mem_cons.mp hcm with rfl | hcm
      · exact hzl
      rcases List.mem_cons.mp hcm with rfl | hcm
      · exact Heap.lt_size hTI
      rcases List.mem_cons.mp hcm with rfl | hcm
      · exact Heap.lt_size hTO
      rcases List.mem_cons.mp hcm with rfl | hcm
      · obtain ⟨_, e1, _⟩ := h1
        exact Heap.lt_size e1
      · rw [List.mem_singleton.mp hcm]
        obtain ⟨_, e2, _⟩ := h2
        exact Heap.lt_size e2
    rw [upd_ne (Nat.ne_of_lt hlt)]
    exact (hf c hcm).1
  done := by
    intro X hP hw hK hc i pins s σ H E I hf ⟨hz, hTI, ⟨x0, y0, hTO⟩, h1, h2⟩ ⟨xs, ys, hqx, hqy, g1, g2, hend⟩
    subst hP hw hK
    obtain ⟨its, rv, p, _⟩ := I.tuple hqx
    obtain ⟨its2, rv2, p2, _⟩ := I.list hqy
    have l1 : its.toArray.size = xs.length := by
      rw [List.size_toArray]
      exact rv.length.symm
    have l2 : its2.toArray.size = ys.length := by
      rw [List.size_toArray]
      exact rv2.length.symm
    have hh : X.A.in1.handled = none := I.ok.hd hc
    exact wpAny_pyNext_zipD2_end (sep_of D) (Draws.tuple hh i1 a D.l1i1 its.toArray) (Draws.list hh i2 b D.l2i2 its2.toArray) hz hTI hTO ⟨h1, p⟩ ⟨h2, p2.isList⟩ (by rw [l1]; exact g1) (by rw [l2]; exact g2) (by rw [l1, l2]; exact hend) fun h' tk hk => ⟨rfl, I.turnedL (t' := tk) (ch := [z, TI, TO, i1, i2]) (fun c o hb q => hk c o (fun e => hb (by simp [e])) (fun e => hb (by simp [e])) (fun e => hb (by simp [e])) (fun e => hb (by simp [e])) q) hf⟩
  self := fun A i s Q E st h => wpAny_pyIter_zip st.1 h
/-- zip of two lists, two tuples, a tuple and a list -/
def iZipB (K : PySem.W.Frag) (ta : TA) : TI := fun σ H R => ta σ H fun vs H1 => ∃ a b xs ys, vs = [.ref a, .ref b] ∧ ((SqL K H1 a xs ∧ SqL K H1 b ys ∧ R (Itz K a b) H1) ∨ (SqT K H1 a xs ∧ SqT K H1 b ys ∧ R (ItzT K a b) H1) ∨ (SqT K H1 a xs ∧ SqL K H1 b ys ∧ R (ItzM K a b) H1))
theorem pi_zipB {X : Cx} {e e2 : Expr} {ta : TA} {p pos tpos : Pos} {elts : List Expr} {kk : Nat} (hg : Gl X "zip") (hm : X.mg "zip" = none) (ha : PA X [e, e2] ta)
    (hs : starEach [e, e2] X.env = (false, eval e X.env) :: starEach [e2] X.env) (hpl : (backTo pos (starEach [e2] X.env)).any (·.1) = false) :
    PI X (.Tuple elts kk tpos) (.Call (.Name "zip" p) [e, e2] [] pos) (iZipB X.K ta) := by
  refine ⟨fun pins s σ H R I h => ?_⟩
  refine Call_ (ld_blt I hg hm PyProof.Rows.boot_zip (PyProof.Rows.callWith_type1 (thn (ha.run pos pins s σ H _ I h) fun us s1 ⟨vs, H1, I1, r1, a, b, xs, ys, ex, q1⟩ => ?_) hs hpl))
  subst ex
  obtain ⟨u1, u2, rfl, g1, g2⟩ := Vals.two r1
  cases g1
  cases g2
  have fresh : ∀ c, c ∈ [s1.heap.objs.size + 4, s1.heap.objs.size + 2, s1.heap.objs.size + 3, s1.heap.objs.size, s1.heap.objs.size + 1] → FpOk X pins H1 c := fun c hcm => by
    have hle : s1.heap.objs.size ≤ c := by
      simp only [List.mem_cons, List.not_mem_nil, or_false] at hcm
      omega
    exact I1.fpOk hle (I1.hok.fresh hle)
  rcases q1 with ⟨hqx, hqy, q⟩ | ⟨hqx, hqy, q⟩ | ⟨hqx, hqy, q⟩
  · obtain ⟨its, rv, p1, _⟩ := I1.list hqx
    obtain ⟨its2, rv2, p2, _⟩ := I1.list hqy
    exact call_zip_2 p1.isList p2.isList fun h' hz hTI hTO h1 h2 hsz hk => wpAny_pyIter_zip hz ⟨_, _, _, _, H1, rfl, I1.kept (t' := s1.toks) hk, turn_zip (PySem.W.ktu_apart s1.heap.objs.size a b p1.lt p2.lt), ⟨hz, hTI, ⟨_, _, hTO⟩, h1, h2⟩, fresh, q⟩
  · obtain ⟨its, rv, p1, _⟩ := I1.tuple hqx
    obtain ⟨its2, rv2, p2, _⟩ := I1.tuple hqy
    obtain ⟨o1, ho1, _⟩ := id p1
    obtain ⟨o2, ho2, _⟩ := id p2
    exact call_zipT (show s1.heap.IsTuple a its.toArray from p1) (show s1.heap.IsTuple b its2.toArray from p2) fun h' hz hTI hTO h1 h2 hsz hk => wpAny_pyIter_zip hz ⟨_, _, _, _, H1, rfl, I1.kept (t' := s1.toks) hk, turn_zipT (PySem.W.ktu_apart s1.heap.objs.size a b (Heap.lt_size ho1) (Heap.lt_size ho2)), ⟨hz, hTI, ⟨_, _, hTO⟩, h1, h2⟩, fresh, q⟩
  · obtain ⟨its, rv, p1, _⟩ := I1.tuple hqx
    obtain ⟨its2, rv2, p2, _⟩ := I1.list hqy
    obtain ⟨o1, ho1, _⟩ := id p1
    exact PySem.zip_begins2 (PySem.begins_tuple a its.toArray) (PySem.begins_list b its2.toArray) (show s1.heap.IsTuple a its.toArray from p1) p2.isList fun h' hz hTI hTO h1 h2 hsz hk => wpAny_pyIter_zip hz ⟨_, _, _, _, H1, rfl, I1.kept (t' := s1.toks) hk, turn_zipM (PySem.W.ktu_apart s1.heap.objs.size a b (Heap.lt_size ho1) p2.lt), ⟨hz, hTI, ⟨_, _, hTO⟩, ⟨_, h1, rfl, rfl⟩, ⟨_, h2, rfl, rfl⟩⟩, fresh, q⟩
theorem walk_zipM {K : PySem.W.Frag} {a b : Addr} {xs ys : List V} {n : Nat} (hn : n = min xs.length ys.length) : Walk (ItzM K a b) n (fun H => SqT K H a xs ∧ SqL K H b ys) (YPair (fun i => xs[i]?) (fun i => ys[i]?)) :=
  ⟨fun i H h g => ⟨xs, ys, xs[i], ys[i], g.1, g.2, List.getElem?_eq_getElem (by omega), List.getElem?_eq_getElem (by omega)⟩, fun H g => ⟨xs, ys, g.1, g.2, by omega, by omega, by omega⟩, fun i H v H' h g ⟨T, x, y, e1, e2, e3, e4, e5⟩ => ⟨T, x, y, e1, e2, e3, e4 xs g.1, e5 ys g.2⟩⟩
end Ft
/-! FtIter: what is walked, and the targets. -/
namespace Ft
open PySem PySem.Spec PyProof.Rows L2 RZ
def isTwo : Tg → Bool
  | .two _ _ => true
  | _ => false
/-- what is yielded: known, or a new pair that is taken apart at once -/
inductive Yd (K : PySem.W.Frag) (G : Hp) (t : Tg) : V → D → Prop where
  | kn {v : V} {d : D} (h : Dp K G v d) : Yd K G t v d
  | pr {a : Addr} {x y : V} {dx dy : D} (h2 : isTwo t = true) (hq : SqT K G a [x, y]) (h : Dp K G x dx) (h' : Dp K G y dy) : Yd K G t (.ref a) (.tuple [dx, dy])
/-- J walks the items xs, of a known thing -/
structure WalkD (K : PySem.W.Frag) (G : Hp) (J : It) (xs : List D) (t : Tg) : Prop where
  go : ∀ i H, i < xs.length → Same G H → J.go i H
  stop : ∀ H, Same G H → J.stop xs.length H
  yld : ∀ i H v H' Gc, i < xs.length → Same G Gc → Same Gc H → J.yld i H v H' → ∃ d G1, xs[i]? = some d ∧ Same Gc G1 ∧ Same G1 H' ∧ Same H H' ∧ (∀ a, G1 a ≠ none → Gc a = none → H a = none) ∧ Yd K G1 t v d
section
variable {K : PySem.W.Frag} {G : Hp} {t : Tg}
/-- items that stand as they are -/
theorem WalkD.of {J : It} {n : Nat} {P : Hp → Prop} {xs : List V} {ds : List D} (w : Walk J n P (YAt xs)) (hn : n = ds.length) (hP : ∀ H, Same G H → P H) (hd : DpAll K G xs ds) : WalkD K G J ds t where
  go := fun i H h e => w.goes i H (by omega) (hP H e)
  stop := fun H e => by rw [← hn]; exact w.stops H (hP H e)
  yld := fun i H v H' Gc h e1 e2 y => by
    obtain ⟨rfl, hx⟩ := w.yields i H v H' (by omega) (hP H (e1.trans e2)) y
    obtain ⟨d, h1, h2⟩ := dps_get' hd hx
    exact ⟨d, Gc, h1, Same.refl _, e2, Same.refl _, fun a q z => absurd z q, .kn (dp_mono e1 h2)⟩
/-- items by their place -/
theorem WalkD.ofF {J : It} {n : Nat} {P : Hp → Prop} {Y : Nat → Hp → V → Hp → Prop} {ds : List D} (w : Walk J n P Y) (hn : n = ds.length) (hP : ∀ H, P H) (hd : ∀ i H v H', i < n → Y i H v H' → H' = H ∧ ∃ d, ds[i]? = some d ∧ ∀ G, Dp K G v d) : WalkD K G J ds t where
  go := fun i H h e => w.goes i H (by omega) (hP H)
  stop := fun H e => by rw [← hn]; exact w.stops H (hP H)
  yld := fun i H v H' Gc h e1 e2 y => by
    obtain ⟨rfl, d, h1, h2⟩ := hd i H v H' (by omega) (w.yields i H v H' (by omega) (hP H) y)
    exact ⟨d, Gc, h1, Same.refl _, e2, Same.refl _, fun a q z => absurd z q, .kn (h2 Gc)⟩
/-- new pairs -/
theorem WalkD.pair (htw : isTwo t = true) {J : It} {n : Nat} {P : Hp → Prop} {fx fy : Nat → Option V} {ds : List D} (w : Walk J n P (YPair fx fy)) (hn : n = ds.length) (hP : ∀ H, Same G H → P H)
    (hd : ∀ i x y, i < n → fx i = some x → fy i = some y → ∃ a b, ds[i]? = some (.tuple [a, b]) ∧ Dp K G x a ∧ Dp K G y b) : WalkD K G J ds t where
  go := fun i H h e => w.goes i H (by omega) (hP H e)
  stop := fun H e => by rw [← hn]; exact w.stops H (hP H e)
  yld := fun i H v H' Gc h e1 e2 yy => by
    obtain ⟨T, x, y, rfl, h1, rfl, h2, h3⟩ := w.yields i H v H' (by omega) (hP H (e1.trans e2)) yy
    obtain ⟨a, b, h4, h5, h6⟩ := hd i x y (by omega) h2 h3
    have nG : Gc T = none := e2.free h1
    refine ⟨_, upd Gc T (.tup [x, y]), h4, same_new nG, fun c o e => ?_, same_new h1, fun c q z => ?_, ?_⟩
    · by_cases hc : c = T
      · subst hc
        rw [upd_same] at e ⊢
        exact e
      · rw [upd_ne hc] at e ⊢
        exact e2 c o e
    · by_cases hc : c = T
      · subst hc
        exact h1
      · rw [upd_ne hc] at q
        exact absurd z q
    · have e3 := e1.trans (same_new (H := Gc) (p := T) (o := .tup [x, y]) nG)
      exact .pr htw (SqT.of upd_same) (dp_mono e3 h5) (dp_mono e3 h6)
end
section
variable (F : Fns) (K : PySem.W.Frag) (cl : Str → Addr) (W : WX)
def rdI (t : Tg) (e : E) : TI := fun σ H R => ∃ C G ρ, Rel K C G ρ σ H ∧ Out C cl W σ (evI F e ρ) (fun xs ρ' => ∀ G' J H', Same G G' → Rel K C G' ρ' σ H' → WalkD K G' J xs t → R J H')
end
theorem PI.imp {X : Cx} {tg e : Expr} {t t' : TI} (h : PI X tg e t) (w : ∀ σ H R, t' σ H R → t σ H R) : PI X tg e t' := ⟨fun pins s σ H R I q => h.run pins s σ H R I (w σ H R q)⟩
/-- a list, a tuple, a text -/
def iSeq (K : PySem.W.Frag) (tl : TE) : TI := fun σ H R => tl σ H fun x H1 => (∃ a xs, x = .ref a ∧ SqL K H1 a xs ∧ R (Itl K a) H1) ∨ (∃ a xs, x = .ref a ∧ SqT K H1 a xs ∧ R (Itt K a) H1) ∨ ∃ z, x = .str z ∧ R (Its z) H1
theorem pi_seq {X : Cx} {tg l : Expr} {tl : TE} (hl : PE X l tl) : PI X tg l (iSeq X.K tl) := by
  refine ⟨fun pins s σ H R I h => ?_⟩
  refine thn (hl.run pins s σ H _ I h) fun v s1 ⟨x, H1, I1, r1, q1⟩ => ?_
  have fp : ∀ b ∈ [s1.heap.objs.size], FpOk X pins H1 b := fun b hb => by
    have e : b = s1.heap.objs.size := by simpa using hb
    subst e
    exact I1.fpOk (Nat.le_refl _) (I1.hok.fresh (Nat.le_refl _))
  rcases q1 with ⟨a, xs, e, hq, q⟩ | ⟨a, xs, e, hq, q⟩ | ⟨z, e, q⟩
  · subst e
    cases r1
    obtain ⟨its, rv, p, hz⟩ := I1.list hq
    refine wpAny_pyIter_list p.isList ?_
    exact ⟨s1.heap.objs.size, [s1.heap.objs.size], _, _, H1, rfl, I1.kept (t' := s1.toks) fun b o e => Heap.get?_push_of_some _ e, turn_list a _, ⟨_, Heap.get?_push_size _ rfl, rfl, rfl⟩, fp, q⟩
  · subst e
    cases r1
    obtain ⟨its, rv, p, hz⟩ := I1.tuple hq
    refine wpAny_pyIter_tuple (show s1.heap.IsTuple a its.toArray from p) ?_
    exact ⟨s1.heap.objs.size, [s1.heap.objs.size], _, _, H1, rfl, I1.kept (t' := s1.toks) fun b o e => Heap.get?_push_of_some _ e, turn_tuple a _, ⟨_, Heap.get?_push_size _ rfl, rfl, rfl⟩, fp, q⟩
  · subst e
    obtain ⟨t, rfl⟩ := r1
    cases ha : z.cps.all (· < 128)
    · exact wpAny_pyIter_wide ha (pi_one (tk := s1.toks) I1 _ (turn_str _ z t "str_iterator" (.inr rfl)) ⟨_, Heap.get?_push_size _ rfl, rfl, rfl⟩ q)
    · exact wpAny_pyIter_ascii ha (pi_one (tk := s1.toks) I1 _ (turn_str _ z t "str_ascii_iterator" (.inl rfl)) ⟨_, Heap.get?_push_size _ rfl, rfl, rfl⟩ q)
theorem rngL_get (c : Int) : ∀ (n : Nat) (lo : Int) (i : Nat), i < n → (rngL lo c n)[i]? = some (.int (lo + (i : Nat) * c))
  | 0, _, _, h => absurd h (Nat.not_lt_zero _)
  | n + 1, lo, 0, _ => by
    unfold rngL
    simp
  | n + 1, lo, i + 1, h => by
    unfold rngL
    rw [List.getElem?_cons_succ, rngL_get c n (lo + c) i (by omega)]
    have e : lo + c + (i : Nat) * c = lo + ((i + 1 : Nat) : Int) * c := by
      rw [Int.natCast_add, Int.add_mul]
      simp
      omega
    rw [e]
theorem rngL_len (c : Int) : ∀ (n : Nat) (lo : Int), (rngL lo c n).length = n
  | 0, _ => rfl
  | n + 1, lo => by
    unfold rngL
    rw [List.length_cons, rngL_len c n]
theorem enumL_len : ∀ (xs : List D) (n : Nat), (enumL n xs).length = xs.length
  | [], _ => rfl
  | x :: r, n => by
    unfold enumL
    rw [List.length_cons, List.length_cons, enumL_len r]
theorem enumL_get : ∀ (xs : List D) (n i : Nat) (d : D), xs[i]? = some d → (enumL n xs)[i]? = some (.tuple [.int ((n + i : Nat) : Int), d])
  | [], _, _, _, h => by simp at h
  | x :: r, n, 0, d, h => by
    unfold enumL
    simp at h
    subst h
    simp
  | x :: r, n, i + 1, d, h => by
    unfold enumL
    rw [List.getElem?_cons_succ, enumL_get r (n + 1) i d (by simpa using h)]
    have e : n + 1 + i = n + (i + 1) := by omega
    rw [e]
theorem zipL_len : ∀ xs ys : List D, (zipL xs ys).length = min xs.length ys.length
  | [], ys => by unfold zipL; simp
  | x :: xs, [] => by unfold zipL; simp
  | x :: xs, y :: ys => by
    unfold zipL
    rw [List.length_cons, List.length_cons, List.length_cons, zipL_len xs ys]
    omega
theorem zipL_get : ∀ (xs ys : List D) (i : Nat) (a b : D), xs[i]? = some a → ys[i]? = some b → (zipL xs ys)[i]? = some (.tuple [a, b])
  | [], _, _, _, _, h, _ => by simp at h
  | x :: xs, [], _, _, _, _, h => by simp at h
  | x :: xs, y :: ys, 0, a, b, h1, h2 => by
    unfold zipL
    simp at h1 h2
    subst h1 h2
    rfl
  | x :: xs, y :: ys, i + 1, a, b, h1, h2 => by
    unfold zipL
    rw [List.getElem?_cons_succ]
    exact zipL_get xs ys i a b (by simpa using h1) (by simpa using h2)
theorem walk_zipT {K : PySem.W.Frag} {a b : Addr} {xs ys : List V} {n : Nat} (hn : n = min xs.length ys.length) : Walk (ItzT K a b) n (fun H => SqT K H a xs ∧ SqT K H b ys) (YPair (fun i => xs[i]?) (fun i => ys[i]?)) :=
  ⟨fun i H h g => ⟨xs, ys, xs[i], ys[i], g.1, g.2, List.getElem?_eq_getElem (by omega), List.getElem?_eq_getElem (by omega)⟩, fun H g => ⟨xs, ys, g.1, g.2, by omega⟩, fun i H v H' h g ⟨T, x, y, e1, e2, e3, e4, e5⟩ => ⟨T, x, y, e1, e2, e3, e4 xs g.1, e5 ys g.2⟩⟩
section
variable {F : Fns} {K : PySem.W.Frag} {cl : Str → Addr} {W : WX} {X : Cx} {a b c e : E} {ea eb ec tg : Expr} {pos p tpos : Pos} {elts : List Expr} {kk : Nat} {t : Tg}
theorem i_sq (hK : X.K = K) (ha : PE X ea (rdE F K cl W a)) : PI X tg ea (rdI F K cl W t (.sq a)) := by
  refine PI.imp (pi_seq ha) fun σ H R ⟨C, G, ρ, r, h⟩ => ⟨C, G, ρ, r, ?_⟩
  unfold evI at h
  refine h.bind.mono fun x ρ1 _ h1 G1 v1 H1 e1 r1 d1 => ?_
  obtain ⟨xs, hx, h2⟩ := Out.bindc h1
  rw [hK]
  cases d1 with
  | lst q1 q2 =>
    cases hx
    exact .inl ⟨_, _, rfl, same_l r1.exG q1, h2 G1 _ H1 e1 r1 (.of walk_list (dps_len q2) (fun H e => same_l e q1) q2)⟩
  | tup q1 q2 =>
    cases hx
    exact .inr (.inl ⟨_, _, rfl, same_t r1.exG q1, h2 G1 _ H1 e1 r1 (.of walk_tup (dps_len q2) (fun H e => same_t e q1) q2)⟩)
  | str s =>
    cases hx
    refine .inr (.inr ⟨s, rfl, h2 G1 _ H1 e1 r1 (.ofF walk_str (by simp) (fun _ => trivial) (fun i H v H' hi y => ?_))⟩)
    obtain ⟨e1, ch, h3, h4⟩ := y
    refine ⟨e1, .str ⟨#[ch]⟩, ?_, fun G => ?_⟩
    · rw [List.getElem?_map, Array.getElem?_toList, h3]
      rfl
    · subst h4
      exact .str _
  | _ => cases hx
theorem rng_cases {x y z : D} {xs : List D} (h : rngDD x y z = .ok xs) : ∃ i j k, x = .int i ∧ y = .int j ∧ z = .int k ∧ (-(2 ^ 60) < i ∧ i < 2 ^ 60 ∧ -(2 ^ 60) < j ∧ j < 2 ^ 60) ∧ ((k = 1 ∧ xs = rngL i 1 (j - i).toNat) ∨ (k = -1 ∧ xs = rngL i (-1) (i - j).toNat)) := by
  cases x with
  | int i =>
    cases y with
    | int j =>
      cases z with
      | int k =>
        have h : (if -(2 ^ 60) < i ∧ i < 2 ^ 60 ∧ -(2 ^ 60) < j ∧ j < 2 ^ 60 then (if k = 1 then Except.ok (rngL i 1 (j - i).toNat) else if k = -1 then Except.ok (rngL i (-1) (i - j).toNat) else stk) else stk) = Except.ok xs := h
        split at h
        · rename_i hb
          split at h
          · rename_i hk
            cases h
            exact ⟨i, j, k, rfl, rfl, rfl, hb, .inl ⟨hk, rfl⟩⟩
          · split at h
            · rename_i hk
              cases h
              exact ⟨i, j, k, rfl, rfl, rfl, hb, .inr ⟨hk, rfl⟩⟩
            · cases h
        · cases h
      | _ => cases h
    | _ => cases h
  | _ => cases y <;> cases h
theorem walk_rng {G : Hp} {i : Int} {n : Nat} : WalkD K G (Itr i n) (rngL i 1 n) t := .ofF walk_range (rngL_len 1 n i).symm (fun _ => trivial) (fun m H v H' hm y => by
  obtain ⟨e1, e2⟩ := y
  subst e2
  refine ⟨e1, _, rngL_get 1 n i m hm, fun G => ?_⟩
  rw [Int.mul_one]
  exact .int _)
theorem walk_rngN {G : Hp} {i : Int} {n : Nat} : WalkD K G (Itc i (-1) n) (rngL i (-1) n) t := .ofF walk_rangeC (rngL_len (-1) n i).symm (fun _ => trivial) (fun m H v H' hm y => by
  obtain ⟨e1, e2⟩ := y
  subst e2
  exact ⟨e1, _, rngL_get (-1) n i m hm, fun G => .int _⟩)
theorem star1 {e : Expr} {env : PySem.Env} (h : nostar e = true) : starEach [e] env = [(false, eval e env)] := by
  rw [star_cons h]
  rfl
theorem i_rng1 (hg : Gl X "range") (hm : X.mg "range" = none) (ha : PE X ea (rdE F K cl W a)) (hs : nostar ea = true) : PI X tg (.Call (.Name "range" p) [ea] [] pos) (rdI F K cl W t (.rng1 a)) := by
  refine PI.imp (pi_range1 hg hm (pa_cons ha pa_nil (star_cons hs)) (star1 hs)) fun σ H R ⟨C, G, ρ, r, h⟩ => ⟨C, G, ρ, r, ?_⟩
  unfold evI at h
  refine h.bind.mono fun x ρ1 _ h1 G1 v1 H1 e1 r1 d1 => ?_
  obtain ⟨xs, hx, h2⟩ := Out.bindc h1
  obtain ⟨i, j, k, e2, rfl, e3, hb, hc⟩ := rng_cases hx
  cases e2
  cases e3
  cases d1
  rcases hc with ⟨_, rfl⟩ | ⟨q, _⟩
  · refine ⟨j, rfl, by omega, by omega, h2 G1 _ H1 e1 r1 ?_⟩
    have e4 : (j - 0).toNat = j.toNat := by omega
    rw [e4]
    exact walk_rng
  · exact absurd q (by decide)
theorem i_rng2 (hg : Gl X "range") (hm : X.mg "range" = none) (ha : PE X ea (rdE F K cl W a)) (hb : PE X eb (rdE F K cl W b)) (hs : nostar ea = true) (hs2 : nostar eb = true) : PI X tg (.Call (.Name "range" p) [ea, eb] [] pos) (rdI F K cl W t (.rng2 a b)) := by
  refine PI.imp (pi_range2 hg hm (pa_cons ha (pa_cons hb pa_nil (star_cons hs2)) (star_cons hs)) (by rw [star_cons hs, star1 hs2]) (star1 hs2)) fun σ H R ⟨C, G, ρ, r, h⟩ => ⟨C, G, ρ, r, ?_⟩
  unfold evI at h
  refine h.bind.mono fun x ρ1 _ h1 G1 v1 H1 e1 r1 d1 => ⟨C, G1, ρ1, r1, ?_⟩
  refine Out.mono (Out.bind h1) fun y ρ2 _ h2 G2 v2 H2 e2 r2 d2 => ?_
  obtain ⟨xs, hx, h3⟩ := Out.bindc h2
  obtain ⟨i, j, k, rfl, rfl, e3, hb, hc⟩ := rng_cases hx
  cases e3
  cases d1
  cases d2
  rcases hc with ⟨_, rfl⟩ | ⟨q, _⟩
  · exact ⟨i, j, rfl, by omega, h3 G2 _ H2 (e1.trans e2) r2 walk_rng⟩
  · exact absurd q (by decide)
theorem i_rng3 (hg : Gl X "range") (hm : X.mg "range" = none) (ha : PE X ea (rdE F K cl W a)) (hb : PE X eb (rdE F K cl W b)) (hc : PE X ec (rdE F K cl W c)) (hs : nostar ea = true) (hs2 : nostar eb = true) (hs3 : nostar ec = true) : PI X tg (.Call (.Name "range" p) [ea, eb, ec] [] pos) (rdI F K cl W t (.rng3 a b c)) := by
  have hst : [eb, ec].all nostar = true := by rw [List.all_cons, List.all_cons, hs2, hs3]; rfl
  refine PI.imp (pi_range3 hg hm (pa_cons ha (pa_cons hb (pa_cons hc pa_nil (star_cons hs3)) (star_cons hs2)) (star_cons hs)) (star_cons hs) (star_none hst)) fun σ H R ⟨C, G, ρ, r, h⟩ => ⟨C, G, ρ, r, ?_⟩
  unfold evI at h
  refine h.bind.mono fun x ρ1 _ h1 G1 v1 H1 e1 r1 d1 => ⟨C, G1, ρ1, r1, ?_⟩
  refine Out.mono (Out.bind h1) fun y ρ2 _ h2 G2 v2 H2 e2 r2 d2 => ⟨C, G2, ρ2, r2, ?_⟩
  refine Out.mono (Out.bind h2) fun z ρ3 _ h3 G3 v3 H3 e3 r3 d3 => ?_
  obtain ⟨xs, hx, h4⟩ := Out.bindc h3
  obtain ⟨i, j, k, rfl, rfl, rfl, hb, hc⟩ := rng_cases hx
  cases d1
  cases d2
  cases d3
  rcases hc with ⟨rfl, rfl⟩ | ⟨rfl, rfl⟩
  · refine ⟨i, j, 1, (j - i).toNat, rfl, ⟨by decide, by decide, small_one (by omega) (by omega) (by omega) (by omega), ?_⟩, h4 G3 _ H3 ((e1.trans e2).trans e3) r3 ?_⟩
    · rw [rangeSize_one]
      split <;> omega
    · exact .ofF walk_rangeC (rngL_len 1 _ i).symm (fun _ => trivial) (fun m H v H' hm y => by
        obtain ⟨q1, q2⟩ := y
        subst q2
        exact ⟨q1, _, rngL_get 1 _ i m hm, fun G => .int _⟩)
  · exact ⟨i, j, -1, (i - j).toNat, rfl, RgC.neg (by omega) (by omega) (by omega) (by omega), h4 G3 _ H3 ((e1.trans e2).trans e3) r3 walk_rngN⟩
theorem i_enum (htw : isTwo t = true) (hK : X.K = K) (hg : Gl X "enumerate") (hm : X.mg "enumerate" = none) (ha : PE X ea (rdE F K cl W a)) (hs : nostar ea = true) : PI X (.Tuple elts kk tpos) (.Call (.Name "enumerate" p) [ea] [] pos) (rdI F K cl W t (.enum a)) := by
  refine PI.imp (pi_enumA hg hm (pa_cons ha pa_nil (star_cons hs)) (star1 hs)) fun σ H R ⟨C, G, ρ, r, h⟩ => ⟨C, G, ρ, r, ?_⟩
  unfold evI at h
  refine h.bind.mono fun x ρ1 _ h1 G1 v1 H1 e1 r1 d1 => ?_
  obtain ⟨xs, hx, h2⟩ := Out.bindc h1
  rw [hK]
  have key : ∀ (vs : List V) (ds : List D), DpAll K G1 vs ds → ∀ i x y, i < vs.length → some (V.int ((i : Nat) : Int)) = some x → vs[i]? = some y → ∃ a b, (enumL 0 ds)[i]? = some (.tuple [a, b]) ∧ Dp K G1 x a ∧ Dp K G1 y b := fun vs ds hd i x y _ hx hy => by
    obtain ⟨d, q1, q2⟩ := dps_get' hd hy
    have e0 := enumL_get ds 0 i d q1
    rw [Nat.zero_add] at e0
    cases hx
    exact ⟨_, d, e0, .int _, q2⟩
  cases d1 with
  | lst q1 q2 =>
    cases hx
    exact ⟨_, _, rfl, .inl ⟨same_l r1.exG q1, h2 G1 _ H1 e1 r1 (.pair htw walk_enum (by rw [enumL_len, dps_len q2]) (fun H e => same_l e q1) (key _ _ q2))⟩⟩
  | tup q1 q2 =>
    cases hx
    exact ⟨_, _, rfl, .inr ⟨same_t r1.exG q1, h2 G1 _ H1 e1 r1 (.pair htw walk_enumT (by rw [enumL_len, dps_len q2]) (fun H e => same_t e q1) (key _ _ q2))⟩⟩
  | _ => cases hx
theorem i_zip (htw : isTwo t = true) (hK : X.K = K) (hg : Gl X "zip") (hm : X.mg "zip" = none) (ha : PE X ea (rdE F K cl W a)) (hb : PE X eb (rdE F K cl W b)) (hs : nostar ea = true) (hs2 : nostar eb = true) : PI X (.Tuple elts kk tpos) (.Call (.Name "zip" p) [ea, eb] [] pos) (rdI F K cl W t (.zip a b)) := by
  have hst : [eb].all nostar = true := by rw [List.all_cons, hs2]; rfl
  refine PI.imp (pi_zipB hg hm (pa_cons ha (pa_cons hb pa_nil (star_cons hs2)) (star_cons hs)) (star_cons hs) (star_none hst)) fun σ H R ⟨C, G, ρ, r, h⟩ => ⟨C, G, ρ, r, ?_⟩
  unfold evI at h
  refine h.bind.mono fun x ρ1 _ h1 G1 v1 H1 e1 r1 d1 => ⟨C, G1, ρ1, r1, ?_⟩
  refine Out.mono (Out.bind h1) fun y ρ2 _ h2 G2 v2 H2 e2 r2 d2 => ?_
  obtain ⟨xs, hx, h3⟩ := Out.bindc h2
  rw [hK]
  have key : ∀ (vs ws : List V) (ds es : List D), DpAll K G2 vs ds → DpAll K G2 ws es → ∀ i x y, i < min vs.length ws.length → vs[i]? = some x → ws[i]? = some y → ∃ a b, (zipL ds es)[i]? = some (.tuple [a, b]) ∧ Dp K G2 x a ∧ Dp K G2 y b := fun vs ws ds es h1 h2 i x y _ hx hy => by
    obtain ⟨d, q1, q2⟩ := dps_get' h1 hx
    obtain ⟨d', q3, q4⟩ := dps_get' h2 hy
    exact ⟨d, d', zipL_get _ _ _ _ _ q1 q3, q2, q4⟩
  cases d1 with
  | lst q1 q2 =>
    cases d2 with
    | lst q3 q4 =>
      cases hx
      have q1 := same_l e2 q1
      have q2 := dps_mono e2 q2
      exact ⟨_, _, _, _, rfl, .inl ⟨same_l r2.exG q1, same_l r2.exG q3, h3 G2 _ H2 (e1.trans e2) r2 (.pair htw (walk_zip rfl) (by rw [zipL_len, dps_len q2, dps_len q4]) (fun H e => ⟨same_l e q1, same_l e q3⟩) (key _ _ _ _ q2 q4))⟩⟩
    | _ => cases hx
  | tup q1 q2 =>
    cases d2 with
    | tup q3 q4 =>
      cases hx
      have q1 := same_n e2 q1
      have q2 := dps_mono e2 q2
      exact ⟨_, _, _, _, rfl, .inr (.inl ⟨same_t r2.exG q1, same_t r2.exG q3, h3 G2 _ H2 (e1.trans e2) r2 (.pair htw (walk_zipT rfl) (by rw [zipL_len, dps_len q2, dps_len q4]) (fun H e => ⟨same_t e q1, same_t e q3⟩) (key _ _ _ _ q2 q4))⟩)⟩
    | lst q3 q4 =>
      cases hx
      have q1 := same_n e2 q1
      have q2 := dps_mono e2 q2
      exact ⟨_, _, _, _, rfl, .inr (.inr ⟨same_t r2.exG q1, same_l r2.exG q3, h3 G2 _ H2 (e1.trans e2) r2 (.pair htw (walk_zipM rfl) (by rw [zipL_len, dps_len q2, dps_len q4]) (fun H e => ⟨same_t e q1, same_l e q3⟩) (key _ _ _ _ q2 q4))⟩)⟩
    | _ => cases hx
  | _ => cases d2 <;> cases hx
theorem s_rev {k : Nat} {p1 p2 p3 : Pos} (hK : X.K = K) (ha : PE X ea (rdE F K cl W a)) : PE X (.Subscript ea (.Slice none none (some (.UnaryOp .USub (.Constant (.int 1) k p1) p2)) p3) pos) (rdE F K cl W (.rev a)) := by
  refine PE.imp (pe_revT ha) fun σ H Q ⟨C, G, ρ, r, h⟩ => ⟨C, G, ρ, r, ?_⟩
  unfold evE at h
  refine h.bind.mono fun x ρ1 _ h1 G1 v1 H1 e1 r1 d1 => ?_
  obtain ⟨z, hz, h2⟩ := Out.bindc h1
  rw [hK]
  cases d1 with
  | tup q1 q2 =>
    cases hz
    refine ⟨_, _, rfl, .inl ⟨same_t r1.exG q1, fun p o hp ho => ?_⟩⟩
    have nG := r1.nG hp
    exact h2 _ _ _ (e1.trans (same_new nG)) (r1.know hp) (.tup (NT.of ho upd_same) (dps_mono (same_new nG) (dps_rev q2)))
  | lst q1 q2 =>
    cases hz
    refine ⟨_, _, rfl, .inr ⟨same_l r1.exG q1, fun p hp => ?_⟩⟩
    have nG := r1.nG hp
    exact h2 _ _ _ (e1.trans (same_new nG)) (r1.know hp) (.lst (SqL.of upd_same) (dps_mono (same_new nG) (dps_rev q2)))
  | _ => cases hz
end
end Ft
/-! FtLc: list comprehensions. -/
namespace Ft
open PySem PySem.Spec PyProof.Rows L2 RZ
section
variable {K : PySem.W.Frag} {C : RC} {G G' H H' : Hp} {ρ ρ' : Env} {σ : L2.St}
/-- a list of one's own that no slot holds is changed -/
theorem Rel.poke (r : Rel K C G ρ σ H) {p : Addr} {xs ys : List V} (o : Own C G ρ σ H p xs) : Rel K C G ρ σ (upd H p (.lst ys)) where
  exG := fun a u e => by
    rw [upd_ne (ne_of_none e o.nG)]
    exact r.exG a u e
  exP := fun a u e => by
    rw [upd_ne (ne_of_none e o.nP)]
    exact r.exP a u e
  ex0 := r.ex0
  g0P := r.g0P
  frG := r.frG
  len := r.len
  cells := fun i c oo h1 h2 => cellOk_mono (r.cells i c oo h1 h2) (Same.refl G) (fun q zs ds hl ho hq => by
    have hqp : q ≠ p := fun e => o.nM i ⟨c, ds, h1, hl, by rw [h2, ho, e]⟩
    rw [upd_ne hqp]
    exact hq) (fun _ _ _ _ z => z)
  apart := r.apart
theorem Own.poke {p : Addr} {xs ys : List V} (o : Own C G ρ σ H p xs) : Own C G ρ σ (upd H p (.lst ys)) p ys := ⟨upd_same, o.nG, o.nP, o.nM⟩
theorem muAt_no {i j : Nat} {p : Addr} {o : Option V} (m : MuAt (ρ.set i .no) (σ.set i o) j p) : MuAt ρ σ j p := by
  by_cases hj : j = i
  · subst hj
    obtain ⟨c, ds, h1, h2, _⟩ := m
    have hl : j < ρ.length := by
      have := (List.getElem?_eq_some_iff.mp h1).1
      simpa using this
    rw [List.getElem?_set_self hl] at h1
    cases h1
    cases h2
  · exact muAt_set m hj
theorem set_back {α : Type} {l : List α} {i : Nat} {x y : α} (h : l[i]? = some y) : (l.set i x).set i y = l := by
  rw [List.set_set]
  apply List.ext_getElem?
  intro j
  by_cases hj : i = j
  · subst hj
    rw [List.getElem?_set_self (List.getElem?_eq_some_iff.mp h).1, h]
  · rw [List.getElem?_set_ne hj]
/-- one of the comprehension's own slots as it was -/
theorem Rel.back1 {i : Nat} (r : Rel K C G' ρ' (σ.set i none) H') (r0 : Rel K C G ρ σ H) (e : Same G G') : Rel K C G' (ρ'.set i (imOnly (ρ.getD i .no))) σ H' := by
  by_cases hi : i < σ.length
  · have hs := List.getElem?_eq_getElem hi
    have hc : CellOk K C G' H' (imOnly (ρ.getD i .no)) σ[i] := by
      have hl : i < ρ.length := by rw [r0.len]; exact hi
      have hρ : ρ[i]? = some ρ[i] := List.getElem?_eq_getElem hl
      have c0 := r0.cells i ρ[i] σ[i] hρ hs
      have eg : ρ.getD i .no = ρ[i] := by rw [List.getD_eq_getElem?_getD, hρ]; rfl
      rw [eg]
      cases hq : ρ[i] with
      | im d =>
        rw [hq] at c0
        obtain ⟨v, e1, e2⟩ := c0
        exact ⟨v, e1, dp_mono e e2⟩
      | _ => trivial
    have r2 := r.setAny i hc (fun p ds hl => by
      cases hq : ρ.getD i .no <;> (rw [hq] at hl; cases hl))
    rw [set_back hs] at r2
    exact r2
  · have e1 : σ.set i none = σ := List.set_eq_of_length_le (by omega)
    rw [e1] at r
    have e2 : ∀ c, ρ'.set i c = ρ' := fun c => List.set_eq_of_length_le (by rw [r.len]; omega)
    rw [e2]
    exact r
theorem muAt_back {i j : Nat} {p : Addr} {c : Cell} (m : MuAt (ρ.set i (imOnly c)) σ j p) : MuAt ρ (σ.set i none) j p := by
  obtain ⟨c', ds, h1, h2, h3⟩ := m
  by_cases hj : j = i
  · subst hj
    have hl : j < ρ.length := by
      have := (List.getElem?_eq_some_iff.mp h1).1
      simpa using this
    rw [List.getElem?_set_self hl] at h1
    cases h1
    cases c <;> cases h2
  · refine ⟨c', ds, ?_, h2, ?_⟩
    · rw [List.getElem?_set_ne (Ne.symm hj)] at h1
      exact h1
    · rw [List.getElem?_set_ne (Ne.symm hj)]
      exact h3
end
/-! ### the targets -/
def slots : Tg → List Nat
  | .one i => [i]
  | .two i j => [i, j]
def gOf (K : PySem.W.Frag) : Tg → TG
  | .one i => gName i
  | .two i j => gTup K 2 (gCons (gName i) (gCons (gName j) gNil))
def tgOk : Tg → Bool
  | .one _ => true
  | .two i j => i != j
section
variable {K : PySem.W.Frag} {C : RC} {G G' H H' : Hp} {ρ ρ' : Env} {σ : L2.St} {t : Tg}
theorem tgt_of {x : V} {d : D} {Q : L2.St → Hp → Prop} (h : tgt t d ρ = .ok ρ') (r : Rel K C G ρ σ H) (hd : Yd K G t x d) (k : ∀ σ', Rel K C G ρ' σ' H → (∀ vs : List Nat, (∀ i ∈ slots t, i ∈ vs) → wipe σ' vs = wipe σ vs) → (∀ p, (∀ j, ¬ MuAt ρ σ j p) → ∀ j, ¬ MuAt ρ' σ' j p) → Q σ' H) : gOf K t x σ H Q := by
  have wipe_set : ∀ (vs : List Nat) (i : Nat) (o : Option V) (σ : L2.St), i ∈ vs → wipe (σ.set i o) vs = wipe σ vs := by
    intro vs
    induction vs with
    | nil => intro i o σ h; cases h
    | cons v r ih =>
      intro i o σ h
      show (wipe (σ.set i o) r).set v none = (wipe σ r).set v none
      by_cases hir : i ∈ r
      · rw [ih i o σ hir]
      · have hv : i = v := by
          rcases List.mem_cons.mp h with e | e
          · exact e
          · exact absurd e hir
        subst hv
        have key : ∀ (r : List Nat) (σ : L2.St), (wipe (σ.set i o) r).set i none = (wipe σ r).set i none := by
          intro r
          induction r with
          | nil => intro σ; show (σ.set i o).set i none = σ.set i none; rw [List.set_set]
          | cons u r ih2 =>
            intro σ
            show ((wipe (σ.set i o) r).set u none).set i none = ((wipe σ r).set u none).set i none
            by_cases hu : u = i
            · subst hu
              rw [List.set_set, List.set_set]
              exact ih2 σ
            · rw [List.set_comm _ _ hu, List.set_comm _ _ hu, ih2 σ]
        exact key r σ
  cases t with
  | one i =>
    cases h
    have hd : Dp K G x d := by
      cases hd with
      | kn h => exact h
      | pr h2 _ _ _ => cases h2
    exact k _ (r.setIm i hd) (fun vs hv => wipe_set vs i _ σ (hv i (List.mem_singleton.mpr rfl))) (fun p hn j m => by
      by_cases hj : j = i
      · subst hj
        obtain ⟨c, ds, h1, h2, _⟩ := m
        have hl : j < ρ.length := by
          have := (List.getElem?_eq_some_iff.mp h1).1
          simpa using this
        rw [List.getElem?_set_self hl] at h1
        cases h1
        cases h2
      · exact hn j (muAt_set m hj))
  | two i j =>
    have core : ∀ (a : Addr) (vx vy : V) (dx dy : D), x = .ref a → d = .tuple [dx, dy] → SqT K H a [vx, vy] → Dp K G vx dx → Dp K G vy dy → gOf K (.two i j) x σ H Q := by
      intro a vx vy dx dy ex ed hq q1 q3
      subst ex ed
      cases h
      refine ⟨a, _, rfl, hq, rfl, _, _, rfl, _, _, rfl, rfl, ?_⟩
      refine k _ ((r.setIm i q1).setIm j q3) (fun vs hv => ?_) (fun p hn m' m => ?_)
      · rw [wipe_set vs j _ _ (hv j (by simp [slots])), wipe_set vs i _ _ (hv i (by simp [slots]))]
      · have im1 : ∀ (ρ : Env) (σ : L2.St) (i : Nat) (d : D) (v : V) (m' : Nat), MuAt (ρ.set i (.im d)) (σ.set i (some v)) m' p → MuAt ρ σ m' p := by
          intro ρ σ i d v m' m
          by_cases hj : m' = i
          · subst hj
            obtain ⟨c, ds, h1, h2, _⟩ := m
            have hl : m' < ρ.length := by
              have := (List.getElem?_eq_some_iff.mp h1).1
              simpa using this
            rw [List.getElem?_set_self hl] at h1
            cases h1
            cases h2
          · exact muAt_set m hj
        exact hn m' (im1 _ _ _ _ _ _ (im1 _ _ _ _ _ _ m))
    cases hd with
    | pr h2 hq q1 q3 => exact core _ _ _ _ _ rfl rfl (same_s r.exG hq) q1 q3
    | kn hd =>
      cases hd with
      | @tup a xs ds h1 h2 =>
        cases h2 with
        | nil => cases h
        | cons q1 q2 =>
          cases q2 with
          | nil => cases h
          | cons q3 q4 =>
            cases q4 with
            | cons _ _ => cases h
            | nil => exact core _ _ _ _ _ rfl rfl (same_t r.exG h1) q1 q3
      | _ => cases h
theorem Rel.clr (r : Rel K C G ρ σ H) : Rel K C G (clr t ρ) (wipe σ (slots t)) H := by
  cases t with
  | one i => exact r.setNo i none
  | two i j => exact (r.setNo j none).setNo i none
theorem muAt_clr {p : Addr} {j : Nat} (m : MuAt (clr t ρ) (wipe σ (slots t)) j p) : MuAt ρ σ j p := by
  cases t with
  | one i => exact muAt_no m
  | two i k => exact muAt_no (muAt_no m)
theorem Rel.back (r : Rel K C G' ρ' (wipe σ (slots t)) H') (r0 : Rel K C G ρ σ H) (e : Same G G') (ht : tgOk t = true) : Rel K C G' (back t ρ ρ') σ H' := by
  cases t with
  | one i => exact r.back1 r0 e
  | two i j =>
    have hij : i ≠ j := by simpa [tgOk] using ht
    have r' : Rel K C G' ρ' ((σ.set j none).set i none) H' := r
    have r1 : Rel K C G' (ρ'.set i (imOnly ((ρ.set j .no).getD i .no))) (σ.set j none) H' := r'.back1 (r0.setNo j none) e
    have eg : (ρ.set j Cell.no).getD i .no = ρ.getD i .no := by
      rw [List.getD_eq_getElem?_getD, List.getD_eq_getElem?_getD, List.getElem?_set_ne (Ne.symm hij)]
    rw [eg] at r1
    exact r1.back1 r0 e
theorem muAt_backT {p : Addr} {k : Nat} (m : MuAt (back t ρ ρ') σ k p) : MuAt ρ' (wipe σ (slots t)) k p := by
  cases t with
  | one i => exact muAt_back m
  | two i j => exact muAt_back (muAt_back m)
end
/-! ### [e for t in it if c] -/
abbrev W0 : WX := fun _ _ _ _ => False
theorem calm_ok {α : Type} {r : R α} {a : α} (h : calmR r = .ok a) : r = .ok a := by
  cases r with
  | ok b => exact h
  | error e => cases h
section
variable {F : Fns} {K : PySem.W.Frag} {cl : Str → Addr} {W : WX} {X : Cx} {it c e : E} {t : Tg} {elt tg iter : Expr} {ifs : List Expr} {scope : Scope} {pos : Pos} {own : List (Str × Nat)}
theorem lc_imp (ht : tgOk t = true) (σ : L2.St) (H : Hp) (Q : VK) (h : rdF F K cl W (.lc t it c e) σ H Q) : tLc (rdI F K cl W t it) (gOf K t) (rdT F K cl W0 c) (rdE F K cl W0 e) (slots t) σ H Q := by
  obtain ⟨C, G, ρ, r, h⟩ := h
  refine ⟨C, G, ρ, r, ?_⟩
  unfold evE at h
  refine h.bind.mono fun xs ρ1 _ h1 G1 J H1 e1 r1 w1 => ?_
  have h1 : Out C cl W σ (if xs.length < LIM then bindR (calmR (lcL t (evT F c) (evE F e) xs (clr t ρ1))) (fun q => (Except.ok (PyData.list q.1, back t ρ1 q.2) : R (D × Env))) else stk) _ := h1
  by_cases hlim : xs.length < LIM
  · rw [if_pos hlim] at h1
    cases hq : calmR (lcL t (evT F c) (evE F e) xs (clr t ρ1)) with
    | error er =>
      have : er = .stuck := by
        cases hl : lcL t (evT F c) (evE F e) xs (clr t ρ1) with
        | ok a => rw [hl] at hq; cases hq
        | error x => rw [hl] at hq; cases hq; rfl
      subst this
      rw [hq] at h1
      exact h1.elim
    | ok q =>
      rw [hq] at h1
      have hl := calm_ok hq
      obtain ⟨ds, ρ2⟩ := q
      obtain ⟨ds', ed, k⟩ := h1
      have ed : ds = ds' := by cases ed; rfl
      subst ed
      intro Dl hD
      have nP : C.P Dl = none := r1.nP hD
      have nG1 : G1 Dl = none := r1.nG hD
      have nG0 : C.G0 Dl = none := r1.ex0.free nG1
      refine ⟨fun i m H' => m = xs.length - i ∧ i ≤ xs.length ∧ ∃ Gi ρi accV accD rest, Same G1 Gi ∧ Rel K C Gi ρi (wipe σ (slots t)) H' ∧ Own C Gi ρi (wipe σ (slots t)) H' Dl accV ∧ DpAll K Gi accV accD ∧ accD.length ≤ i ∧
          lcL t (evT F c) (evE F e) (xs.drop i) ρi = .ok (rest, ρ2) ∧ accD ++ rest = ds, ⟨xs.length, by simp, Nat.zero_le _, G1, clr t ρ1, [], [], ds, Same.refl _, (r1.alloc hD).clr, ⟨upd_same, nG1, nP, fun j m => r1.nM hD j (muAt_clr m)⟩, .nil, Nat.le_refl _, by rw [List.drop_zero]; exact hl, rfl⟩, ?_⟩
      rintro i m H' ⟨rfl, hi, Gi, ρi, accV, accD, rest, ex, ri, oi, da, la, hrun, hsum⟩
      by_cases hlt : i < xs.length
      · refine .inr ⟨w1.go i H' hlt (ex.trans ri.exG), fun H'' => _ ∧ _ ∧ _, fun H'' hN => ⟨xs.length - (i + 1), by omega, hN⟩, fun x H2 hy => ?_⟩
        obtain ⟨d, Gn, hxd, en, en2, en3, fr, dpx⟩ := w1.yld i H' x H2 Gi hlt ex ri.exG hy
        have rn : Rel K C Gn ρi (wipe σ (slots t)) H2 := ri.step en en2 en3 fr
        have nGn : Gn Dl = none := by
          cases q : Gn Dl with
          | none => rfl
          | some o =>
            have := fr Dl (by rw [q]; simp) oi.nG
            rw [oi.at_] at this
            cases this
        have hdrop : xs.drop i = d :: xs.drop (i + 1) := by
          obtain ⟨hl1, hl2⟩ := List.getElem?_eq_some_iff.mp hxd
          rw [List.drop_eq_getElem_cons hl1, hl2]
        rw [hdrop] at hrun
        unfold lcL at hrun
        cases htg : tgt t d ρi with
        | error er => rw [htg] at hrun; cases hrun
        | ok ρa =>
          rw [htg, bindC_ok] at hrun
          refine tgt_of htg rn dpx fun σ2 ra hw hm => ⟨?_, ?_⟩
          · rw [hw (slots t) (fun _ z => z)]
            cases t with
            | one i0 => show (σ.set i0 none).set i0 none = σ.set i0 none; rw [List.set_set]
            | two i0 j0 =>
              show ((((σ.set j0 none).set i0 none).set j0 none).set i0 none) = (σ.set j0 none).set i0 none
              have hij : i0 ≠ j0 := by simpa [tgOk] using ht
              rw [List.set_comm _ _ hij, List.set_set, List.set_set]
          · have hw2 : wipe σ2 (slots t) = wipe σ (slots t) := by
              rw [hw (slots t) (fun _ z => z)]
              cases t with
              | one i0 => show (σ.set i0 none).set i0 none = σ.set i0 none; rw [List.set_set]
              | two i0 j0 =>
                show ((((σ.set j0 none).set i0 none).set j0 none).set i0 none) = (σ.set j0 none).set i0 none
                have hij : i0 ≠ j0 := by simpa [tgOk] using ht
                rw [List.set_comm _ _ hij, List.set_set, List.set_set]
            have hDa : H2 Dl = some (.lst accV) := en3 _ _ oi.at_
            have gd : Rel K (C.with Dl (.lst accV)) Gn ρa σ2 H2 := ra.guard hDa nGn (hm Dl oi.nM)
            cases hcv : evT F c ρa with
            | error er => rw [hcv] at hrun; cases hrun
            | ok qb =>
              obtain ⟨b, ρb⟩ := qb
              rw [hcv] at hrun
              have hrun : (if b = true then bindR (evE F e ρb) (fun p => bindR (lcL t (evT F c) (evE F e) (xs.drop (i + 1)) (clr t p.2)) fun q => .ok (p.1 :: q.1, q.2)) else lcL t (evT F c) (evE F e) (xs.drop (i + 1)) (clr t ρb)) = .ok (rest, ρ2) := hrun
              refine ⟨_, Gn, ρa, gd, ?_⟩
              rw [hcv]
              show ∀ G' H', Same Gn G' → Rel K (C.with Dl (.lst accV)) G' ρb σ2 H' → _
              intro Gb Hb eb rb
              cases b with
              | false =>
                rw [if_neg Bool.false_ne_true] at hrun
                obtain ⟨rb', hDb, nGb, nMb⟩ := Rel.unguard nP nG0 rb
                refine iteF ⟨by omega, hlt, Gb, clr t ρb, accV, accD, rest, (ex.trans en).trans eb, ?_, ⟨hDb, nGb nG0, nP, fun j m => ?_⟩, dps_mono (en.trans eb) da, by omega, hrun, hsum⟩
                · have := rb'.clr (t := t)
                  rw [hw2] at this
                  exact this
                · rw [← hw2] at m
                  exact nMb j (muAt_clr m)
              | true =>
                rw [if_pos rfl] at hrun
                cases hev : evE F e ρb with
                | error er => rw [hev] at hrun; cases hrun
                | ok qe =>
                  obtain ⟨dv, ρc⟩ := qe
                  rw [hev] at hrun
                  have hrun : bindR (lcL t (evT F c) (evE F e) (xs.drop (i + 1)) (clr t ρc)) (fun q => .ok (dv :: q.1, q.2)) = .ok (rest, ρ2) := hrun
                  obtain ⟨qr, hqr, hqe⟩ := bindR_ok_inv hrun
                  obtain ⟨rest', ρ2'⟩ := qr
                  have hqe : Except.ok (dv :: rest', ρ2') = (Except.ok (rest, ρ2) : R (List D × Env)) := hqe
                  have e1 : rest = dv :: rest' := by cases hqe; rfl
                  have e2 : ρ2' = ρ2 := by cases hqe; rfl
                  subst e1 e2
                  refine iteT ⟨_, Gb, ρb, rb, ?_⟩
                  rw [hev]
                  show ∀ G' v H', Same Gb G' → Rel K (C.with Dl (.lst accV)) G' ρc σ2 H' → Dp K G' v dv → _
                  intro Gc v Hc ec rc dv'
                  obtain ⟨rc', hDc, nGc, nMc⟩ := Rel.unguard nP nG0 rc
                  have oc : Own C Gc ρc σ2 Hc Dl accV := ⟨hDc, nGc nG0, nP, nMc⟩
                  have hlen : accV.length = accD.length := dps_len da
                  refine ⟨accV, hDc, ?_, by omega, hlt, Gc, clr t ρc, accV ++ [v], accD ++ [dv], rest', ((ex.trans en).trans eb).trans ec, ?_, ⟨upd_same, nGc nG0, nP, fun j m => ?_⟩, dps_append (dps_mono ((en.trans eb).trans ec) da) (dps_one dv'), ?_, hqr, by rw [List.append_assoc]; exact hsum⟩
                  · have : LIM ≤ sizeLine := by decide
                    omega
                  · have := (rc'.poke (ys := accV ++ [v]) oc).clr (t := t)
                    rw [hw2] at this
                    exact this
                  · rw [← hw2] at m
                    exact nMc j (muAt_clr m)
                  · rw [List.length_append, List.length_singleton]
                    omega
      · have ei : i = xs.length := by omega
        subst ei
        rw [List.drop_length] at hrun
        cases hrun
        rw [List.append_nil] at hsum
        subst hsum
        refine .inl ⟨w1.stop H' (ex.trans ri.exG), k Gi Dl accV H' (e1.trans ex) (ri.back r1 ex ht) ⟨oi.at_, oi.nG, oi.nP, fun j m => oi.nM j (muAt_backT m)⟩ da⟩
  · rw [if_neg hlim] at h1
    exact h1.elim
theorem lc_loop (ht : tgOk t = true) {C : RC} {G1 H1 : Hp} {ρ1 ρ2 : Env} {σ : L2.St} {J : It} {xs ds : List D} {Q : VK} (r1 : Rel K C G1 ρ1 σ H1) (hlim : xs.length < LIM) (hl : lcL t (evT F c) (evE F e) xs (clr t ρ1) = .ok (ds, ρ2))
    (hgo : ∀ i H' Gi ρi, i < xs.length → Same G1 Gi → Rel K C Gi ρi (wipe σ (slots t)) H' → J.go i H') (hstop : ∀ H' Gi ρi, Same G1 Gi → Rel K C Gi ρi (wipe σ (slots t)) H' → J.stop xs.length H')
    (hyld : ∀ i H' x H2 Gi ρi, i < xs.length → Same G1 Gi → Rel K C Gi ρi (wipe σ (slots t)) H' → J.yld i H' x H2 → ∃ d Gn, xs[i]? = some d ∧ Same Gi Gn ∧ Same Gn H2 ∧ Same H' H2 ∧ (∀ a, Gn a ≠ none → Gi a = none → H' a = none) ∧ Dp K Gn x d)
    (k : ∀ G' p accV H', Same G1 G' → Rel K C G' (back t ρ1 ρ2) σ H' → Own C G' (back t ρ1 ρ2) σ H' p accV → DpAll K G' accV ds → H1 p = none → Q (.ref p) H') :
    ∀ D, H1 D = none → ∃ W : Nat → Nat → Hp → Prop, (∃ m, W 0 m (upd H1 D (.lst []))) ∧ ∀ i m H, W i m H →
      (J.stop i H ∧ Q (.ref D) H) ∨ (J.go i H ∧ ∃ Nx : Hp → Prop, (∀ H', Nx H' → ∃ m', m' < m ∧ W (i + 1) m' H') ∧ ∀ x H', J.yld i H x H' → gOf K t x (wipe σ (slots t)) H' fun σ2 H2 => wipe σ2 (slots t) = wipe σ (slots t) ∧ rdT F K cl W0 c σ2 H2 fun b H3 =>
        if b = true then rdE F K cl W0 e σ2 H3 fun y H4 => ∃ acc, H4 D = some (.lst acc) ∧ acc.length < sizeLine ∧ Nx (upd H4 D (.lst (acc ++ [y]))) else Nx H3) := by
  intro Dl hD
  have nP : C.P Dl = none := r1.nP hD
  have nG1 : G1 Dl = none := r1.nG hD
  have nG0 : C.G0 Dl = none := r1.ex0.free nG1
  refine ⟨fun i m H' => m = xs.length - i ∧ i ≤ xs.length ∧ ∃ Gi ρi accV accD rest, Same G1 Gi ∧ Rel K C Gi ρi (wipe σ (slots t)) H' ∧ Own C Gi ρi (wipe σ (slots t)) H' Dl accV ∧ DpAll K Gi accV accD ∧ accD.length ≤ i ∧
      lcL t (evT F c) (evE F e) (xs.drop i) ρi = .ok (rest, ρ2) ∧ accD ++ rest = ds, ⟨xs.length, by simp, Nat.zero_le _, G1, clr t ρ1, [], [], ds, Same.refl _, (r1.alloc hD).clr, ⟨upd_same, nG1, nP, fun j m => r1.nM hD j (muAt_clr m)⟩, .nil, Nat.le_refl _, by rw [List.drop_zero]; exact hl, rfl⟩, ?_⟩
  rintro i m H' ⟨rfl, hi, Gi, ρi, accV, accD, rest, ex, ri, oi, da, la, hrun, hsum⟩
  by_cases hlt : i < xs.length
  · refine .inr ⟨hgo i H' Gi ρi hlt ex ri, fun H'' => _ ∧ _ ∧ _, fun H'' hN => ⟨xs.length - (i + 1), by omega, hN⟩, fun x H2 hy => ?_⟩
    obtain ⟨d, Gn, hxd, en, en2, en3, fr, dpx⟩ := hyld i H' x H2 Gi ρi hlt ex ri hy
    have rn : Rel K C Gn ρi (wipe σ (slots t)) H2 := ri.step en en2 en3 fr
    have nGn : Gn Dl = none := by
      cases q : Gn Dl with
      | none => rfl
      | some o =>
        have := fr Dl (by rw [q]; simp) oi.nG
        rw [oi.at_] at this
        cases this
    have hdrop : xs.drop i = d :: xs.drop (i + 1) := by
      obtain ⟨hl1, hl2⟩ := List.getElem?_eq_some_iff.mp hxd
      rw [List.drop_eq_getElem_cons hl1, hl2]
    rw [hdrop] at hrun
    unfold lcL at hrun
    cases htg : tgt t d ρi with
    | error er => rw [htg] at hrun; cases hrun
    | ok ρa =>
      rw [htg, bindC_ok] at hrun
      refine tgt_of htg rn (.kn dpx) fun σ2 ra hw hm => ⟨?_, ?_⟩
      · rw [hw (slots t) (fun _ z => z)]
        cases t with
        | one i0 => show (σ.set i0 none).set i0 none = σ.set i0 none; rw [List.set_set]
        | two i0 j0 =>
          show ((((σ.set j0 none).set i0 none).set j0 none).set i0 none) = (σ.set j0 none).set i0 none
          have hij : i0 ≠ j0 := by simpa [tgOk] using ht
          rw [List.set_comm _ _ hij, List.set_set, List.set_set]
      · have hw2 : wipe σ2 (slots t) = wipe σ (slots t) := by
          rw [hw (slots t) (fun _ z => z)]
          cases t with
          | one i0 => show (σ.set i0 none).set i0 none = σ.set i0 none; rw [List.set_set]
          | two i0 j0 =>
            show ((((σ.set j0 none).set i0 none).set j0 none).set i0 none) = (σ.set j0 none).set i0 none
            have hij : i0 ≠ j0 := by simpa [tgOk] using ht
            rw [List.set_comm _ _ hij, List.set_set, List.set_set]
        have hDa : H2 Dl = some (.lst accV) := en3 _ _ oi.at_
        have gd : Rel K (C.with Dl (.lst accV)) Gn ρa σ2 H2 := ra.guard hDa nGn (hm Dl oi.nM)
        cases hcv : evT F c ρa with
        | error er => rw [hcv] at hrun; cases hrun
        | ok qb =>
          obtain ⟨b, ρb⟩ := qb
          rw [hcv] at hrun
          have hrun : (if b = true then bindR (evE F e ρb) (fun p => bindR (lcL t (evT F c) (evE F e) (xs.drop (i + 1)) (clr t p.2)) fun q => .ok (p.1 :: q.1, q.2)) else lcL t (evT F c) (evE F e) (xs.drop (i + 1)) (clr t ρb)) = .ok (rest, ρ2) := hrun
          refine ⟨_, Gn, ρa, gd, ?_⟩
          rw [hcv]
          show ∀ G' H', Same Gn G' → Rel K (C.with Dl (.lst accV)) G' ρb σ2 H' → _
          intro Gb Hb eb rb
          cases b with
          | false =>
            rw [if_neg Bool.false_ne_true] at hrun
            obtain ⟨rb', hDb, nGb, nMb⟩ := Rel.unguard nP nG0 rb
            refine iteF ⟨by omega, hlt, Gb, clr t ρb, accV, accD, rest, (ex.trans en).trans eb, ?_, ⟨hDb, nGb nG0, nP, fun j m => ?_⟩, dps_mono (en.trans eb) da, by omega, hrun, hsum⟩
            · have := rb'.clr (t := t)
              rw [hw2] at this
              exact this
            · rw [← hw2] at m
              exact nMb j (muAt_clr m)
          | true =>
            rw [if_pos rfl] at hrun
            cases hev : evE F e ρb with
            | error er => rw [hev] at hrun; cases hrun
            | ok qe =>
              obtain ⟨dv, ρc⟩ := qe
              rw [hev] at hrun
              have hrun : bindR (lcL t (evT F c) (evE F e) (xs.drop (i + 1)) (clr t ρc)) (fun q => .ok (dv :: q.1, q.2)) = .ok (rest, ρ2) := hrun
              obtain ⟨qr, hqr, hqe⟩ := bindR_ok_inv hrun
              obtain ⟨rest', ρ2'⟩ := qr
              have hqe : Except.ok (dv :: rest', ρ2') = (Except.ok (rest, ρ2) : R (List D × Env)) := hqe
              have e1 : rest = dv :: rest' := by cases hqe; rfl
              have e2 : ρ2' = ρ2 := by cases hqe; rfl
              subst e1 e2
              refine iteT ⟨_, Gb, ρb, rb, ?_⟩
              rw [hev]
              show ∀ G' v H', Same Gb G' → Rel K (C.with Dl (.lst accV)) G' ρc σ2 H' → Dp K G' v dv → _
              intro Gc v Hc ec rc dv'
              obtain ⟨rc', hDc, nGc, nMc⟩ := Rel.unguard nP nG0 rc
              have oc : Own C Gc ρc σ2 Hc Dl accV := ⟨hDc, nGc nG0, nP, nMc⟩
              have hlen : accV.length = accD.length := dps_len da
              refine ⟨accV, hDc, ?_, by omega, hlt, Gc, clr t ρc, accV ++ [v], accD ++ [dv], rest', ((ex.trans en).trans eb).trans ec, ?_, ⟨upd_same, nGc nG0, nP, fun j m => ?_⟩, dps_append (dps_mono ((en.trans eb).trans ec) da) (dps_one dv'), ?_, hqr, by rw [List.append_assoc]; exact hsum⟩
              · have : LIM ≤ sizeLine := by decide
                omega
              · have := (rc'.poke (ys := accV ++ [v]) oc).clr (t := t)
                rw [hw2] at this
                exact this
              · rw [← hw2] at m
                exact nMc j (muAt_clr m)
              · rw [List.length_append, List.length_singleton]
                omega
  · have ei : i = xs.length := by omega
    subst ei
    rw [List.drop_length] at hrun
    cases hrun
    rw [List.append_nil] at hsum
    subst hsum
    refine .inl ⟨hstop H' Gi _ ex ri, k Gi Dl accV H' ex (ri.back r1 ex ht) ⟨oi.at_, oi.nG, oi.nP, fun j m => oi.nM j (muAt_backT m)⟩ da hD⟩
theorem lcv_imp (ht : tgOk t = true) {s : Nat} (σ : L2.St) (H : Hp) (Q : VK) (h : rdF F K cl W (.lcv t s c e) σ H Q) : tLc (iSeq K (tVar s)) (gOf K t) (rdT F K cl W0 c) (rdE F K cl W0 e) (slots t) σ H Q := by
  obtain ⟨C, G, ρ, r, h⟩ := h
  unfold evE at h
  cases hc : ρ[s]? with
  | none => rw [hc] at h; exact h.elim
  | some cc =>
    rw [hc] at h
    cases cc with
    | mu xs =>
      have h : Out C cl W σ (if xs.length < LIM then bindR (calmR (lcL t (evT F c) (evE F e) xs (clr t (ρ.set s .no)))) (fun q => (Except.ok (PyData.list q.1, (back t (ρ.set s .no) q.2).set s (.mu xs)) : R (D × Env))) else stk) _ := h
      by_cases hlim : xs.length < LIM
      · rw [if_pos hlim] at h
        cases hq : calmR (lcL t (evT F c) (evE F e) xs (clr t (ρ.set s .no))) with
        | error er =>
          have : er = .stuck := by
            cases hl : lcL t (evT F c) (evE F e) xs (clr t (ρ.set s .no)) with
            | ok a => rw [hl] at hq; cases hq
            | error x => rw [hl] at hq; cases hq; rfl
          subst this
          rw [hq] at h
          exact h.elim
        | ok q =>
          rw [hq] at h
          have hl := calm_ok hq
          obtain ⟨ds, ρ2⟩ := q
          obtain ⟨ds', ed, k⟩ := h
          have ed : ds = ds' := by cases ed; rfl
          subst ed
          obtain ⟨p, vs, hσ, h1, h2, h3, h4⟩ := r.muAt hc (by rfl)
          have hs : s < σ.length := (List.getElem?_eq_some_iff.mp hσ).1
          have eσ : σ.set s (some (V.ref p)) = σ := by
            apply List.ext_getElem?
            intro j
            by_cases hj : s = j
            · subst hj
              rw [List.getElem?_set_self hs, hσ]
            · rw [List.getElem?_set_ne hj]
          have hn : ∀ j, ¬ MuAt (ρ.set s .no) σ j p := fun j m => by
            by_cases hj : j = s
            · subst hj
              obtain ⟨c', es, q1, q2, _⟩ := m
              have hlt : j < ρ.length := by
                have := (List.getElem?_eq_some_iff.mp q1).1
                simpa using this
              rw [List.getElem?_set_self hlt] at q1
              cases q1
              cases q2
            · exact r.apart j s p hj (muAt_set1 m hj) ⟨_, _, hc, rfl, hσ⟩
          have r0 : Rel K C G (ρ.set s .no) σ H := by
            have := r.setNo s (some (.ref p))
            rw [eσ] at this
            exact this
          have nG0 : C.G0 p = none := r.ex0.free h3
          have rg := r0.guard h1 h3 hn
          have atp : ∀ {Gi : Hp} {ρi : Env} {σi : L2.St} {H' : Hp}, Rel K (C.with p (.lst vs)) Gi ρi σi H' → SqL K H' p vs := fun ri => SqL.of (ri.exP p _ upd_same)
          refine ⟨.ref p, hσ, .inl ⟨p, vs, rfl, SqL.of h1, ?_⟩⟩
          have hlen : vs.length = xs.length := dps_len h2
          refine lc_loop (cl := cl) ht rg hlim hl (fun i H' Gi ρi hi e1 ri => walk_list.goes i H' (by omega) (atp ri)) (fun H' Gi ρi e1 ri => by rw [← hlen]; exact walk_list.stops H' (atp ri)) (fun i H' x H2 Gi ρi hi e1 ri hy => ?_) (fun G' pn accV H' e1 r1 o hx hD => ?_)
          · obtain ⟨rfl, hxx⟩ := walk_list.yields i H' x H2 (by omega) (atp ri) hy
            obtain ⟨d, w1, w2⟩ := dps_get' h2 hxx
            exact ⟨d, Gi, w1, Same.refl _, ri.exG, Same.refl _, fun a q z => absurd z q, dp_mono e1 w2⟩
          · obtain ⟨ru, hp, ng, nm⟩ := Rel.unguard h4 nG0 r1
            have hne : pn ≠ p := fun z => by
              rw [z, h1] at hD
              cases hD
            have op : Own C G' (back t (ρ.set s .no) ρ2) σ H' p vs := ⟨hp, ng nG0, h4, nm⟩
            have rs := ru.setMu s op (dps_mono e1 h2)
            rw [eσ] at rs
            refine k G' pn accV H' e1 rs ⟨o.at_, o.nG, ?_, fun j m => ?_⟩ hx
            · have z : upd C.P p (.lst vs) pn = none := o.nP
              rw [upd_ne hne] at z
              exact z
            · by_cases hj : j = s
              · subst hj
                obtain ⟨_, _, _, _, z⟩ := m
                rw [hσ] at z
                cases z
                exact hne rfl
              · exact o.nM j (muAt_set1 m hj)
      · rw [if_neg hlim] at h
        exact h.elim
    | _ => exact h.elim
theorem f_lcv (hK : X.K = K) (ht : tgOk t = true) {s : Nat} {x : Str} {p : Pos} (hx : X.N[s]? = some x) (hv : Vis X.env.scope x) (hd : (x == ("__debug__" : Str)) = false) (hcd : (x == ("__classdict__" : Str)) = false) (hc : X.calm = true) (hN : X.N.Nodup) (ok : BlkOk X.N X.env.scope scope own) (ho : own.map (·.2) = slots t)
    (hg : ∀ (s : Shared) (H : Hp) (C : Addr) (cl : List (Str × Addr)) (fp : List Addr), PG (X.blk s H scope (compEnvC scope cl C X.env) fp) tg (gOf K t)) (hts : ∀ (s : Shared) (H : Hp) (C : Addr) (cl' : List (Str × Addr)) (fp : List Addr), PTs (X.blk s H scope (compEnvC scope cl' C X.env) fp) ifs (rdT F K cl W0 c))
    (he : ∀ (s : Shared) (H : Hp) (C : Addr) (cl' : List (Str × Addr)) (fp : List Addr), PE (X.blk s H scope (compEnvC scope cl' C X.env) fp) elt (rdE F K cl W0 e)) :
    PE X (.ListComp elt [⟨tg, .Name x p, ifs, 0⟩] scope pos) (rdF F K cl W (.lcv t s c e)) := by
  have hi : PI X tg (.Name x p) (iSeq X.K (tVar s)) := pi_seq (pe_var hx hv hd hcd)
  rw [hK] at hi
  have h := pe_lc (pos := pos) hc hN hi ok hg hts he (fun _ => rfl)
  rw [ho] at h
  exact PE.imp h (lcv_imp ht)
theorem lcv_list' {ρ ρ' : Env} {d : D} {s : Nat} (h : evE F (.lcv t s c e) ρ = .ok (d, ρ')) : ∃ ds, d = .list ds := by
  unfold evE at h
  split at h
  · split at h
    · obtain ⟨z, _, h⟩ := bindR_ok_inv h
      cases h
      exact ⟨_, rfl⟩
    · cases h
  · cases h
theorem f_lc (ht : tgOk t = true) (hc : X.calm = true) (hN : X.N.Nodup) (hi : PI X tg iter (rdI F K cl W t it)) (ok : BlkOk X.N X.env.scope scope own) (ho : own.map (·.2) = slots t)
    (hg : ∀ (s : Shared) (H : Hp) (C : Addr) (cl : List (Str × Addr)) (fp : List Addr), PG (X.blk s H scope (compEnvC scope cl C X.env) fp) tg (gOf K t)) (hts : ∀ (s : Shared) (H : Hp) (C : Addr) (cl' : List (Str × Addr)) (fp : List Addr), PTs (X.blk s H scope (compEnvC scope cl' C X.env) fp) ifs (rdT F K cl W0 c))
    (he : ∀ (s : Shared) (H : Hp) (C : Addr) (cl' : List (Str × Addr)) (fp : List Addr), PE (X.blk s H scope (compEnvC scope cl' C X.env) fp) elt (rdE F K cl W0 e)) (hs : ∀ x, foldedSetIterable iter X.env x = pure x) :
    PE X (.ListComp elt [⟨tg, iter, ifs, 0⟩] scope pos) (rdF F K cl W (.lc t it c e)) := by
  have h := pe_lc (pos := pos) hc hN hi ok hg hts he hs
  rw [ho] at h
  exact PE.imp h (lc_imp ht)
theorem lc_list' {ρ ρ' : Env} {d : D} (h : evE F (.lc t it c e) ρ = .ok (d, ρ')) : ∃ ds, d = .list ds := by
  unfold evE at h
  obtain ⟨q, _, h⟩ := bindR_ok_inv h
  have h : (if q.1.length < LIM then bindR (calmR (lcL t (evT F c) (evE F e) q.1 (clr t q.2))) (fun z => (Except.ok (PyData.list z.1, back t q.2 z.2) : R (D × Env))) else stk) = .ok (d, ρ') := h
  split at h
  · obtain ⟨z, _, h⟩ := bindR_ok_inv h
    cases h
    exact ⟨_, rfl⟩
  · cases h
end
end Ft
/-! FtStmt: statements. -/
namespace Ft
open PySem PySem.Spec PyProof.Rows L2 RZ
abbrev WEx (E : XK) : WX := fun c d _ H => E c d H
def ResOk (K : PySem.W.Frag) (C : RC) (G : Hp) (D : Ends) (r : Res) (ρ' : Env) : Prop := match r with
  | .nx => ∀ σ' G' H', Same G G' → Rel K C G' ρ' σ' H' → D.nx σ' H'
  | .rt d => ∀ σ' G' v H', Rel K C G' ρ' σ' H' → Dp K G' v d → D.rt v H'
theorem ResOk.same {K : PySem.W.Frag} {C : RC} {G G1 : Hp} {D : Ends} {r : Res} {ρ' : Env} (h : ResOk K C G D r ρ') (e : Same G G1) : ResOk K C G1 D r ρ' := by
  cases r with
  | nx => exact fun σ' G' H' e1 r1 => h σ' G' H' (e.trans e1) r1
  | rt d => exact h
def rdS (F : Fns) (fuel : Nat) (K : PySem.W.Frag) (cl : Str → Addr) (E : XK) (s : S) : TS := fun D σ H => ∃ C G ρ, Rel K C G ρ σ H ∧ Out C cl (WEx E) σ (evS F fuel s ρ) (ResOk K C G D)
theorem Out.st {C : RC} {cl : Str → Addr} {E : XK} {σ σ' : L2.St} {α : Type} {r : R (α × Env)} {k : α → Env → Prop} (h : Out C cl (WEx E) σ r k) : Out C cl (WEx E) σ' r k := by
  cases r with
  | ok q => exact h
  | error e => cases e <;> exact h
theorem PS.imp {X : Cx} {e : Stmt} {t t' : TS} (h : PS X e t) (w : ∀ D σ H, t' D σ H → t D σ H) : PS X e t' := ⟨fun pins s σ H D I q => h.run pins s σ H D I (w D σ H q)⟩
theorem PSs.imp {X : Cx} {e : List Stmt} {t t' : TS} (h : PSs X e t) (w : ∀ D σ H, t' D σ H → t D σ H) : PSs X e t' := ⟨fun pins s σ H D I q => h.run pins s σ H D I (w D σ H q)⟩
def notComp : Expr → Bool
  | .ListComp _ _ _ _ => false
  | .SetComp _ _ _ _ => false
  | .DictComp _ _ _ _ _ => false
  | _ => true
theorem swaps_no {e : Expr} {t : Option Expr} {l : Nat} {env : PySem.Env} (h : notComp e = true) : swapsWith e t l env = pure false := by
  cases e <;> first | rfl | cases h
section
variable {F : Fns} {fuel : Nat} {K : PySem.W.Frag} {cl : Str → Addr} {E : XK} {X : Cx} {a b e t it c : Ft.E} {s1 s2 : S} {ea eb ee ec tg iter : Expr} {st : Stmt} {sts sts2 : List Stmt} {pos p p2 tpos apos : Pos} {x y : Str} {i j s : Nat}
theorem p_skip : PSs X [] (rdS F fuel K cl E .skip) := PSs.imp pss_nil fun D σ H ⟨C, G, ρ, r, h⟩ => by
  unfold evS at h
  exact h σ G H (Same.refl G) r
theorem p_seq (h1 : PS X st (rdS F fuel K cl E s1)) (h2 : PSs X sts (rdS F fuel K cl E s2)) : PSs X (st :: sts) (rdS F fuel K cl E (.seq s1 s2)) := by
  refine PSs.imp (pss_cons h1 h2) fun D σ H ⟨C, G, ρ, r, h⟩ => ⟨C, G, ρ, r, ?_⟩
  unfold evS at h
  refine h.bind.mono fun q ρ1 _ h3 => ?_
  cases q with
  | nx => exact fun σ' G' H' e1 r1 => ⟨C, G', ρ1, r1, Out.mono (Out.st h3) fun q ρ2 _ k => k.same e1⟩
  | rt d => exact h3
theorem p_set {te : TE} (hN : X.N.Nodup) (hi : X.N[i]? = some x) (hx : Loc X.env.scope x) (he : PE X ee te) (hs : swapsWith ee (some (.Name x p)) pos.line X.env = pure false) (hf : X.fn x = true ∨ X.env.scope.names.lookup x = some .local) : PS X (.Assign [.Name x p] ee pos) (tAsg te (gName i)) := ps_set hN hi hx he hs hf
theorem asg_imp (D : Ends) (σ : L2.St) (H : Hp) (h : rdS F fuel K cl E (.asg i e) D σ H) : tAsg (rdE F K cl (WEx E) e) (gName i) D σ H := by
  obtain ⟨C, G, ρ, r, h⟩ := h
  refine ⟨C, G, ρ, r, ?_⟩
  unfold evS at h
  exact h.bind.mono fun d ρ1 _ h1 G1 v1 H1 e1 r1 d1 => h1 _ G1 H1 e1 (r1.setIm i d1)
theorem asgF_imp (D : Ends) (σ : L2.St) (H : Hp) (h : rdS F fuel K cl E (.asgF i e) D σ H) : tAsg (rdF F K cl (WEx E) e) (gName i) D σ H := by
  obtain ⟨C, G, ρ, r, h⟩ := h
  refine ⟨C, G, ρ, r, ?_⟩
  unfold evS at h
  refine h.bind.mono fun d ρ1 _ h1 => ?_
  obtain ⟨c, hc, h2⟩ := Out.bindc h1
  cases d with
  | list ds =>
    cases hc
    exact ⟨ds, rfl, fun G1 p xs H1 e1 r1 o hx => h2 _ G1 H1 e1 (r1.setMu i o hx)⟩
  | _ => cases hc
theorem p_asg (hN : X.N.Nodup) (hi : X.N[i]? = some x) (hx : Loc X.env.scope x) (he : PE X ee (rdE F K cl (WEx E) e)) (hs : swapsWith ee (some (.Name x p)) pos.line X.env = pure false) (hf : X.fn x = true ∨ X.env.scope.names.lookup x = some .local) : PS X (.Assign [.Name x p] ee pos) (rdS F fuel K cl E (.asg i e)) :=
  PS.imp (ps_set hN hi hx he hs hf) asg_imp
theorem p_asgF (hN : X.N.Nodup) (hi : X.N[i]? = some x) (hx : Loc X.env.scope x) (he : PE X ee (rdF F K cl (WEx E) e)) (hs : swapsWith ee (some (.Name x p)) pos.line X.env = pure false) (hf : X.fn x = true ∨ X.env.scope.names.lookup x = some .local) : PS X (.Assign [.Name x p] ee pos) (rdS F fuel K cl E (.asgF i e)) :=
  PS.imp (ps_set hN hi hx he hs hf) asgF_imp
/-! ### two at once -/
def rdX (F : Fns) (K : PySem.W.Frag) (cl : Str → Addr) (W : WX) (fr : Bool) (e : Ft.E) : TE := if fr then rdF F K cl W e else rdE F K cl W e
/-- what a value of either mode is -/
def GotX (K : PySem.W.Frag) (C : RC) (G : Hp) (ρ : Env) (σ : L2.St) (H : Hp) (fr : Bool) (d : D) (v : V) : Prop := match fr with
  | false => Dp K G v d
  | true => ∃ ds p xs, d = .list ds ∧ v = .ref p ∧ Own C G ρ σ H p xs ∧ DpAll K G xs ds
theorem rdX_of {W : WX} {fr : Bool} {C : RC} {G H : Hp} {ρ : Env} {σ : L2.St} {Q : VK} (r : Rel K C G ρ σ H) (h : Out C cl W σ (evE F e ρ) (fun d ρ' => (∃ c, sto fr d = .ok c) ∧ ∀ G' v H', Same G G' → Rel K C G' ρ' σ H' → GotX K C G' ρ' σ H' fr d v → Q v H')) : rdX F K cl W fr e σ H Q := by
  cases fr with
  | false => exact ⟨C, G, ρ, r, h.mono fun d ρ' _ k G' v H' e1 r1 d1 => k.2 G' v H' e1 r1 d1⟩
  | true =>
    refine ⟨C, G, ρ, r, h.mono fun d ρ' _ k => ?_⟩
    obtain ⟨⟨c, hc⟩, k⟩ := k
    cases d with
    | list ds => exact ⟨ds, rfl, fun G' p xs H' e1 r1 o hx => k G' _ H' e1 r1 ⟨ds, p, xs, rfl, rfl, o, hx⟩⟩
    | _ => cases hc
/-- set a slot by a value of either mode -/
theorem Rel.setX {C : RC} {G H : Hp} {ρ : Env} {σ : L2.St} {fr : Bool} {d : D} {v : V} {c : Cell} (r : Rel K C G ρ σ H) (i : Nat) (g : GotX K C G ρ σ H fr d v) (hc : sto fr d = .ok c) : Rel K C G (ρ.set i c) (σ.set i (some v)) H := by
  cases fr with
  | false =>
    cases hc
    exact r.setIm i g
  | true =>
    obtain ⟨ds, p, xs, rfl, rfl, o, hx⟩ := g
    cases hc
    exact r.setMu i o hx
theorem par_core {fi fj : Bool} {Q : V → V → Hp → Prop} {C : RC} {G H : Hp} {ρ : Env} {σ : L2.St} {k : Res → Env → Prop} (r : Rel K C G ρ σ H)
    (h : Out C cl (WEx E) σ (bindR (evE F a ρ) fun z => bindC (sto fi z.1) fun c => bindR (evE F b z.2) fun w => bindC (sto fj w.1) fun c' => .ok (.nx, (w.2.set i c).set j c')) k)
    (q : ∀ v w G2 H2 ρ' σ', σ' = (σ.set i (some v)).set j (some w) → Same G G2 → Rel K C G2 ρ' σ' H2 → k .nx ρ' → Q v w H2) :
    rdX F K cl (WEx E) fi a σ H fun v H1 => rdX F K cl (WEx E) fj b σ H1 fun w H2 => Q v w H2 := by
  refine rdX_of r (h.bind.mono fun x ρ1 _ h1 => ?_)
  obtain ⟨c, hc, h2⟩ := Out.bindc h1
  refine ⟨⟨c, hc⟩, fun G1 v H1 e1 r1 g1 => ?_⟩
  cases fi with
  | false =>
    refine rdX_of r1 (h2.bind.mono fun y ρ2 _ h3 => ?_)
    obtain ⟨c', hc', h4⟩ := Out.bindc h3
    exact ⟨⟨c', hc'⟩, fun G2 w H2 e2 r2 g2 => by
      cases hc
      have g1' : Dp K G1 v x := g1
      cases fj with
      | false =>
        cases hc'
        exact q v w G2 H2 _ _ rfl (e1.trans e2) ((r2.setIm i (dp_mono e2 g1')).setIm j g2) h4
      | true =>
        obtain ⟨ds, pp, xs, rfl, rfl, o, hx⟩ := g2
        cases hc'
        have o' : Own C G2 (ρ2.set i (.im x)) (σ.set i (some v)) H2 pp xs := ⟨o.at_, o.nG, o.nP, fun m z => by
          by_cases hm : m = i
          · subst hm
            obtain ⟨cc, es, q1, q2, _⟩ := z
            have hl : m < ρ2.length := by
              have := (List.getElem?_eq_some_iff.mp q1).1
              simpa using this
            rw [List.getElem?_set_self hl] at q1
            cases q1
            cases q2
          · exact o.nM m (muAt_set z hm)⟩
        exact q v _ G2 H2 _ _ rfl (e1.trans e2) ((r2.setIm i (dp_mono e2 g1')).setMu j o' hx) h4⟩
  | true =>
    obtain ⟨ds, pp, xs, rfl, rfl, o, hx⟩ := g1
    cases hc
    have nG0 : C.G0 pp = none := r1.ex0.free o.nG
    have gd := r1.guard o.at_ o.nG o.nM
    refine rdX_of gd ((Out.rc (C' := C.with pp (.lst xs)) h2 fun H' z => Same.with o.nP z).bind.mono fun y ρ2 _ h3 => ?_)
    obtain ⟨c', hc', h4⟩ := Out.bindc h3
    exact ⟨⟨c', hc'⟩, fun G2 w H2 e2 r2 g2 => by
      obtain ⟨r2', hp, ng, nm⟩ := Rel.unguard o.nP nG0 r2
      have o2 : Own C G2 ρ2 σ H2 pp xs := ⟨hp, ng nG0, o.nP, nm⟩
      have r3 := r2'.setMu i o2 (dps_mono e2 hx)
      cases fj with
      | false =>
        cases hc'
        exact q _ w G2 H2 _ _ rfl (e1.trans e2) (r3.setIm j g2) h4
      | true =>
        obtain ⟨ds2, p2', xs2, rfl, rfl, o3, hx2⟩ := g2
        cases hc'
        have hne : p2' ≠ pp := fun z => by
          have h5 := o3.nP
          rw [z] at h5
          have h6 : (C.with pp (.lst xs)).P pp = some (.lst xs) := upd_same
          rw [h6] at h5
          cases h5
        have o4 : Own C G2 (ρ2.set i (.mu ds)) (σ.set i (some (.ref pp))) H2 p2' xs2 := ⟨o3.at_, o3.nG, by
          have h5 : upd C.P pp (.lst xs) p2' = none := o3.nP
          rw [upd_ne hne] at h5
          exact h5, fun m z => by
          by_cases hm : m = i
          · subst hm
            obtain ⟨cc, es, q1, q2, q3⟩ := z
            have hl : m < σ.length := by
              have := (List.getElem?_eq_some_iff.mp q3).1
              simpa using this
            rw [List.getElem?_set_self hl] at q3
            cases q3
            exact hne rfl
          · exact o3.nM m (muAt_set z hm)⟩
        exact q _ _ G2 H2 _ _ rfl (e1.trans e2) (r3.setMu j o4 hx2) h4⟩
/-- stored from the right, without a tuple -/
theorem p_par {fi fj : Bool} {px py pt pt2 : Pos} {kt k2 : Nat} (hc : X.calm = true) (hN : X.N.Nodup) (hi : X.N[i]? = some x) (hj : X.N[j]? = some y) (hij : i ≠ j) (hx : X.env.scope.names.lookup x = some .local) (hy : X.env.scope.names.lookup y = some .local)
    (ha : PE X ea (rdX F K cl (WEx E) fi a)) (hb : PE X eb (rdX F K cl (WEx E) fj b)) (hs1 : nostar ea = true) (hs2 : nostar eb = true) (hw : swappedStores [.Tuple [.Name x px, .Name y py] kt pt] (.Tuple [ea, eb] k2 pt2) X.env = pure (some [x, y])) :
    PS X (.Assign [.Tuple [.Name x px, .Name y py] kt pt] (.Tuple [ea, eb] k2 pt2) pos) (rdS F fuel K cl E (.par2 i j fi fj a b)) := by
  refine PS.imp (ps_par hc hN hi hj hij hx hy (pa_cons ha (pa_cons hb pa_nil (star_cons hs2)) (star_cons hs1)) hw rfl) fun D σ H ⟨C, G, ρ, r, h⟩ => ?_
  unfold evS at h
  exact par_core r h fun v w G2 H2 ρ' σ' es e2 r2 k => ⟨v, w, rfl, by subst es; exact k _ G2 H2 e2 r2⟩
/-- a tuple is made and taken apart -/
theorem p_parT {fi fj : Bool} {px py pt pt2 : Pos} {kt k2 : Nat} (hK : X.K = K) (hc : X.calm = true) (hN : X.N.Nodup) (hgx : PG X (.Name x px) (gName i)) (hgy : PG X (.Name y py) (gName j))
    (ha : PE X ea (rdX F K cl (WEx E) fi a)) (hb : PE X eb (rdX F K cl (WEx E) fj b)) (hs1 : nostar ea = true) (hs2 : nostar eb = true) (hw : swappedStores [.Tuple [.Name x px, .Name y py] kt pt] (.Tuple [ea, eb] k2 pt2) X.env = pure none) :
    PS X (.Assign [.Tuple [.Name x px, .Name y py] kt pt] (.Tuple [ea, eb] k2 pt2) pos) (rdS F fuel K cl E (.par2 i j fi fj a b)) := by
  refine PS.imp (ps_asg (pe_tup (pa_cons ha (pa_cons hb pa_nil (star_cons hs2)) (star_cons hs1))) (pg_tup hc (pgs_cons hgx (pgs_cons hgy pgs_nil rfl) rfl) rfl rfl) rfl hw rfl) fun D σ H ⟨C, G, ρ, r, h⟩ => ?_
  unfold evS at h
  exact par_core r h fun v w G2 H2 ρ' σ' es e2 r2 k => ⟨by show 2 ≤ sizeLine; decide, fun pt hpt => by
    refine ⟨pt, [v, w], rfl, SqT.of upd_same, rfl, v, [w], rfl, w, [], rfl, rfl, ?_⟩
    subst es
    exact k _ G2 _ e2 (r2.alloc hpt)⟩
theorem p_unp {px py pt : Pos} {kt : Nat} (hK : X.K = K) (hc : X.calm = true) (hgx : PG X (.Name x px) (gName i)) (hgy : PG X (.Name y py) (gName j)) (he : PE X ee (rdE F K cl (WEx E) e)) (hs : swapsWithSole [.Tuple [.Name x px, .Name y py] kt pt] ee pos.line X.env = pure false) (hw : swappedStores [.Tuple [.Name x px, .Name y py] kt pt] ee X.env = pure none) :
    PS X (.Assign [.Tuple [.Name x px, .Name y py] kt pt] ee pos) (rdS F fuel K cl E (.unp i j e)) := by
  refine PS.imp (ps_asg he (pg_tup hc (pgs_cons hgx (pgs_cons hgy pgs_nil rfl) rfl) rfl rfl) hs hw rfl) fun D σ H ⟨C, G, ρ, r, h⟩ => ⟨C, G, ρ, r, ?_⟩
  unfold evS at h
  refine h.bind.mono fun d ρ1 _ h1 G1 v1 H1 e1 r1 d1 => ?_
  obtain ⟨ρ2, h2, h3⟩ := Out.bindc h1
  have hg : gOf K (.two i j) v1 σ H1 D.nx := tgt_of h2 r1 (.kn d1) fun σ' r2 _ _ => h3 σ' G1 H1 e1 r2
  rw [hK]
  exact hg
/-! ### op= on ints -/
def ipOf (X : Cx) (op : Operator) (o : Bi) : Prop := PIp X op (fun x y H Q => ∃ (u w z : D), binD o u w = .ok z ∧ (∃ m n l, u = .int m ∧ w = .int n ∧ z = .int l ∧ x = .int m ∧ y = .int n ∧ Q (.int l) H))
theorem ip_of {X : Cx} {op : Operator} {o : Bi} {r : R2} (ho : OpR X (inplaceOp op) r) (hr : ∀ {m n l : Int} {H : Hp} {Q : VK}, binD o (.int m) (.int n) = .ok (.int l) → Q (.int l) H → r (.int m) (.int n) H Q) : ipOf X op o := by
  intro pins s σ H x y v u Q I rx ry h
  obtain ⟨u', w, z, hz, m, n, l, rfl, rfl, rfl, rfl, rfl, q⟩ := h
  exact ho pins s σ H _ _ v u Q I rx ry (hr hz q)
theorem if_ok {α : Type} {c : Prop} [Decidable c] {a b : α} (h : (if c then Except.ok a else (stk : R α)) = .ok b) : c ∧ a = b := by
  split at h
  · rename_i hc; cases h; exact ⟨hc, rfl⟩
  · cases h
theorem augD_inv {o : Bi} {x y z : D} (h : augD o x y = .ok z) : ∃ m n l, x = .int m ∧ y = .int n ∧ z = .int l ∧ binD o (.int m) (.int n) = .ok (.int l) := by
  cases x with
  | int m =>
    cases y with
    | int n =>
      have h : binD o (.int m) (.int n) = .ok z := h
      have key : ∃ l, z = .int l := by
        cases o <;> first | (cases h; exact ⟨_, rfl⟩) | (have h' := (if_ok h).2; cases h'; exact ⟨_, rfl⟩)
      obtain ⟨l, rfl⟩ := key
      exact ⟨m, n, l, rfl, rfl, rfl, h⟩
    | _ => cases h
  | _ => cases y <;> cases h
theorem ip_add' : ipOf X .Add .add := ip_of iop_add fun {m n l H Q} hz q => by cases hz; exact ⟨m, n, rfl, rfl, q⟩
theorem ip_sub' : ipOf X .Sub .sub := ip_of iop_sub fun {m n l H Q} hz q => by cases hz; exact ⟨m, n, rfl, rfl, q⟩
def rMulI : R2 := rI CMulA fun i j => .int (i * j)
theorem iop_mulW : OpR X (inplaceOp .Mult) (rI CMulW fun i j => .int (i * j)) := opI fun _ _ _ _ _ _ _ hc q => imul_int q hc.ok
theorem iop_mulA : OpR X (inplaceOp .Mult) rMulI := by
  intro pins s σ H x y v u Q I rx ry h
  obtain ⟨i, j, e1, e2, hc, q⟩ := h
  rcases hc with hc | hc
  · exact iop_mul pins s σ H x y v u Q I rx ry ⟨i, j, e1, e2, hc, q⟩
  · exact iop_mulW pins s σ H x y v u Q I rx ry ⟨i, j, e1, e2, hc, q⟩
theorem ip_mul' : ipOf X .Mult .mul := ip_of iop_mulA fun {m n l H Q} hz q => by
  obtain ⟨hc, e⟩ := if_ok hz
  cases e
  exact ⟨m, n, rfl, rfl, mulA_of hc, q⟩
theorem ip_bor' : ipOf X .BitOr .bor := ip_of iop_or fun {m n l H Q} hz q => by cases hz; exact ⟨m, n, rfl, rfl, q⟩
theorem p_aug {op : Operator} {o : Bi} (ho : ipOf X op o) (hN : X.N.Nodup) (hi : X.N[i]? = some x) (hx : Loc X.env.scope x) (he : PE X ee (rdE F K cl (WEx E) e)) (hf : X.fn x = true ∨ X.env.scope.names.lookup x = some .local) : PS X (.AugAssign (.Name x p) op ee pos) (rdS F fuel K cl E (.aug i o e)) := by
  refine PS.imp (ps_aug hN hi hx he ho hf) fun D σ H ⟨C, G, ρ, r, h⟩ => ?_
  unfold evS at h
  cases hc : ρ[i]? with
  | none => rw [hc] at h; exact h.elim
  | some c =>
    rw [hc] at h
    cases c with
    | im d =>
      obtain ⟨v, e1, dv⟩ := r.imAt hc
      refine ⟨v, e1, C, G, ρ, r, ?_⟩
      refine Out.mono (Out.bind h) fun y ρ1 _ h1 G1 v1 H1 e2 r1 d1 => ?_
      obtain ⟨z, hz, h2⟩ := Out.bindc h1
      obtain ⟨m, n, l, rfl, rfl, rfl, hb⟩ := augD_inv hz
      cases dv
      cases d1
      exact ⟨_, _, _, hb, m, n, l, rfl, rfl, rfl, rfl, rfl, h2 _ G1 H1 e2 (r1.setIm i (.int l))⟩
    | _ => exact h.elim
/-! ### x[i] = e, x.append(e), expressions, return -/
theorem p_setx (hN : X.N[s]? = some x) (hv : Vis X.env.scope x) (hd : (x == ("__debug__" : Str)) = false) (hc : (x == ("__classdict__" : Str)) = false) (he : PE X ee (rdE F K cl (WEx E) e)) (hi : PE X eb (rdE F K cl (WEx E) b)) (hns : noslice eb = true) (hs : swapsWithSole [.Subscript (.Name x p) eb p2] ee pos.line X.env = pure false) :
    PS X (.Assign [.Subscript (.Name x p) eb p2] ee pos) (rdS F fuel K cl E (.setx s b e)) := by
  have ha : ∀ v, assign (.Subscript (.Name x p) eb p2) X.env v = (do
      let ov ← holding [v] (eval (.Name x p) X.env)
      let iv ← holding [v, ov] (eval eb X.env)
      standAt p2
      holding [v, ov, iv] (setItem ov iv v)
      release [v, ov, iv] []) := fun v => by cases eb <;> first | rfl | cases hns
  refine PS.imp (ps_asg he (pg_sub (pe_var hN hv hd hc) hi set_list ha) hs rfl rfl) fun D σ H ⟨C, G, ρ, r, h⟩ => ⟨C, G, ρ, r, ?_⟩
  unfold evS at h
  refine h.bind.mono fun d ρ1 _ h1 G1 v1 H1 e1 r1 d1 => ?_
  obtain ⟨q0, hq0, h2⟩ := Out.bindc h1
  obtain ⟨c0, j1, j2, _⟩ := lstAt_cases hq0
  obtain ⟨pp, xs0, hpp, hx0, _⟩ := r1.muAt j1 j2
  refine ⟨.ref pp, hpp, C, G1, ρ1, r1, ?_⟩
  refine Out.mono (Out.bind h2) fun y ρ2 _ h3 G2 v2 H2 e2 r2 d2 => ?_
  obtain ⟨k, hk, h4⟩ := Out.bindc h3
  cases y with
  | int k' =>
    cases hk
    cases d2
    obtain ⟨q1, hq1, h5⟩ := Out.bindc h4
    obtain ⟨c1, k1, k2, k3⟩ := lstAt_cases hq1
    obtain ⟨p', xs, w1, w2, w3, w4, w5⟩ := r2.muAt k1 k2
    rw [hpp] at w1
    cases w1
    obtain ⟨j, hj, h6⟩ := Out.bindc h5
    obtain ⟨hb, ej⟩ := if_ok hj
    subst ej
    have hl := dps_len w3
    refine ⟨pp, xs, k, k.toNat, rfl, rfl, w2, by unfold ixN; rw [if_pos hb.1, if_pos (by omega)], ?_⟩
    exact h6 σ G2 _ (e1.trans e2) (r2.write k1 k2 hpp (k3 _) (dps_set _ w3 (dp_mono e2 d1)))
  | _ => cases hk
theorem p_app (hN : X.N[s]? = some x) (hv : Vis X.env.scope x) (hd : (x == ("__debug__" : Str)) = false) (hc : (x == ("__classdict__" : Str)) = false) (he : PE X ee (rdE F K cl (WEx E) e)) (hs : nostar ee = true) (hline : (apos.endLine == p2.line) = true) :
    PS X (.Expr (.Call (.Attribute (.Name x p) "append" apos) [ee] [] p2) pos) (rdS F fuel K cl E (.app s e)) := by
  have hfew : ((backTo p2 (starEach [ee] X.env)).all (fun x => !x.1) && (backToKw p2 (keywordEach [] X.env)).all (fun x => x.1.isSome) && decide ([ee].length + ([] : List Keyword).length + (if ([] : List Keyword).isEmpty then 0 else 1) < 30)) = true := by
    rw [star_cons hs]
    rfl
  refine PS.imp (ps_expr (pe_bm PySem.F.plainAttrs_list PySem.F.slot_list_append PySem.F.type_list_append mt_append (pe_var hN hv hd hc) (pa_cons he pa_nil (star_cons hs)) (hbase := attr_name) (hfew := hfew) (hline := hline) (hs := star_cons hs) (hplain := rfl)) rfl) fun D σ H ⟨C, G, ρ, r, h⟩ => ?_
  unfold evS at h
  obtain ⟨q0, hq0, h⟩ := Out.bindc h
  obtain ⟨c0, j1, j2, _⟩ := lstAt_cases hq0
  obtain ⟨pp, xs0, hpp, hx0, _⟩ := r.muAt j1 j2
  refine ⟨.ref pp, hpp, .inl ⟨rfl, _, SqL.of hx0⟩, C, G, ρ, r, ?_⟩
  refine Out.mono (Out.bind h) fun d ρ1 _ h2 G2 v2 H2 e2 r2 d2 => ?_
  obtain ⟨q1, hq1, h5⟩ := Out.bindc h2
  obtain ⟨c1, k1, k2, k3⟩ := lstAt_cases hq1
  obtain ⟨p', xs, w1, w2, w3, w4, w5⟩ := r2.muAt k1 k2
  rw [hpp] at w1
  cases w1
  have hl := dps_len w3
  have h5 : Out C cl (WEx E) σ (if q1.1.length < LIM then .ok (.nx, ρ1.set s (q1.2 (q1.1 ++ [d]))) else stk) (ResOk K C G D) := h5
  split at h5
  · rename_i hlim
    refine ⟨pp, xs, v2, rfl, rfl, w2, ?_, h5 σ G2 _ e2 (r2.write k1 k2 hpp (k3 _) (dps_append w3 (dps_one d2)))⟩
    have : LIM ≤ sizeLine := by decide
    omega
  · exact h5.elim
theorem p_ex (he : PE X ee (rdE F K cl (WEx E) e)) (hs : notComp ee = true) : PS X (.Expr ee pos) (rdS F fuel K cl E (.ex e)) := by
  refine PS.imp (ps_expr he (swaps_no hs)) fun D σ H ⟨C, G, ρ, r, h⟩ => ⟨C, G, ρ, r, ?_⟩
  unfold evS at h
  exact h.bind.mono fun d ρ1 _ h1 G1 v1 H1 e1 r1 d1 => h1 σ G1 H1 e1 r1
theorem p_ret (he : PE X ee (rdE F K cl (WEx E) e)) : PS X (.Return (some ee) pos) (rdS F fuel K cl E (.ret e)) := by
  refine PS.imp (ps_ret he) fun D σ H ⟨C, G, ρ, r, h⟩ => ⟨C, G, ρ, r, ?_⟩
  unfold evS at h
  exact h.bind.mono fun d ρ1 _ h1 G1 v1 H1 e1 r1 d1 => h1 σ G1 v1 H1 r1 d1
theorem p_ite (ht : PT X ec (rdT F K cl (WEx E) t)) (h1 : PSs X sts (rdS F fuel K cl E s1)) (h2 : PSs X sts2 (rdS F fuel K cl E s2)) : PS X (.If ec sts sts2 pos) (rdS F fuel K cl E (.ite t s1 s2)) := by
  refine PS.imp (ps_if ht h1 h2) fun D σ H ⟨C, G, ρ, r, h⟩ => ⟨C, G, ρ, r, ?_⟩
  unfold evS at h
  refine h.bind.mono fun c ρ1 _ h3 G1 H1 e1 r1 => ?_
  have h3 : Out C cl (WEx E) σ (if c = true then evS F fuel s1 ρ1 else evS F fuel s2 ρ1) (ResOk K C G D) := h3
  cases c with
  | true =>
    rw [if_pos rfl] at h3
    exact iteT ⟨C, G1, ρ1, r1, h3.mono fun q ρ2 _ k => k.same e1⟩
  | false =>
    rw [if_neg Bool.false_ne_true] at h3
    exact iteF ⟨C, G1, ρ1, r1, h3.mono fun q ρ2 _ k => k.same e1⟩
/-! ### loops -/
theorem p_for {tgt' : Tg} (hp : PassesOwn (model X.prog X.w) X.A X.env X.xe) (hc : X.calm = true) (hi : PI X tg iter (rdI F K cl (WEx E) tgt' it)) (hg : PG X tg (gOf K tgt')) (hb : PSs X sts (rdS F fuel K cl E s1)) (hs : ∀ x, foldedSetIterable iter X.env x = pure x) :
    PS X (.For tg iter sts [] pos) (rdS F fuel K cl E (.for_ tgt' it s1)) := by
  refine PS.imp (ps_for hp hc hi hg hb hs) fun D σ H ⟨C, G, ρ, r, h⟩ => ⟨C, G, ρ, r, ?_⟩
  unfold evS at h
  refine h.bind.mono fun xs ρ1 _ h1 G1 J H1 e1 r1 w1 => ?_
  have h1 : Out C cl (WEx E) σ (forL tgt' (evS F fuel s1) xs ρ1) (ResOk K C G D) := h1
  refine ⟨fun i m σ' H' => m = xs.length - i ∧ i ≤ xs.length ∧ ∃ Gi ρi, Same G1 Gi ∧ Rel K C Gi ρi σ' H' ∧ Out C cl (WEx E) σ' (forL tgt' (evS F fuel s1) (xs.drop i) ρi) (ResOk K C Gi D),
    ⟨xs.length, by simp, Nat.zero_le _, G1, ρ1, Same.refl _, r1, by rw [List.drop_zero]; exact h1.mono fun q ρ2 _ k => k.same e1⟩, ?_⟩
  rintro i m σ' H' ⟨rfl, hi, Gi, ρi, ex, ri, hrun⟩
  by_cases hlt : i < xs.length
  · refine .inr ⟨w1.go i H' hlt (ex.trans ri.exG), fun σ2 H2 => ∃ Gi ρi, Same G1 Gi ∧ Rel K C Gi ρi σ2 H2 ∧ Out C cl (WEx E) σ2 (forL tgt' (evS F fuel s1) (xs.drop (i + 1)) ρi) (ResOk K C Gi D), fun σ2 H2 hN => ⟨xs.length - (i + 1), by omega, rfl, hlt, hN⟩, fun x H2 hy => ?_⟩
    obtain ⟨d, Gn, hxd, en, en2, en3, fr, dpx⟩ := w1.yld i H' x H2 Gi hlt ex ri.exG hy
    have rn : Rel K C Gn ρi σ' H2 := ri.step en en2 en3 fr
    have hdrop : xs.drop i = d :: xs.drop (i + 1) := by
      obtain ⟨hl1, hl2⟩ := List.getElem?_eq_some_iff.mp hxd
      rw [List.drop_eq_getElem_cons hl1, hl2]
    rw [hdrop] at hrun
    unfold forL at hrun
    obtain ⟨ρa, htg, hrun⟩ := Out.bindc hrun
    refine tgt_of htg rn dpx fun σ2 ra _ _ => ⟨C, Gn, ρa, ra, ?_⟩
    refine Out.mono (Out.bind (Out.st hrun)) fun q ρb _ k => ?_
    cases q with
    | nx => exact fun σ3 G3 H3 e3 r3 => ⟨G3, ρb, (ex.trans en).trans e3, r3, Out.mono (Out.st k) fun q ρ2 _ k => k.same (en.trans e3)⟩
    | rt d => exact k
  · have ei : i = xs.length := by omega
    subst ei
    rw [List.drop_length] at hrun
    exact .inl ⟨w1.stop H' (ex.trans ri.exG), hrun σ' Gi H' (Same.refl _) ri⟩
theorem p_while (hp : PassesOwn (model X.prog X.w) X.A X.env X.xe) (ht : PT X ec (rdT F K cl (WEx E) t)) (hb : PSs X sts (rdS F fuel K cl E s1)) : PS X (.While ec sts [] pos) (rdS F fuel K cl E (.while_ t s1)) := by
  refine PS.imp (ps_while hp ht hb) fun D σ H ⟨C, G, ρ, r, h⟩ => ?_
  unfold evS at h
  refine ⟨fun m σ' H' => ∃ Gi ρi, Same G Gi ∧ Rel K C Gi ρi σ' H' ∧ Out C cl (WEx E) σ' (whileL (evT F t) (evS F fuel s1) m ρi) (ResOk K C Gi D), ⟨fuel, G, ρ, Same.refl _, r, h⟩, ?_⟩
  rintro m σ' H' ⟨Gi, ρi, ex, ri, hrun⟩
  cases m with
  | zero => exact hrun.elim
  | succ m =>
    unfold whileL at hrun
    refine ⟨C, Gi, ρi, ri, ?_⟩
    refine hrun.bind.mono fun c ρ1 _ h1 G1 H1 e1 r1 => ?_
    have h1 : Out C cl (WEx E) σ' (if c = true then bindR (evS F fuel s1 ρ1) (fun q => match q.1 with | .nx => whileL (evT F t) (evS F fuel s1) m q.2 | .rt d => .ok (.rt d, q.2)) else .ok (.nx, ρ1)) (ResOk K C Gi D) := h1
    cases c with
    | true =>
      rw [if_pos rfl] at h1
      refine iteT ⟨fun σ2 H2 => ∃ Gj ρj, Same G Gj ∧ Rel K C Gj ρj σ2 H2 ∧ Out C cl (WEx E) σ2 (whileL (evT F t) (evS F fuel s1) m ρj) (ResOk K C Gj D), fun σ2 H2 hN => ⟨m, Nat.lt_succ_self m, hN⟩, C, G1, ρ1, r1, ?_⟩
      refine Out.mono (Out.bind h1) fun q ρb _ k => ?_
      cases q with
      | nx => exact fun σ3 G3 H3 e3 r3 => ⟨G3, ρb, (ex.trans e1).trans e3, r3, Out.mono (Out.st k) fun q ρ2 _ k => k.same (e1.trans e3)⟩
      | rt d => exact k
    | false =>
      rw [if_neg Bool.false_ne_true] at h1
      exact iteF (h1 σ' G1 H1 e1 r1)
end
end Ft
/-! FtExc: raise X(), try: return e except X: return "..". -/
namespace Ft
open PySem PySem.Spec PyProof.Rows L2 RZ
section
variable {X : Cx} {C : Addr} {bmB : List Value} {B newId initId : String}
/-- X() of an own class -/
theorem pmk_own0 {x : Str} {p pos : Pos} (F : ExcBaseFacts B newId initId bmB) (q : PySem.W.excIn X.K C bmB newId = true) (gC : X.mg x = some (.ref C)) (kC : PySem.W.keepIn X.K (.ref C) = true) (r : Raises X (.ref C)) (hg : Gl X x)
    (hdb : (x == ("__debug__" : Str)) = false) : PMk X (.Call (.Name x p) [] [] pos) (fun _ H Q => Q (.ref C) none H) := by
  intro pins s σ H Q I h
  refine wpAny_Call_Name_kw (ld_glob I hg gC ?_ hdb)
  refine PySem.W.callWith_K0 I.kIn kC ?_
  obtain ⟨bm, N, nm, qn, bs, hdct, sn, sub, ab, col, dd, k0, k1, k2, k3, k5, mN, hC, hN, hni, T⟩ := exc_obj I.kIn q
  refine wpAny_call_exc_subT F T hC hN hni (fun h' e hm => ?_) (by show 0 ≤ sizeLine; omega)
  exact mk_of I hm r h (I.hok.gone hm.new)
end
/-- what is known of an own exception class -/
structure ExAt (X : Cx) (cl : Str → Addr) (x : Str) : Prop where
  g : X.mg x = some (.ref (cl x))
  xi : PySem.W.excIn X.K (cl x) He.veBase "ValueError.__new__" = true
  k : PySem.W.keepIn X.K (.ref (cl x)) = true
  s : PySem.W.subIn X.K (.ref (cl x)) (.type "BaseException") = some true
  t : PySem.W.typeIn X.K (.ref (cl x)) = some (.type "type")
section
variable {F : Fns} {fuel : Nat} {K : PySem.W.Frag} {cl : Str → Addr} {E : XK} {X : Cx} {e : Ft.E} {ee : Expr} {pos p p2 : Pos} {x : Str}
theorem p_raise (hc : X.calm = true) (tk : Takes X (WEx E)) (ex : ExAt X cl x) (hg : Gl X x) (hd : (x == ("__debug__" : Str)) = false) : PS X (.Raise (some (.Call (.Name x p) [] [] p2)) none pos) (rdS F fuel K cl E (.raise x)) := by
  refine PS.imp (ps_raise hc tk (pmk_own0 PySem.F.excBase_ValueError ex.xi ex.g ex.k (raises_own ex.s ex.t) hg hd)) fun D σ H ⟨C, G, ρ, r, h⟩ => ?_
  unfold evS at h
  exact h H r.exP
/-! ### try -/
def hdOf (cl : Str → Addr) (q : Str × Str) : Value × (Addr → Value → Option Addr → TS) := (.ref (cl q.1), fun _ _ _ => tRet (tC (.str q.2)))
theorem caught_of {n : Str} {D : Ends} {σ : L2.St} {H' : Hp} {Wout : WX} : ∀ {hs : List (Str × Str)}, (∀ q ∈ hs, PySem.W.exmOne K (.ref (cl n)) (.ref (cl q.1)) = some (decide (q.1 = n))) →
    (∀ t, caught n hs = some t → D.rt (.str t) H') → (caught n hs = none → Wout (.ref (cl n)) none σ H') → wMany K Wout D (hs.map (hdOf cl)) (.ref (cl n)) none σ H'
  | [], _, _, h2 => h2 rfl
  | (x, t) :: r, hx, h1, h2 => by
    refine ⟨_, hx (x, t) List.mem_cons_self, fun hb a _ => ?_, fun hb => ?_⟩
    · have e : x = n := of_decide_eq_true hb
      exact h1 t (by unfold caught; rw [if_pos e])
    · have e : ¬ x = n := of_decide_eq_false hb
      have ec : caught n ((x, t) :: r) = caught n r := by rw [caught, if_neg e]
      rw [ec] at h1 h2
      exact caught_of (fun q hq => hx q (List.mem_cons_of_mem _ hq)) h1 h2
theorem Rel.blank {C : RC} {G H H' : Hp} {ρ : Env} {σ : L2.St} (r : Rel K C G ρ σ H) (e : Same C.P H') : Rel K C C.G0 (ρ.map fun _ => .no) σ H' where
  exG := r.g0P.trans e
  exP := e
  ex0 := Same.refl _
  g0P := r.g0P
  frG := fun a _ h => h
  len := by simp [r.len]
  cells := fun i c o h1 h2 => by
    rw [List.getElem?_map] at h1
    cases hq : ρ[i]? with
    | none => rw [hq] at h1; cases h1
    | some c' => rw [hq] at h1; cases h1; trivial
  apart := fun i j p _ m1 _ => by
    obtain ⟨c, ds, h1, h2, _⟩ := m1
    rw [List.getElem?_map] at h1
    cases hq : ρ[i]? with
    | none => rw [hq] at h1; cases h1
    | some c' => rw [hq] at h1; cases h1; cases h2
/-- the clauses -/
inductive HdsT (X : Cx) (cl : Str → Addr) : List ExceptHandler → List (Str × Str) → Prop
  | nil : HdsT X cl [] []
  | cons {x t : Str} {k : Nat} {np p1 p2 p3 : Pos} {hds : List ExceptHandler} {l : List (Str × Str)} (hc : Names X x (.ref (cl x))) (r : HdsT X cl hds l) : HdsT X cl (.ExceptHandler (some (.Name x np)) none [.Return (some (.Constant (.str t) k p1)) p2] p3 :: hds) ((x, t) :: l)
theorem HdsT.ok {X : Cx} {cl : Str → Addr} : ∀ {hds : List ExceptHandler} {l : List (Str × Str)}, HdsT X cl hds l → HdsOk X hds (l.map (hdOf cl))
  | _, _, .nil => .nil
  | _, _, .cons hc r => .cons hc (fun _ _ _ _ _ _ _ => pss_one (ps_ret pe_str)) (HdsT.ok r)
theorem p_tryr {h0 : ExceptHandler} {hds : List ExceptHandler} {hs : List (Str × Str)} {ks : List Str} (hK : X.K = K) (hst : X.stack = X.env :: X.outer) (hf : X.env.frame = some X.env.locals) (tk : Takes X (WEx E))
    (he : ∀ (W : WX) (pn : List (Addr × Obj)) (xe : Value → Shared → Prop), Takes (X.tr pn xe) W → PE (X.tr pn xe) ee (rdE F K cl W e)) (hh : HdsT X cl (h0 :: hds) hs)
    (hx : ∀ n ∈ ks, ∀ q ∈ hs, PySem.W.exmOne K (.ref (cl n)) (.ref (cl q.1)) = some (decide (q.1 = n))) : PS X (.Try [.Return (some ee) p] (h0 :: hds) [] [] pos) (rdS F fuel K cl E (.tryr e hs ks)) := by
  refine PS.imp (ps_try_many (tb := fun W => tRet (rdE F K cl W e)) hst hf tk (fun W pn xe tk' _ => pss_one (ps_ret (he W pn xe tk'))) hh.ok) fun D σ H ⟨C, G, ρ, r, h⟩ => ⟨C, G, ρ, r, ?_⟩
  unfold evS at h
  cases hv : evE F e ρ with
  | ok q =>
    obtain ⟨d, ρ1⟩ := q
    rw [hv] at h
    exact fun G' v H' _ r1 d1 => h σ G' v H' r1 d1
  | error er =>
    rw [hv] at h
    cases er with
    | stuck => exact h
    | exc n =>
      have h : Out C cl (WEx E) σ (if n ∈ ks then (match caught n hs with | some t => .ok (.rt (.str t), ρ.map fun _ => .no) | none => .error (.exc n)) else stk) (ResOk K C G D) := h
      by_cases hn : n ∈ ks
      · rw [if_pos hn] at h
        intro H' hP
        rw [hK]
        refine caught_of (hx n hn) (fun t ht => ?_) (fun ht => ?_)
        · rw [ht] at h
          exact h σ C.G0 _ H' (r.blank hP) (.str t)
        · rw [ht] at h
          exact h H' hP
      · rw [if_neg hn] at h
        exact h.elim
end
end Ft
/-! FtMore: min, max of two; list(range(n)); tests of a comprehension. -/
namespace Ft
open PySem PySem.Spec PyProof.Rows L2 RZ
section
variable {F : Fns} {K : PySem.W.Frag} {cl : Str → Addr} {W : WX} {X : Cx} {a b e t as es it c : E} {ea eb ee ec : Expr} {pos p p2 : Pos} {rest : List Expr}
theorem s_min2 {x : Str} (hc : X.calm = true) (hg : Gl X x) (hm : X.mg x = none) (hv : bootBuiltins x = some (.builtin "min")) (ha : PE X ea (rdE F K cl W a)) (hb : PE X eb (rdE F K cl W b)) (hn : x ≠ "__name__") (hd : (x == ("__debug__" : Str)) = false) (hs : nostar ea = true) (hs2 : nostar eb = true) :
    PE X (.Call (.Name x p) [ea, eb] [] pos) (rdE F K cl W (.prim2 .min a b)) := by
  refine PE.imp (pe_callB (call_min2 hc) hg hm hv (pa_cons ha (pa_cons hb pa_nil (star_cons hs2)) (star_cons hs)) hn hd (star_cons hs) (star_none (by rw [List.all_cons, hs2]; rfl))) fun σ H Q ⟨C, G, ρ, rr, h⟩ => ⟨C, G, ρ, rr, ?_⟩
  unfold evE at h
  refine h.bind.mono fun x ρ1 _ h1 G1 v1 H1 e1 r1 d1 => ⟨C, G1, ρ1, r1, ?_⟩
  refine Out.mono (Out.bind h1) fun y ρ2 _ h2 G2 v2 H2 e2 r2 d2 => ?_
  obtain ⟨z, hz, h3⟩ := Out.bindc h2
  cases d1 <;> cases d2 <;> cases hz
  exact ⟨_, _, rfl, h3 G2 _ H2 (e1.trans e2) r2 (.int _)⟩
theorem s_max2 {x : Str} (hc : X.calm = true) (hg : Gl X x) (hm : X.mg x = none) (hv : bootBuiltins x = some (.builtin "max")) (ha : PE X ea (rdE F K cl W a)) (hb : PE X eb (rdE F K cl W b)) (hn : x ≠ "__name__") (hd : (x == ("__debug__" : Str)) = false) (hs : nostar ea = true) (hs2 : nostar eb = true) :
    PE X (.Call (.Name x p) [ea, eb] [] pos) (rdE F K cl W (.prim2 .max a b)) := by
  refine PE.imp (pe_callB (call_max2 hc) hg hm hv (pa_cons ha (pa_cons hb pa_nil (star_cons hs2)) (star_cons hs)) hn hd (star_cons hs) (star_none (by rw [List.all_cons, hs2]; rfl))) fun σ H Q ⟨C, G, ρ, rr, h⟩ => ⟨C, G, ρ, rr, ?_⟩
  unfold evE at h
  refine h.bind.mono fun x ρ1 _ h1 G1 v1 H1 e1 r1 d1 => ⟨C, G1, ρ1, r1, ?_⟩
  refine Out.mono (Out.bind h1) fun y ρ2 _ h2 G2 v2 H2 e2 r2 d2 => ?_
  obtain ⟨z, hz, h3⟩ := Out.bindc h2
  cases d1 <;> cases d2 <;> cases hz
  exact ⟨_, _, rfl, h3 G2 _ H2 (e1.trans e2) r2 (.int _)⟩
theorem rg_dps (G : Hp) : ∀ n : Nat, DpAll K G (rgV 0 n) (rngL 0 1 n) := by
  have key : ∀ (n : Nat) (lo : Int), DpAll K G ((List.range n).map fun i => V.int (lo + (i : Nat))) (rngL lo 1 n) := by
    intro n
    induction n with
    | zero => intro lo; exact .nil
    | succ n ih =>
      intro lo
      rw [List.range_succ_eq_map, List.map_cons, List.map_map]
      unfold rngL
      refine .cons ?_ ?_
      · rw [show (lo + ((0 : Nat) : Int)) = lo by omega]
        exact .int lo
      · have := ih (lo + 1)
        have e : ((fun i : Nat => V.int (lo + (i : Nat))) ∘ Nat.succ) = fun i : Nat => V.int (lo + 1 + (i : Nat)) := by
          funext i
          show V.int _ = V.int _
          congr 1
          rw [Int.natCast_succ]
          omega
        rw [e]
        exact this
  intro n
  have := key n 0
  unfold rgV
  rw [show ((n : Int) - 0).toNat = n by omega]
  exact this
theorem f_lrng (hc : X.calm = true) (hg : Gl X "list") (hm : X.mg "list" = none) (hg2 : Gl X "range") (hm2 : X.mg "range" = none) (ha : PE X ea (rdE F K cl W a)) (hs : nostar ea = true) :
    PE X (.Call (.Name "list" p) [.Call (.Name "range" p2) [ea] [] pos] [] pos') (rdF F K cl W (.lrng a)) := by
  refine PE.imp (pe_listRg hc hg hm (prg_1 hg2 hm2 ha (star_cons hs))) fun σ H Q ⟨C, G, ρ, rr, h⟩ => ⟨C, G, ρ, rr, ?_⟩
  unfold evE at h
  refine h.bind.mono fun x ρ1 _ h1 G1 v1 H1 e1 r1 d1 => ?_
  obtain ⟨z, hz, h3⟩ := Out.bindc h1
  cases d1 with
  | int n =>
    obtain ⟨hn, ez⟩ := if_ok hz
    refine ⟨n, rfl, ⟨by decide, by decide, by omega, by have := hn.2; unfold LIM at this; omega, by have := hn.2; unfold LIM at this; omega⟩, fun q hq => ?_⟩
    obtain ⟨ds, ed, k⟩ := h3
    cases ed
    subst ez
    refine k G1 q _ _ e1 (r1.alloc hq) (r1.own hq) ?_
    have : rgV 0 n = rgV 0 (n.toNat : Int) := by unfold rgV; congr 2; omega
    rw [this]
    exact rg_dps G1 n.toNat
  | _ => cases hz
theorem lrng_list {ρ ρ' : Env} {d : D} (h : evE F (.lrng a) ρ = .ok (d, ρ')) : ∃ ds, d = .list ds := by
  unfold evE at h
  obtain ⟨q, _, h⟩ := bindR_ok_inv h
  dsimp only at h
  cases hz : lrngD q.1 with
  | error x => rw [hz] at h; cases h
  | ok z => rw [hz] at h; cases h; exact ⟨_, rfl⟩
/-! ### [..] * k, a + b as new lists -/
theorem f_rep {ees : List Expr} (h : PA X ees (rdA F K cl W as)) (hl : alen as ≤ 1000) (hb : PE X eb (rdE F K cl W b)) : PE X (.BinOp (.List ees p) .Mult eb pos) (rdF F K cl W (.rep as b)) := by
  refine PE.imp (pe_op op_rep (pe_lst h) hb) fun σ H Q ⟨C, G, ρ, r, h⟩ => ⟨C, G, ρ, r, ?_⟩
  unfold evE at h
  refine h.bind.mono fun ds ρ1 he h1 G1 vs H1 e1 r1 d1 => ⟨?_, fun l hp => ?_⟩
  · rw [dps_len d1, evA_len as he]
    exact Nat.le_trans hl (by decide)
  · have o : Own C G1 ρ1 σ (upd H1 l (.lst vs)) l vs := r1.own hp
    have ra := r1.alloc (o := .lst vs) hp
    have nG0 : C.G0 l = none := r1.ex0.free o.nG
    have gd := ra.guard o.at_ o.nG o.nM
    refine ⟨C.with l (.lst vs), G1, ρ1, gd, ?_⟩
    refine (Out.rc (C' := C.with l (.lst vs)) h1 fun H' z => Same.with o.nP z).bind.mono fun y ρ2 _ h2 G2 v2 H2 e2 r2 d2 => ?_
    obtain ⟨zs, hz, h3⟩ := Out.bindc h2
    obtain ⟨r2', hat, ng, nm⟩ := Rel.unguard o.nP nG0 r2
    cases d2 with
    | int k =>
      obtain ⟨hc, ez⟩ := if_ok hz
      obtain ⟨es, ee, h4⟩ := h3
      cases ee
      subst ez
      have hlen := dps_len d1
      refine ⟨l, k, vs, rfl, rfl, hat, by omega, by omega, ?_, fun q hq => h4 G2 q _ _ (e1.trans e2) (r2'.alloc hq) (r2'.own hq) ?_⟩
      · rw [hlen]
        exact Nat.le_trans hc.1 (by decide)
      · generalize k.toNat = m
        induction m with
        | zero => exact .nil
        | succ m ih =>
          rw [List.replicate_succ, List.replicate_succ, List.flatten_cons, List.flatten_cons]
          exact dps_append (dps_mono e2 d1) ih
    | _ => cases hz
theorem rep_list {ρ ρ' : Env} {d : D} (h : evE F (.rep as b) ρ = .ok (d, ρ')) : ∃ ds, d = .list ds := by
  unfold evE at h
  obtain ⟨q, _, h⟩ := bindR_ok_inv h
  obtain ⟨q2, _, h⟩ := bindR_ok_inv h
  dsimp only at h
  cases hz : repD q.1 q2.1 with
  | error x => rw [hz] at h; cases h
  | ok z => rw [hz] at h; cases h; exact ⟨_, rfl⟩
theorem f_cat (hK : X.K = K) (ha : PE X ea (rdE F K cl W a)) (hb : PE X eb (rdE F K cl W b)) : PE X (.BinOp ea .Add eb pos) (rdF F K cl W (.bin .add a b)) := by
  refine PE.imp (pe_op op_addAll ha hb) fun σ H Q ⟨C, G, ρ, r, h⟩ => ⟨C, G, ρ, r, ?_⟩
  unfold evE at h
  refine h.bind.mono fun x ρ1 _ h1 G1 v1 H1 e1 r1 d1 => ⟨C, G1, ρ1, r1, ?_⟩
  refine Out.mono (Out.bind h1) fun y ρ2 _ h2 G2 v2 H2 e2 r2 d2 => ?_
  obtain ⟨z, hz, h3⟩ := Out.bindc h2
  obtain ⟨es, ee, h4⟩ := h3
  subst ee
  have d1' := dp_mono e2 d1
  cases x with
  | list xs =>
    cases y with
    | list ys =>
      obtain ⟨hc, ez⟩ := if_ok hz
      cases ez
      cases d1' with
      | lst q1 q2 =>
        cases d2 with
        | lst q3 q4 =>
          rw [hK]
          refine .inr (.inr (.inl ⟨_, _, _, _, rfl, rfl, same_l r2.exG q1, same_l r2.exG q3, ?_, fun p hp => h4 G2 p _ _ (e1.trans e2) (r2.alloc hp) (r2.own hp) (dps_append q2 q4)⟩))
          rw [dps_len q2, dps_len q4]
          exact lim_line hc
    | _ => cases hz
  | int i => cases y <;> cases hz
  | str i => cases y <;> first | (cases hz; done) | (obtain ⟨_, ez⟩ := if_ok hz; cases ez)
  | tuple i => cases y <;> first | (cases hz; done) | (obtain ⟨_, ez⟩ := if_ok hz; cases ez)
  | _ => cases y <;> cases hz
/-! ### tests of a comprehension -/
theorem pts_tt : PTs X [] (rdT F K cl W .tt) := ⟨fun pins s σ H Q I ⟨C, G, ρ, r, h⟩ => pts_nil.run pins s σ H Q I (by
  unfold evT at h
  exact h G H (Same.refl G) r)⟩
end
end Ft
/-! FtDict: dicts by comprehension, d[k], x[i] op= e. -/
namespace Ft
open PySem PySem.Spec PyProof.Rows L2 RZ
section
variable {K : PySem.W.Frag} {H G : Hp}
theorem kvd_val : ∀ {rs : List (Key × V)} {kvs : List (Key × D)} {k : Key} {d : D}, KvD K H rs kvs → valA kvs k = some d → ∃ v, valV rs k = some v ∧ Dp K H v d
  | _, _, _, _, .nil, h => by cases h
  | _, _, k, d, @KvD.cons _ _ k' v' d' r q h a, e => by
    by_cases hk : k' = k
    · subst hk
      have e' : some d' = some d := by rw [← e]; simp [valA, List.find?_cons]
      cases e'
      exact ⟨v', valV_pos rfl, h⟩
    · have e' : valA q k = some d := by rw [← e]; simp [valA, List.find?_cons, hk]
      obtain ⟨v, h1, h2⟩ := kvd_val a e'
      exact ⟨v, by rw [valV_neg (by simpa using hk)]; exact h1, h2⟩
theorem kvd_len : ∀ {rs : List (Key × V)} {kvs : List (Key × D)}, KvD K H rs kvs → rs.length = kvs.length
  | _, _, .nil => rfl
  | _, _, .cons _ a => by simp [kvd_len a]
theorem kvd_app : ∀ {rs rs' : List (Key × V)} {kvs kvs' : List (Key × D)}, KvD K H rs kvs → KvD K H rs' kvs' → KvD K H (rs ++ rs') (kvs ++ kvs')
  | _, _, _, _, .nil, b => b
  | _, _, _, _, .cons h a, b => .cons h (kvd_app a b)
theorem kvd_any (k : Key) : ∀ {rs : List (Key × V)} {kvs : List (Key × D)}, KvD K H rs kvs → (rs.any fun kv => decide (kv.1 = k)) = kvs.any fun kv => decide (kv.1 = k)
  | _, _, .nil => rfl
  | _, _, .cons _ a => by simp [kvd_any k a]
theorem kvd_rep (k : Key) {v : V} {d : D} (hd : Dp K H v d) : ∀ {rs : List (Key × V)} {kvs : List (Key × D)}, KvD K H rs kvs → KvD K H (rs.map fun kv => if kv.1 = k then (kv.1, v) else kv) (kvs.map fun kv => if kv.1 = k then (kv.1, d) else kv)
  | _, _, .nil => .nil
  | _, _, @KvD.cons _ _ k' v' d' r q h a => by
    have ih := kvd_rep k hd a
    rw [List.map_cons, List.map_cons]
    by_cases hk : k' = k
    · simp only [hk, if_true]
      exact .cons hd ih
    · simp only [hk, if_false]
      exact .cons h ih
theorem kvd_put (k : Key) {v : V} {d : D} {rs : List (Key × V)} {kvs : List (Key × D)} (hd : Dp K H v d) (h : KvD K H rs kvs) : KvD K H (putK rs k v) (putA kvs k d) := by
  unfold putK putA
  rw [kvd_any k h]
  split
  · exact kvd_rep k hd h
  · exact kvd_app h (.cons hd .nil)
theorem putA_le (kvs : List (Key × D)) (k : Key) (d : D) : (putA kvs k d).length ≤ kvs.length + 1 := by
  unfold putA
  split <;> simp
theorem keyD_V {y : D} {k : Sum Int Str} {v : V} (h : keyD y = .ok k) (d : Dp K H v y) : v = kV k := by
  cases d <;> cases h <;> rfl
theorem dicAt_inv {ρ : Env} {s : Nat} {kvs : List (Sum Int Str × D)} (h : dicAt ρ s = .ok kvs) : ρ[s]? = some (.di kvs) := by
  unfold dicAt at h
  split at h
  · rename_i q
    cases h
    exact q
  · cases h
end
section
variable {K : PySem.W.Frag} {C : RC} {G G' H H' : Hp} {ρ ρ' : Env} {σ : L2.St}
/-- an object of one's own that no slot holds is changed -/
theorem Rel.pokeO (r : Rel K C G ρ σ H) {p : Addr} {o : HO} (nG : G p = none) (nP : C.P p = none) (nM : ∀ i, ¬ MuAt ρ σ i p) : Rel K C G ρ σ (upd H p o) where
  exG := fun a u e => by
    rw [upd_ne (ne_of_none e nG)]
    exact r.exG a u e
  exP := fun a u e => by
    rw [upd_ne (ne_of_none e nP)]
    exact r.exP a u e
  ex0 := r.ex0
  g0P := r.g0P
  frG := r.frG
  len := r.len
  cells := fun i c oo h1 h2 => cellOk_mono (r.cells i c oo h1 h2) (Same.refl G) (fun q zs ds hl ho hq => by
    have hqp : q ≠ p := fun e => nM i ⟨c, ds, h1, hl, by rw [h2, ho, e]⟩
    rw [upd_ne hqp]
    exact hq) (fun _ _ _ _ z => z)
  apart := r.apart
theorem Rel.setDi (r : Rel K C G ρ σ H) (i : Nat) {p : Addr} {rs : List (Key × V)} {kvs : List (Key × D)} (h : G p = some (.dK rs)) (a : KvD K G rs kvs) : Rel K C G (ρ.set i (.di kvs)) (σ.set i (some (.ref p))) H := r.setAny i ⟨p, rs, rfl, h, a⟩ (fun _ _ e => by cases e)
end
section
variable {F : Fns} {fuel : Nat} {K : PySem.W.Frag} {cl : Str → Addr} {W : WX} {E : XK} {X : Cx} {a b e it c ek ev : Ft.E} {t : Tg} {ea eb ee tg iter kx vx : Expr} {ifs : List Expr} {scope : Scope} {pos p p2 spos : Pos} {x y : Str} {i j s : Nat} {own : List (Str × Nat)}
/-! ### d[k] -/
theorem nosl_of (h : noslice eb = true) : NoSl eb := fun ov iv => by cases eb <;> first | rfl | cases h
theorem s_dget (hu : X.A.units + 65 < cLine) (hN : X.N[s]? = some x) (hv : Vis X.env.scope x) (hd : (x == ("__debug__" : Str)) = false) (hc : (x == ("__classdict__" : Str)) = false) (hi : PE X eb (rdE F K cl W b)) (hns : noslice eb = true) : PE X (.Subscript (.Name x p) eb pos) (rdE F K cl W (.dget s b)) := by
  refine PE.imp (pe_dget (by omega) (pe_var hN hv hd hc) hi (nosl_of hns)) fun σ H Q ⟨C, G, ρ, r, h⟩ => ?_
  unfold evE at h
  obtain ⟨kvs0, hk0, h⟩ := Out.bindc h
  obtain ⟨pp, rs0, hp0, _, _⟩ := r.diAt (dicAt_inv hk0)
  refine ⟨.ref pp, hp0, C, G, ρ, r, ?_⟩
  refine Out.mono (Out.bind h) fun y ρ1 _ h1 G1 v1 H1 e1 r1 d1 => ?_
  obtain ⟨k, hk, h2⟩ := Out.bindc h1
  obtain ⟨kvs, hkv, h3⟩ := Out.bindc h2
  obtain ⟨p', rs, q1, q2, q3⟩ := r1.diAt (dicAt_inv hkv)
  rw [hp0] at q1
  cases q1
  cases hval : valA kvs k with
  | none => rw [hval] at h3; exact h3.elim
  | some d =>
    rw [hval] at h3
    obtain ⟨v, w1, w2⟩ := kvd_val q3 hval
    refine ⟨pp, v, rfl, ?_, h3 G1 v H1 e1 r1 w2⟩
    rw [keyD_V hk d1, ← w1]
    exact DGet.k (r1.exG _ _ q2)
/-! ### x[i] op= e -/
def rGetL (K : PySem.W.Frag) : V → V → Hp → VK → Prop := fun o i H Q => ∃ p xs k v, o = .ref p ∧ i = .int k ∧ SqL K H p xs ∧ 0 ≤ k ∧ xs[k.toNat]? = some v ∧ Q v H
theorem get_list : PGet X (rGetL X.K) := by
  intro pins s σ H o i ov iv Q I ro ri h
  obtain ⟨p, xs, k, v, rfl, rfl, hq, h0, he, q⟩ := h
  cases ro
  obtain ⟨t, rfl⟩ := ri
  obtain ⟨its, r, pl, hz⟩ := I.list hq
  obtain ⟨w, ew, rw'⟩ := r.get he
  have hl := r.length
  have hn := line63
  have hlt : k.toNat < xs.length := (List.getElem?_eq_some_iff.mp he).1
  exact wpAny_getItem_list pl.isList h0 (by omega) (by simpa using ew) ⟨v, H, I, rw', q⟩
theorem p_augx {op : Operator} {o : Bi} (hK : X.K = K) (ho : ipOf X op o) (hN : X.N[s]? = some x) (hv : Vis X.env.scope x) (hd : (x == ("__debug__" : Str)) = false) (hc : (x == ("__classdict__" : Str)) = false) (hi : PE X eb (rdE F K cl (WEx E) b)) (he : PE X ee (rdE F K cl (WEx E) e)) (hns : noslice eb = true) :
    PS X (.AugAssign (.Subscript (.Name x p) eb p2) op ee pos) (rdS F fuel K cl E (.augx s o b e)) := by
  have ha : ∀ ov iv new, augStore eb ov iv new = (do holding [new, ov, iv] (setItem ov iv new); release [new, ov, iv] []; pure .next) := fun ov iv new => by cases eb <;> first | rfl | cases hns
  refine PS.imp (ps_augS (pe_var hN hv hd hc) hi get_list he ho set_list ha) fun D σ H ⟨C, G, ρ, r, h⟩ => ?_
  unfold evS at h
  obtain ⟨q0, hq0, h⟩ := Out.bindc h
  obtain ⟨c0, j1, j2, _⟩ := lstAt_cases hq0
  obtain ⟨pp, xs0, hpp, hx0, _⟩ := r.muAt j1 j2
  refine ⟨.ref pp, hpp, C, G, ρ, r, ?_⟩
  refine Out.mono (Out.bind h) fun y ρ1 _ h1 G1 v1 H1 e1 r1 d1 => ?_
  obtain ⟨k, hk, h2⟩ := Out.bindc h1
  cases y with
  | int k' =>
    cases hk
    cases d1
    obtain ⟨q1, hq1, h3⟩ := Out.bindc h2
    obtain ⟨c1, k1, k2, k3⟩ := lstAt_cases hq1
    obtain ⟨p', xs, w1, w2, w3, w4, w5⟩ := r1.muAt k1 k2
    rw [hpp] at w1
    cases w1
    obtain ⟨j, hj, h4⟩ := Out.bindc h3
    obtain ⟨hb, ej⟩ := if_ok hj
    subst ej
    obtain ⟨xd, hxd, h5⟩ := Out.bindc h4
    have hat : q1.1[k.toNat]? = some xd := by
      unfold atD at hxd
      rw [if_pos hb.1] at hxd
      cases hq : q1.1[k.toNat]? with
      | none => rw [hq] at hxd; cases hxd
      | some z => rw [hq] at hxd; cases hxd; rfl
    obtain ⟨xv, hxv, dxv⟩ := dps_get w3 hat
    refine ⟨pp, xs, k, xv, rfl, rfl, SqL.of w2, hb.1, hxv, C, G1, ρ1, r1, ?_⟩
    refine Out.mono (Out.bind h5) fun d ρ2 _ h6 G2 v2 H2 e2 r2 d2 => ?_
    obtain ⟨z, hz, h7⟩ := Out.bindc h6
    obtain ⟨m, n, l, rfl, rfl, rfl, hbin⟩ := augD_inv hz
    cases dxv
    cases d2
    refine ⟨_, _, _, hbin, m, n, l, rfl, rfl, rfl, rfl, rfl, ?_⟩
    obtain ⟨q2, hq2, h8⟩ := Out.bindc h7
    obtain ⟨c2, g1, g2, g3⟩ := lstAt_cases hq2
    obtain ⟨p', xs2, u1, u2, u3, u4, u5⟩ := r2.muAt g1 g2
    rw [hpp] at u1
    cases u1
    obtain ⟨j2', hj2, h9⟩ := Out.bindc h8
    obtain ⟨hb2, ej2⟩ := if_ok hj2
    subst ej2
    have hl := dps_len u3
    refine ⟨pp, xs2, k, k.toNat, rfl, rfl, u2, by unfold ixN; rw [if_pos hb2.1, if_pos (by omega)], ?_⟩
    exact h9 σ G2 _ (e1.trans e2) (r2.write g1 g2 hpp (g3 _) (dps_set _ u3 (.int l)))
  | _ => cases hk
/-! ### x = {k: v for t in it if c} -/
theorem dc_imp (ht : tgOk t = true) (Dn : Ends) (σ : L2.St) (H : Hp) (h : rdS F fuel K cl E (.asgD i t it c ek ev) Dn σ H) : tAsg (tDc (rdI F K cl (WEx E) t it) (gOf K t) (rdT F K cl W0 c) (rdE F K cl W0 ek) (rdE F K cl W0 ev) (slots t)) (gName i) Dn σ H := by
  obtain ⟨C, G, ρ, r, h⟩ := h
  refine ⟨C, G, ρ, r, ?_⟩
  unfold evS at h
  refine h.bind.mono fun xs ρ1 _ h1 G1 J H1 e1 r1 w1 => ?_
  have h1 : Out C cl (WEx E) σ (if xs.length < LIM then bindR (calmR (dcL t (evT F c) (evE F ek) (evE F ev) xs (clr t ρ1) [])) (fun q => (Except.ok (Res.nx, (back t ρ1 q.2).set i (.di q.1)) : R (Res × Env))) else stk) _ := h1
  by_cases hlim : xs.length < LIM
  · rw [if_pos hlim] at h1
    cases hq : calmR (dcL t (evT F c) (evE F ek) (evE F ev) xs (clr t ρ1) []) with
    | error er =>
      have : er = .stuck := by
        cases hl : dcL t (evT F c) (evE F ek) (evE F ev) xs (clr t ρ1) [] with
        | ok a => rw [hl] at hq; cases hq
        | error x => rw [hl] at hq; cases hq; rfl
      subst this
      rw [hq] at h1
      exact h1.elim
    | ok q =>
      rw [hq] at h1
      have hl := calm_ok hq
      obtain ⟨kvs, ρ2⟩ := q
      have k : ∀ σ' G' H', Same G G' → Rel K C G' ((back t ρ1 ρ2).set i (.di kvs)) σ' H' → Dn.nx σ' H' := h1
      intro Dl hD
      have nP : C.P Dl = none := r1.nP hD
      have nG1 : G1 Dl = none := r1.nG hD
      have nG0 : C.G0 Dl = none := r1.ex0.free nG1
      refine ⟨fun i m H' => m = xs.length - i ∧ i ≤ xs.length ∧ ∃ Gi ρi accV accD, Same G1 Gi ∧ Rel K C Gi ρi (wipe σ (slots t)) H' ∧ H' Dl = some (.dK accV) ∧ Gi Dl = none ∧ (∀ j, ¬ MuAt ρi (wipe σ (slots t)) j Dl) ∧ KvD K Gi accV accD ∧ accD.length ≤ i ∧
          dcL t (evT F c) (evE F ek) (evE F ev) (xs.drop i) ρi accD = .ok (kvs, ρ2), ⟨xs.length, by simp, Nat.zero_le _, G1, clr t ρ1, [], [], Same.refl _, (r1.alloc hD).clr, upd_same, nG1, fun j m => r1.nM hD j (muAt_clr m), .nil, Nat.le_refl _, by rw [List.drop_zero]; exact hl⟩, ?_⟩
      rintro i' m H' ⟨rfl, hi, Gi, ρi, accV, accD, ex, ri, oat, onG, onM, da, la, hrun⟩
      by_cases hlt : i' < xs.length
      · refine .inr ⟨w1.go i' H' hlt (ex.trans ri.exG), fun H'' => _ ∧ _ ∧ _, fun H'' hN => ⟨xs.length - (i' + 1), by omega, hN⟩, fun x H2 hy => ?_⟩
        obtain ⟨d, Gn, hxd, en, en2, en3, fr, dpx⟩ := w1.yld i' H' x H2 Gi hlt ex ri.exG hy
        have rn : Rel K C Gn ρi (wipe σ (slots t)) H2 := ri.step en en2 en3 fr
        have nGn : Gn Dl = none := by
          cases q : Gn Dl with
          | none => rfl
          | some o =>
            have := fr Dl (by rw [q]; simp) onG
            rw [oat] at this
            cases this
        have hdrop : xs.drop i' = d :: xs.drop (i' + 1) := by
          obtain ⟨hl1, hl2⟩ := List.getElem?_eq_some_iff.mp hxd
          rw [List.drop_eq_getElem_cons hl1, hl2]
        rw [hdrop] at hrun
        unfold dcL at hrun
        cases htg : tgt t d ρi with
        | error er => rw [htg] at hrun; cases hrun
        | ok ρa =>
          rw [htg, bindC_ok] at hrun
          refine tgt_of htg rn dpx fun σ2 ra hw hm => ?_
          have hw2 : wipe σ2 (slots t) = wipe σ (slots t) := by
            rw [hw (slots t) (fun _ z => z)]
            cases t with
            | one i0 => show (σ.set i0 none).set i0 none = σ.set i0 none; rw [List.set_set]
            | two i0 j0 =>
              show ((((σ.set j0 none).set i0 none).set j0 none).set i0 none) = (σ.set j0 none).set i0 none
              have hij : i0 ≠ j0 := by simpa [tgOk] using ht
              rw [List.set_comm _ _ hij, List.set_set, List.set_set]
          refine ⟨hw2, ?_⟩
          have hDa : H2 Dl = some (.dK accV) := en3 _ _ oat
          have gd : Rel K (C.with Dl (.dK accV)) Gn ρa σ2 H2 := ra.guard hDa nGn (hm Dl onM)
          cases hcv : evT F c ρa with
          | error er => rw [hcv] at hrun; cases hrun
          | ok qb =>
            obtain ⟨b, ρb⟩ := qb
            rw [hcv] at hrun
            have hrun : (if b = true then bindR (evE F ek ρb) (fun p => bindC (keyD p.1) fun k => bindR (evE F ev p.2) fun q => dcL t (evT F c) (evE F ek) (evE F ev) (xs.drop (i' + 1)) (clr t q.2) (putA accD k q.1)) else dcL t (evT F c) (evE F ek) (evE F ev) (xs.drop (i' + 1)) (clr t ρb) accD) = .ok (kvs, ρ2) := hrun
            refine ⟨_, Gn, ρa, gd, ?_⟩
            rw [hcv]
            show ∀ G' H', Same Gn G' → Rel K (C.with Dl (.dK accV)) G' ρb σ2 H' → _
            intro Gb Hb eb rb
            cases b with
            | false =>
              rw [if_neg Bool.false_ne_true] at hrun
              obtain ⟨rb', hDb, nGb, nMb⟩ := Rel.unguard nP nG0 rb
              refine iteF ⟨by omega, hlt, Gb, clr t ρb, accV, accD, (ex.trans en).trans eb, ?_, hDb, nGb nG0, fun j m => ?_, kvd_mono (en.trans eb) da, by omega, hrun⟩
              · have := rb'.clr (t := t)
                rw [hw2] at this
                exact this
              · rw [← hw2] at m
                exact nMb j (muAt_clr m)
            | true =>
              rw [if_pos rfl] at hrun
              cases hek : evE F ek ρb with
              | error er => rw [hek] at hrun; cases hrun
              | ok qe =>
                obtain ⟨dk, ρc⟩ := qe
                rw [hek] at hrun
                have hrun : bindC (keyD dk) (fun k => bindR (evE F ev ρc) fun q => dcL t (evT F c) (evE F ek) (evE F ev) (xs.drop (i' + 1)) (clr t q.2) (putA accD k q.1)) = .ok (kvs, ρ2) := hrun
                refine iteT ⟨_, Gb, ρb, rb, ?_⟩
                rw [hek]
                show ∀ G' v H', Same Gb G' → Rel K (C.with Dl (.dK accV)) G' ρc σ2 H' → Dp K G' v dk → _
                intro Gc vk Hc ec rc dvk
                cases hkk : keyD dk with
                | error er => rw [hkk] at hrun; cases hrun
                | ok kk =>
                  rw [hkk, bindC_ok] at hrun
                  cases hev : evE F ev ρc with
                  | error er => rw [hev] at hrun; cases hrun
                  | ok qv =>
                    obtain ⟨dv, ρd⟩ := qv
                    rw [hev] at hrun
                    have hrun : dcL t (evT F c) (evE F ek) (evE F ev) (xs.drop (i' + 1)) (clr t ρd) (putA accD kk dv) = .ok (kvs, ρ2) := hrun
                    refine ⟨_, Gc, ρc, rc, ?_⟩
                    rw [hev]
                    show ∀ G' v H', Same Gc G' → Rel K (C.with Dl (.dK accV)) G' ρd σ2 H' → Dp K G' v dv → _
                    intro Gd v Hd ed rd dv'
                    obtain ⟨rd', hDd, nGd, nMd⟩ := Rel.unguard nP nG0 rd
                    have hlen := kvd_len da
                    refine ⟨accV, kk, keyD_V hkk dvk, hDd, ?_, by omega, hlt, Gd, clr t ρd, putK accV kk v, putA accD kk dv, (((ex.trans en).trans eb).trans ec).trans ed, ?_, upd_same, nGd nG0, fun j m => ?_, kvd_put kk dv' (kvd_mono (((en.trans eb).trans ec).trans ed) da), ?_, hrun⟩
                    · have : LIM ≤ sizeLine := by decide
                      omega
                    · have := (rd'.pokeO (o := .dK (putK accV kk v)) (nGd nG0) nP nMd).clr (t := t)
                      rw [hw2] at this
                      exact this
                    · rw [← hw2] at m
                      exact nMd j (muAt_clr m)
                    · have := putA_le accD kk dv
                      omega
      · have ei : i' = xs.length := by omega
        subst ei
        rw [List.drop_length] at hrun
        cases hrun
        have rf := ri.back r1 ex ht
        have nMf : ∀ j, ¬ MuAt (back t ρ1 ρ2) σ j Dl := fun j m => onM j (muAt_backT m)
        refine .inl ⟨w1.stop H' (ex.trans ri.exG), ?_⟩
        show Dn.nx (σ.set i (some (.ref Dl))) H'
        exact k _ (upd Gi Dl (.dK accV)) H' ((e1.trans ex).trans (same_new onG)) ((rf.absorb oat onG nP nMf).setDi i upd_same (kvd_mono (same_new onG) da))
  · rw [if_neg hlim] at h1
    exact h1.elim
theorem p_asgD (ht : tgOk t = true) (hc : X.calm = true) (hN : X.N.Nodup) (hi : PI X tg iter (rdI F K cl (WEx E) t it)) (ok : BlkOk X.N X.env.scope scope own) (ho : own.map (·.2) = slots t)
    (hg : ∀ (s : Shared) (H : Hp) (C : Addr) (cl : List (Str × Addr)) (fp : List Addr), PG (X.blk s H scope (compEnvC scope cl C X.env) fp) tg (gOf K t)) (hts : ∀ (s : Shared) (H : Hp) (C : Addr) (cl' : List (Str × Addr)) (fp : List Addr), PTs (X.blk s H scope (compEnvC scope cl' C X.env) fp) ifs (rdT F K cl W0 c))
    (hk : ∀ (s : Shared) (H : Hp) (C : Addr) (cl' : List (Str × Addr)) (fp : List Addr), PE (X.blk s H scope (compEnvC scope cl' C X.env) fp) kx (rdE F K cl W0 ek))
    (he : ∀ (s : Shared) (H : Hp) (C : Addr) (cl' : List (Str × Addr)) (fp : List Addr), PE (X.blk s H scope (compEnvC scope cl' C X.env) fp) vx (rdE F K cl W0 ev)) (hs : ∀ x, foldedSetIterable iter X.env x = pure x)
    (hx : X.N[i]? = some x) (hloc : Loc X.env.scope x) (hsw : swapsWith (.DictComp kx vx [⟨tg, iter, ifs, 0⟩] scope pos) (some (.Name x p)) spos.line X.env = pure false) (hf : X.fn x = true ∨ X.env.scope.names.lookup x = some .local) :
    PS X (.Assign [.Name x p] (.DictComp kx vx [⟨tg, iter, ifs, 0⟩] scope pos) spos) (rdS F fuel K cl E (.asgD i t it c ek ev)) := by
  have h := pe_dc (pos := pos) hc hN hi ok hg hts hk he hs
  rw [ho] at h
  exact PS.imp (ps_set hN hx hloc h hsw hf) (dc_imp ht)
end
end Ft
/-! FtGet2: d.get(k, x); a chain of four comparisons. -/
namespace Ft
open PySem PySem.Spec PyProof.Rows L2 RZ
section
variable {K : PySem.W.Frag} {H G : Hp}
theorem kvd_none : ∀ {rs : List (Key × V)} {kvs : List (Key × D)} {k : Key}, KvD K H rs kvs → valA kvs k = none → valV rs k = none
  | _, _, _, .nil, _ => rfl
  | _, _, k, @KvD.cons _ _ k' v' d' r q h a, e => by
    by_cases hk : k' = k
    · subst hk
      have e' : some d' = none := by rw [← e]; simp [valA, List.find?_cons]
      cases e'
    · have e' : valA q k = none := by rw [← e]; simp [valA, List.find?_cons, hk]
      rw [valV_neg (by simpa using hk)]
      exact kvd_none a e'
end
section
variable {F : Fns} {fuel : Nat} {K : PySem.W.Frag} {cl : Str → Addr} {W : WX} {X : Cx} {a b c e f : Ft.E} {ea eb ec ed ee : Expr} {pos p apos : Pos} {x : Str} {s : Nat}
theorem s_dgetd (hu : X.A.units + 65 < cLine) (hN : X.N[s]? = some x) (hv : Vis X.env.scope x) (hd : (x == ("__debug__" : Str)) = false) (hc : (x == ("__classdict__" : Str)) = false) (hi : PE X eb (rdE F K cl W b)) (he : PE X ec (rdE F K cl W c)) (hs1 : nostar eb = true) (hs2 : nostar ec = true) (hline : (apos.endLine == pos.line) = true) : PE X (.Call (.Attribute (.Name x p) "get" apos) [eb, ec] [] pos) (rdE F K cl W (.dgetd s b c)) := by
  have hst : starEach [eb, ec] X.env = [(false, eval eb X.env), (false, eval ec X.env)] := by
    rw [star_cons hs1, star_cons hs2]
    rfl
  have hfew : ((backTo pos (starEach [eb, ec] X.env)).all (fun x => !x.1) && (backToKw pos (keywordEach [] X.env)).all (fun x => x.1.isSome) && decide ([eb, ec].length + ([] : List Keyword).length + (if ([] : List Keyword).isEmpty then 0 else 1) < 30)) = true := by
    rw [hst]
    rfl
  refine PE.imp (pe_dget2 (by omega) (pe_var hN hv hd hc) hi he ⟨attr_name, hfew, hline, by rw [hst]; rfl⟩) fun σ H Q ⟨C, G, ρ, r, h⟩ => ?_
  unfold evE at h
  obtain ⟨kvs0, hk0, h⟩ := Out.bindc h
  obtain ⟨pp, rs0, hp0, g0, _⟩ := r.diAt (dicAt_inv hk0)
  refine ⟨.ref pp, hp0, pp, rfl, .inl ⟨_, .inl (r.exG _ _ g0)⟩, C, G, ρ, r, ?_⟩
  refine Out.mono (Out.bind h) fun y ρ1 _ h1 G1 v1 H1 e1 r1 d1 => ?_
  obtain ⟨k, hk, h2⟩ := Out.bindc h1
  refine ⟨C, G1, ρ1, r1, ?_⟩
  refine Out.mono (Out.bind h2) fun z ρ2 _ h3 G2 v2 H2 e2 r2 d2 => ?_
  obtain ⟨kvs, hkv, h4⟩ := Out.bindc h3
  obtain ⟨p', rs, q1, q2, q3⟩ := r2.diAt (dicAt_inv hkv)
  rw [hp0] at q1
  cases q1
  refine ⟨valV rs k, ?_, ?_⟩
  · rw [keyD_V hk d1]
    exact DGet.k (r2.exG _ _ q2)
  · cases hval : valA kvs k with
    | none =>
      rw [hval] at h4
      rw [kvd_none q3 hval]
      exact h4 G2 v2 H2 (e1.trans e2) r2 d2
    | some d =>
      rw [hval] at h4
      obtain ⟨v, w1, w2⟩ := kvd_val q3 hval
      rw [w1]
      exact h4 G2 v H2 (e1.trans e2) r2 w2
/-! ### a op b op c op d -/
def tChain3 (r r' r2 : R2) (ta tb tc td : TE) : TE := fun σ H Q => ta σ H fun x H1 => tb σ H1 fun y H2 => r x y H2 fun z H3 => ∃ k, z = .bl k ∧
  (if k = true then tc σ H3 fun w' H4 => r' y w' H4 fun z' H5 => ∃ k', z' = .bl k' ∧ (if k' = true then td σ H5 fun w2 H6 => r2 w' w2 H6 Q else Q (.bl false) H5) else Q (.bl false) H3)
variable {ta tb tc td : TE}
theorem pe_chain3 {op op' op2 : CmpOp} {r r' r2 : R2} (ho : OpR X (compareOp op) r) (ho' : OpR X (compareOp op') r') (ho2 : OpR X (compareOp op2) r2) (ha : PE X ea ta) (hb : PE X eb tb) (hc : PE X ec tc) (hd : PE X ed td)
    (hm : behindInMarks op2 ed = false) : PE X (.Compare ea [op, op', op2] [eb, ec, ed] pos) (tChain3 r r' r2 ta tb tc td) := by
  refine ⟨fun pins s σ H Q I h => ?_⟩
  refine Compare_chain (thn (ha.run pins s σ H _ I h) fun v s1 ⟨x, H1, I1, r1, q1⟩ => chain_link (thn (hb.run pins s1 σ H1 _ I1 q1) fun u s2 ⟨y, H2, I2, r2, q2⟩ =>
    thn (ho pins s2 σ H2 x y v u _ I2 r1 r2 q2) fun d s3 ⟨z, H3, I3, r3, k, e, q3⟩ => ?_)) hm
  subst e
  cases r3
  refine wpAny_truthy_bool ?_
  cases k with
  | false => exact ite_ff ⟨.bl false, H3, I3, rfl, q3⟩
  | true =>
    refine ite_tt (chain_link (thn (hc.run pins s3 σ H3 _ I3 q3) fun w' s4 ⟨z', H4, I4, r4, q4⟩ => thn (ho' pins s4 σ H4 y z' u w' _ I4 r2 r4 q4) fun d s5 ⟨z5, H5, I5, r5, k', e', q5⟩ => ?_))
    subst e'
    cases r5
    refine wpAny_truthy_bool ?_
    cases k' with
    | false => exact ite_ff ⟨.bl false, H5, I5, rfl, q5⟩
    | true => exact ite_tt (chain_last (thn (hd.run pins s5 σ H5 _ I5 q5) fun w6 s6 ⟨z6, H6, I6, r6, q6⟩ => ho2 pins s6 σ H6 z' z6 w' w6 Q I6 r4 r6 q6))
theorem pt_chain3 {op op' op2 : CmpOp} {r r' r2 : R2} (ho : OpR X (compareOp op) r) (ho' : OpR X (compareOp op') r') (ho2 : OpR X (compareOp op2) r2) (ha : PE X ea ta) (hb : PE X eb tb) (hc : PE X ec tc) (hd : PE X ed td)
    (hm : behindInMarks op2 ed = false) : PT X (.Compare ea [op, op', op2] [eb, ec, ed] pos) (tTest (tChain3 r r' r2 ta tb tc td)) := by
  refine ⟨fun pins s σ H Q I h => ?_⟩
  refine isTrue_chain (thn (ha.run pins s σ H _ I h) fun v s1 ⟨x, H1, I1, r1, q1⟩ => test_link (thn (hb.run pins s1 σ H1 _ I1 q1) fun u s2 ⟨y, H2, I2, r2, q2⟩ =>
    thn (ho pins s2 σ H2 x y v u _ I2 r1 r2 q2) fun d s3 ⟨z, H3, I3, r3, k, e, q3⟩ => ?_)) hm
  subst e
  cases r3
  refine wpAny_truthy_bool ?_
  cases k with
  | false =>
    obtain ⟨k', e', q'⟩ := q3
    cases e'
    exact ite_ff ⟨H3, I3, q'⟩
  | true =>
    refine ite_tt (test_link (thn (hc.run pins s3 σ H3 _ I3 q3) fun w' s4 ⟨z', H4, I4, r4, q4⟩ => thn (ho' pins s4 σ H4 y z' u w' _ I4 r2 r4 q4) fun d s5 ⟨z5, H5, I5, r5, k', e', q5⟩ => ?_))
    subst e'
    cases r5
    refine wpAny_truthy_bool ?_
    cases k' with
    | false =>
      obtain ⟨k', e', q'⟩ := q5
      cases e'
      exact ite_ff ⟨H5, I5, q'⟩
    | true =>
      refine ite_tt (test_last (thn (hd.run pins s5 σ H5 _ I5 q5) fun w6 s6 ⟨z6, H6, I6, r6, q6⟩ => thn (ho2 pins s6 σ H6 z' z6 w' w6 _ I6 r4 r6 q6) fun d' s7 ⟨z7, H7, I7, r7, k7, e7, q7⟩ => ?_))
      subst e7
      cases r7
      exact wpAny_truthy_bool ⟨H7, I7, q7⟩
theorem s_chain3 {op op' op2 : CmpOp} {cm cm' cm2 : Cm} {r r' rr : R2} (ho : OpR X (compareOp op) r) (ho' : OpR X (compareOp op') r') (ho2 : OpR X (compareOp op2) rr) (hb2 : Bin2P K r (cmpD cm)) (hb2' : Bin2P K r' (cmpD cm')) (hb22 : Bin2P K rr (cmpD cm2)) (ha : PE X ea (rdE F K cl W a)) (hb : PE X eb (rdE F K cl W b)) (he : PE X ee (rdE F K cl W e)) (hf : PE X ed (rdE F K cl W f))
    (hm : behindInMarks op2 ed = false) : PE X (.Compare ea [op, op', op2] [eb, ee, ed] pos) (rdE F K cl W (.chain3 cm cm' cm2 a b e f)) := by
  refine PE.imp (pe_chain3 ho ho' ho2 ha hb he hf hm) fun σ H Q ⟨C, G, ρ, r, h⟩ => ⟨C, G, ρ, r, ?_⟩
  unfold evE at h
  refine h.bind.mono fun x ρ1 _ h1 G1 v1 H1 e1 r1 d1 => ⟨C, G1, ρ1, r1, ?_⟩
  refine Out.mono (Out.bind h1) fun y ρ2 _ h2 G2 v2 H2 e2 r2 d2 => ?_
  obtain ⟨z, hz, h3⟩ := Out.bindc h2
  refine hb2 hz (dp_mono (e2.trans r2.exG) d1) (dp_mono r2.exG d2) ⟨z, rfl, ?_⟩
  cases z with
  | false =>
    rw [if_neg Bool.false_ne_true] at h3
    exact iteF (h3 G2 _ H2 (e1.trans e2) r2 (.bl false))
  | true =>
    rw [if_pos rfl] at h3
    refine iteT ⟨C, G2, ρ2, r2, ?_⟩
    refine Out.mono (Out.bind h3) fun u ρ3 _ h4 G3 v3 H3 e3 r3 d3 => ?_
    obtain ⟨z', hz', h5⟩ := Out.bindc h4
    refine hb2' hz' (dp_mono (e3.trans r3.exG) d2) (dp_mono r3.exG d3) ⟨z', rfl, ?_⟩
    cases z' with
    | false =>
      rw [if_neg Bool.false_ne_true] at h5
      exact iteF (h5 G3 _ H3 ((e1.trans e2).trans e3) r3 (.bl false))
    | true =>
      rw [if_pos rfl] at h5
      refine iteT ⟨C, G3, ρ3, r3, ?_⟩
      refine Out.mono (Out.bind h5) fun u4 ρ4 _ h6 G4 v4 H4 e4 r4 d4 => ?_
      obtain ⟨z4, hz4, h7⟩ := Out.bindc h6
      exact hb22 hz4 (dp_mono (e4.trans r4.exG) d3) (dp_mono r4.exG d4) (h7 G4 _ H4 (((e1.trans e2).trans e3).trans e4) r4 (.bl z4))
theorem t_chain3 {op op' op2 : CmpOp} {cm cm' cm2 : Cm} {r r' rr : R2} (ho : OpR X (compareOp op) r) (ho' : OpR X (compareOp op') r') (ho2 : OpR X (compareOp op2) rr) (hb2 : Bin2P K r (cmpD cm)) (hb2' : Bin2P K r' (cmpD cm')) (hb22 : Bin2P K rr (cmpD cm2)) (ha : PE X ea (rdE F K cl W a)) (hb : PE X eb (rdE F K cl W b)) (he : PE X ee (rdE F K cl W e)) (hf : PE X ed (rdE F K cl W f))
    (hm : behindInMarks op2 ed = false) : PT X (.Compare ea [op, op', op2] [eb, ee, ed] pos) (rdT F K cl W (.tr (.chain3 cm cm' cm2 a b e f))) := by
  refine PT.imp (pt_chain3 ho ho' ho2 ha hb he hf hm) fun σ H Q ⟨C, G, ρ, r, h⟩ => ⟨C, G, ρ, r, ?_⟩
  unfold evT pk evE at h
  refine h.bind.bind.mono fun x ρ1 _ h1 G1 v1 H1 e1 r1 d1 => ⟨C, G1, ρ1, r1, ?_⟩
  refine Out.mono (Out.bind h1) fun y ρ2 _ h2 G2 v2 H2 e2 r2 d2 => ?_
  obtain ⟨z, hz, h3⟩ := Out.bindc h2
  refine hb2 hz (dp_mono (e2.trans r2.exG) d1) (dp_mono r2.exG d2) ⟨z, rfl, ?_⟩
  cases z with
  | false =>
    rw [if_neg Bool.false_ne_true] at h3
    exact iteF ⟨false, rfl, h3 G2 H2 (e1.trans e2) r2⟩
  | true =>
    rw [if_pos rfl] at h3
    refine iteT ⟨C, G2, ρ2, r2, ?_⟩
    refine Out.mono (Out.bind h3) fun u ρ3 _ h4 G3 v3 H3 e3 r3 d3 => ?_
    obtain ⟨z', hz', h5⟩ := Out.bindc h4
    refine hb2' hz' (dp_mono (e3.trans r3.exG) d2) (dp_mono r3.exG d3) ⟨z', rfl, ?_⟩
    cases z' with
    | false =>
      rw [if_neg Bool.false_ne_true] at h5
      exact iteF ⟨false, rfl, h5 G3 H3 ((e1.trans e2).trans e3) r3⟩
    | true =>
      rw [if_pos rfl] at h5
      refine iteT ⟨C, G3, ρ3, r3, ?_⟩
      refine Out.mono (Out.bind h5) fun u4 ρ4 _ h6 G4 v4 H4 e4 r4 d4 => ?_
      obtain ⟨z4, hz4, h7⟩ := Out.bindc h6
      exact hb22 hz4 (dp_mono (e4.trans r4.exG) d3) (dp_mono r4.exG d4) ⟨z4, rfl, h7 G4 H4 (((e1.trans e2).trans e3).trans e4) r4⟩
end
end Ft
/-! FtJoin: a text's join of a list or a tuple of texts. -/
namespace Ft
open PySem PySem.Spec PyProof.Rows L2
section
variable {F : Fns} {K : PySem.W.Frag} {cl : Str → Addr} {W : WX} {X : Cx} {b : Ft.E} {ea eb : Expr} {pos p apos : Pos} {s : Str} {kk : Nat}
theorem s_join (hK : X.K = K) (ha : PE X ea (rdE F K cl W (.str s))) (hb : PE X eb (rdE F K cl W b)) (hs : nostar eb = true) (hline : (apos.endLine == pos.line) = true) (hbase : attributeBase ea "join" X.env (eval ea X.env) = eval ea X.env) :
    PE X (.Call (.Attribute ea "join" apos) [eb] [] pos) (rdE F K cl W (.prim2 .join (.str s) b)) := by
  refine PE.imp (pe_join ha hb (by rw [star_cons hs]; rfl) hbase hline) fun σ H Q ⟨C, G, ρ, r, h⟩ => ⟨C, G, ρ, r, ?_⟩
  unfold evE at h
  refine h.bind.mono fun x ρ1 hx h1 G1 v1 H1 e1 r1 d1 => ?_
  have hx : Except.ok (PyData.str s, ρ) = Except.ok (x, ρ1) := hx
  cases hx
  cases d1
  refine ⟨⟨s, rfl⟩, C, G1, ρ, r1, ?_⟩
  refine Out.mono (Out.bind h1) fun y ρ2 _ h2 G2 v2 H2 e2 r2 d2 => ?_
  obtain ⟨z, hz, h3⟩ := Out.bindc h2
  have done : ∀ {xs : List D} {vs : List V}, bindR (strsD xs) (fun ys => if (ys.map (·.length)).sum + ys.length * s.length ≤ 16777216 then Except.ok (PyData.str (Txt.join s ys)) else stk) = Except.ok z → DpAll K G2 vs xs → ∃ ys : List Str, vs = ys.map V.str ∧ (ys.map (·.length)).sum + ys.length * s.length ≤ 16777216 ∧ z = .str (Txt.join s ys) := fun {xs vs} hq hd => by
    obtain ⟨ys, g1, g2⟩ := bindR_ok_inv hq
    split at g2
    · rename_i hl
      cases g2
      exact ⟨ys, strs_of g1 hd, hl, rfl⟩
    · cases g2
  rw [hK]
  cases d2 with
  | lst q1 q2 =>
    obtain ⟨ys, rfl, hl, rfl⟩ := done hz q2
    exact ⟨s, _, ys, rfl, rfl, .inl (same_l r2.exG q1), hl, h3 G2 _ H2 (e1.trans e2) r2 (.str _)⟩
  | tup q1 q2 =>
    obtain ⟨ys, rfl, hl, rfl⟩ := done hz q2
    exact ⟨s, _, ys, rfl, rfl, .inr (same_t r2.exG q1), hl, h3 G2 _ H2 (e1.trans e2) r2 (.str _)⟩
  | _ => cases hz
end
end Ft
/-! FtIdx: t.index(x) of a tuple of texts. -/
namespace Ft
open PySem PySem.Spec PyProof.Rows L2
theorem idx_first {z : Str} : ∀ {ys : List Str}, z ∈ ys → ys[ys.idxOf z]? = some z ∧ ∀ m, m < ys.idxOf z → ys[m]? ≠ some z
  | [], h => by cases h
  | y :: ys, h => by
    by_cases e : y = z
    · subst e
      simp
    · have hm : z ∈ ys := by
        rcases List.mem_cons.mp h with h | h
        · exact absurd h.symm e
        · exact h
      obtain ⟨h1, h2⟩ := idx_first hm
      have hb : (y == z) = false := by simpa using e
      rw [List.idxOf_cons, hb, cond_false]
      refine ⟨by simpa using h1, fun m hl => ?_⟩
      cases m with
      | zero => simpa using e
      | succ m => simpa using h2 m (by omega)
def abOk : Expr → Bool
  | .Name _ _ => true
  | .Subscript _ _ _ => true
  | _ => false
theorem ab_of {e : Expr} {m : Str} {env : PySem.Env} (h : abOk e = true) : attributeBase e m env (eval e env) = eval e env := by
  cases e with
  | Name _ _ => rfl
  | Subscript _ _ _ => rfl
  | _ => cases h
section
variable {F : Fns} {K : PySem.W.Frag} {cl : Str → Addr} {W : WX} {X : Cx} {a b : Ft.E} {ea eb : Expr} {pos p apos : Pos}
theorem s_idx {i : Nat} (hK : X.K = K) (ha : PE X ea (rdE F K cl W a)) (hb : PE X eb (rdE F K cl W (.loc i))) (hs : nostar eb = true) (hline : (apos.endLine == pos.line) = true) (hbase : abOk ea = true) :
    PE X (.Call (.Attribute ea "index" apos) [eb] [] pos) (rdE F K cl W (.prim2 .index a (.loc i))) := by
  refine PE.imp (pe_idx ha (pa_cons hb pa_nil (star_cons hs)) (ab_of hbase) (by rw [star_cons hs]; rfl) hline (star_cons hs) rfl) fun σ H Q ⟨C, G, ρ, r, h⟩ => ⟨C, G, ρ, r, ?_⟩
  unfold evE at h
  refine h.bind.mono fun x ρ1 hx h1 G1 v1 H1 e1 r1 d1 => ?_
  cases hq : evE F (.loc i) ρ1 with
  | error e =>
    have h1 : Out C cl W σ (bindR (evE F (.loc i) ρ1) _) _ := h1
    rw [hq] at h1
    have he : e = .stuck := by
      unfold evE rd at hq
      split at hq
      all_goals first | (cases hq; done) | (cases hq; rfl)
    subst he
    exact h1.elim
  | ok q =>
    obtain ⟨y, ρ2⟩ := q
    have h1 : Out C cl W σ (bindR (evE F (.loc i) ρ1) _) _ := h1
    rw [hq, bindR_ok] at h1
    obtain ⟨z, hz, h3⟩ := Out.bindc h1
    cases d1 with
    | tup q1 q2 =>
      cases y with
      | str w =>
        obtain ⟨ys, g1, g2⟩ := bindR_ok_inv (show bindR (strsD _) (fun ys => if w ∈ ys then Except.ok (PyData.int (ys.idxOf w : Nat)) else stk) = Except.ok z from hz)
        split at g2
        · rename_i hm
          cases g2
          have ev := strs_of g1 q2
          subst ev
          refine ⟨_, rfl, ⟨_, same_n r1.exG q1⟩, C, G1, ρ1, r1, ?_⟩
          rw [hq]
          intro G2 v2 H2 e2 r2 d2
          cases d2
          obtain ⟨i1, i2⟩ := idx_first hm
          exact ⟨ys, w, ys.idxOf w, rfl, by rw [hK]; exact same_t (e2.trans r2.exG) q1, i1, i2, h3 G2 _ H2 (e1.trans e2) r2 (.int _)⟩
        · cases g2
      | _ => cases hz
    | _ => cases y <;> cases hz
end
end Ft
/-! FtPar: several at once. -/
namespace Ft
open PySem PySem.Spec PyProof.Rows L2 RZ
section
variable (F : Fns) (K : PySem.W.Frag) (cl : Str → Addr) (W : WX)
/-- a new dict -/
def rdD (e : E) : TE := fun σ H Q => ∃ C G ρ, Rel K C G ρ σ H ∧ Out C cl W σ (evD F e ρ) (fun kvs ρ' => ∀ G' p rs H', Same G G' → Rel K C G' ρ' σ H' → G' p = some (.dK rs) → KvD K G' rs kvs → Q (.ref p) H')
def rdM : Md → E → TE
  | .im, e => rdE F K cl W e
  | .mu, e => rdF F K cl W e
  | .di, e => rdD F K cl W e
def rdMs : List (Nat × Md) → E → TA
  | q :: qs, .cons e es => fun σ H Q => rdM F K cl W q.2 e σ H fun v H1 => rdMs qs es σ H1 fun vs H2 => Q (v :: vs) H2
  | _, _ => fun _ H Q => Q [] H
end
/-- what is held for a cell -/
def GotC (K : PySem.W.Frag) (C : RC) (G : Hp) (ρ : Env) (σ : L2.St) (H : Hp) : Cell → V → Prop
  | .im d, v => Dp K G v d
  | .mu ds, v => ∃ p xs, v = .ref p ∧ Own C G ρ σ H p xs ∧ DpAll K G xs ds
  | .di kvs, v => ∃ p rs, v = .ref p ∧ G p = some (.dK rs) ∧ KvD K G rs kvs
  | _, _ => False
def MuIn (cs : List Cell) (vs : List V) (p : Addr) : Prop := ∃ (j : Nat) (ds : List D), cs[j]? = some (.mu ds) ∧ vs[j]? = some (V.ref p)
inductive GotAll (K : PySem.W.Frag) (C : RC) (G : Hp) (ρ : Env) (σ : L2.St) (H : Hp) : List Cell → List V → Prop where
  | nil : GotAll K C G ρ σ H [] []
  | cons {c : Cell} {v : V} {cs : List Cell} {vs : List V} (h : GotC K C G ρ σ H c v) (ap : ∀ ds p, c = .mu ds → v = .ref p → ¬ MuIn cs vs p) (t : GotAll K C G ρ σ H cs vs) : GotAll K C G ρ σ H (c :: cs) (v :: vs)
section
variable {K : PySem.W.Frag} {C : RC} {G H : Hp} {ρ : Env} {σ : L2.St}
theorem GotAll.len {cs : List Cell} {vs : List V} (g : GotAll K C G ρ σ H cs vs) : cs.length = vs.length := by
  induction g with
  | nil => rfl
  | cons _ _ _ ih => simp [ih]
theorem GotAll.unw {p : Addr} {xs : List V} (nP : C.P p = none) {cs : List Cell} {vs : List V} (g : GotAll K (C.with p (.lst xs)) G ρ σ H cs vs) : GotAll K C G ρ σ H cs vs ∧ ¬ MuIn cs vs p := by
  induction g with
  | nil => exact ⟨.nil, fun ⟨j, ds, h, _⟩ => by simp at h⟩
  | @cons c v cs vs h ap t ih =>
    have key : GotC K C G ρ σ H c v ∧ ∀ ds, c = .mu ds → v ≠ .ref p := by
      cases c with
      | no => exact h.elim
      | rf _ => exact h.elim
      | im d => exact ⟨h, fun ds e => by cases e⟩
      | di kvs => exact ⟨h, fun ds e => by cases e⟩
      | mu ds =>
        obtain ⟨q, ys, e, o, hx⟩ := h
        have hne : q ≠ p := fun z => by
          have h5 := o.nP
          rw [z] at h5
          have h6 : (C.with p (.lst xs)).P p = some (.lst xs) := upd_same
          rw [h6] at h5
          cases h5
        refine ⟨⟨q, ys, e, ⟨o.at_, o.nG, ?_, o.nM⟩, hx⟩, fun _ _ z => ?_⟩
        · have h5 : upd C.P p (.lst xs) q = none := o.nP
          rw [upd_ne hne] at h5
          exact h5
        · rw [e] at z
          cases z
          exact hne rfl
    refine ⟨.cons key.1 ap ih.1, fun ⟨j, ds, h1, h2⟩ => ?_⟩
    cases j with
    | zero =>
      have e1 : c = .mu ds := by simpa using h1
      have e2 : v = .ref p := by simpa using h2
      exact key.2 ds e1 e2
    | succ j => exact ih.2 ⟨j, ds, by simpa using h1, by simpa using h2⟩
theorem muAt_setC {i j : Nat} {c : Cell} {v : V} {p : Addr} (m : MuAt (ρ.set i c) (σ.set i (some v)) j p) : MuAt ρ σ j p ∨ ∃ ds, c.ls = some ds ∧ v = .ref p := by
  by_cases hj : j = i
  · subst hj
    obtain ⟨c', ds, h1, h2, h3⟩ := m
    have hl : j < ρ.length := by
      have := (List.getElem?_eq_some_iff.mp h1).1
      simpa using this
    have hl2 : j < σ.length := by
      have := (List.getElem?_eq_some_iff.mp h3).1
      simpa using this
    rw [List.getElem?_set_self hl] at h1
    rw [List.getElem?_set_self hl2] at h3
    cases h1
    have h3' := Option.some.inj (Option.some.inj h3)
    exact .inr ⟨ds, h2, h3'⟩
  · exact .inl (muAt_set m hj)
def setsV : List (Nat × Md) → List V → L2.St → L2.St
  | q :: qs, v :: vs, σ => setsV qs vs (σ.set q.1 (some v))
  | _, _, σ => σ
theorem Rel.setC (r : Rel K C G ρ σ H) (i : Nat) {c : Cell} {v : V} (g : GotC K C G ρ σ H c v) : Rel K C G (ρ.set i c) (σ.set i (some v)) H := by
  cases c with
  | no => exact g.elim
  | rf _ => exact g.elim
  | im d => exact r.setIm i g
  | di kvs =>
    obtain ⟨p, rs, rfl, h1, h2⟩ := g
    exact r.setDi i h1 h2
  | mu ds =>
    obtain ⟨p, xs, rfl, o, hx⟩ := g
    exact r.setMu i o hx
theorem Rel.sets : ∀ (is : List (Nat × Md)) {cs : List Cell} {vs : List V} {ρ : Env} {σ : L2.St}, Rel K C G ρ σ H → GotAll K C G ρ σ H cs vs → Rel K C G (setsE is cs ρ) (setsV is vs σ) H
  | [], _, _, _, _, r, _ => by unfold setsE setsV; exact r
  | q :: qs, _, _, _, _, r, .nil => by unfold setsE setsV; exact r
  | q :: qs, c :: cs, v :: vs, ρ, σ, r, .cons g ap t => by
    unfold setsE setsV
    refine Rel.sets qs (r.setC q.1 g) ?_
    have hls : ∀ ds, c.ls = some ds → ∃ ds', c = .mu ds' := fun ds e => by
      cases c with
      | mu ds' => exact ⟨ds', rfl⟩
      | rf _ => exact g.elim
      | _ => cases e
    have go : ∀ {cs : List Cell} {vs : List V}, GotAll K C G ρ σ H cs vs → (∀ ds p, c = .mu ds → v = .ref p → ¬ MuIn cs vs p) → GotAll K C G (ρ.set q.1 c) (σ.set q.1 (some v)) H cs vs := by
      intro cs vs t
      induction t with
      | nil => exact fun _ => .nil
      | @cons c' v' cs' vs' h' ap' t' ih =>
        intro ap
        refine .cons ?_ ap' (ih fun ds p e1 e2 ⟨j, es, m1, m2⟩ => ap ds p e1 e2 ⟨j + 1, es, by simpa using m1, by simpa using m2⟩)
        cases c' with
        | no => exact h'.elim
        | rf _ => exact h'.elim
        | im d => exact h'
        | di kvs => exact h'
        | mu ds =>
          obtain ⟨p, xs, e, o, hx⟩ := h'
          refine ⟨p, xs, e, ⟨o.at_, o.nG, o.nP, fun j m => ?_⟩, hx⟩
          rcases muAt_setC m with m | ⟨ds', h1, h2⟩
          · exact o.nM j m
          · obtain ⟨ds2, hc⟩ := hls ds' h1
            exact ap ds2 p hc h2 ⟨0, ds, rfl, by rw [e]; rfl⟩
    exact go t ap
end
section
variable {F : Fns} {fuel : Nat} {K : PySem.W.Frag} {cl : Str → Addr} {W : WX} {E : XK} {X : Cx}
theorem rdM_of {m : Md} {e : Ft.E} {C : RC} {G H : Hp} {ρ : Env} {σ : L2.St} {Q : VK} (r : Rel K C G ρ σ H) (h : Out C cl W σ (evX F m e ρ) (fun c ρ' => ∀ G' v H', Same G G' → Rel K C G' ρ' σ H' → GotC K C G' ρ' σ H' c v → Q v H')) : rdM F K cl W m e σ H Q := by
  cases m with
  | im => exact ⟨C, G, ρ, r, Out.mono (Out.bind h) fun d ρ' _ k G' v H' e1 r1 d1 => k G' v H' e1 r1 d1⟩
  | di => exact ⟨C, G, ρ, r, Out.mono (Out.bind h) fun kvs ρ' _ k G' p rs H' e1 r1 h1 h2 => k G' _ H' e1 r1 ⟨p, rs, rfl, h1, h2⟩⟩
  | mu =>
    refine ⟨C, G, ρ, r, Out.mono (Out.bind h) fun d ρ' _ k => ?_⟩
    obtain ⟨c, hc, k⟩ := Out.bindc k
    cases d with
    | list ds =>
      cases hc
      exact ⟨ds, rfl, fun G' p xs H' e1 r1 o hx => k G' _ H' e1 r1 ⟨p, xs, rfl, o, hx⟩⟩
    | _ => cases hc
theorem par_all : ∀ (is : List (Nat × Md)) (es : Ft.E) {C : RC} {G H : Hp} {ρ : Env} {σ : L2.St} {Q : List V → Hp → Prop}, Rel K C G ρ σ H →
    Out C cl W σ (evP F is es ρ) (fun cs ρ' => ∀ G' vs H', Same G G' → Rel K C G' ρ' σ H' → GotAll K C G' ρ' σ H' cs vs → Q vs H') → rdMs F K cl W is es σ H Q := by
  intro is
  induction is with
  | nil =>
    intro es C G H ρ σ Q r h
    cases es with
    | nil =>
      unfold evP at h
      unfold rdMs
      exact h G [] H (Same.refl _) r .nil
    | _ => unfold evP at h; exact h.elim
  | cons q qs ih =>
    intro es C G H ρ σ Q r h
    cases es with
    | cons e es =>
      unfold evP at h
      unfold rdMs
      refine rdM_of r (Out.mono (Out.bind h) fun c ρ1 _ h1 G1 v H1 e1 r1 g1 => ?_)
      cases c with
      | no => exact g1.elim
      | rf _ => exact g1.elim
      | im d => exact ih es r1 (Out.mono (Out.bind h1) fun cs ρ2 _ k G2 vs H2 e2 r2 g2 => k G2 (v :: vs) H2 (e1.trans e2) r2 (.cons (dp_mono e2 g1) (fun _ _ e => by cases e) g2))
      | di kvs =>
        obtain ⟨p, rs, rfl, h3, h4⟩ := g1
        exact ih es r1 (Out.mono (Out.bind h1) fun cs ρ2 _ k G2 vs H2 e2 r2 g2 => k G2 (_ :: vs) H2 (e1.trans e2) r2 (.cons ⟨p, rs, rfl, e2 _ _ h3, kvd_mono e2 h4⟩ (fun _ _ e => by cases e) g2))
      | mu ds =>
        obtain ⟨p, xs, rfl, o, hx⟩ := g1
        have nG0 : C.G0 p = none := r1.ex0.free o.nG
        have gd := r1.guard o.at_ o.nG o.nM
        refine ih es gd (Out.mono (Out.bind (Out.rc (C' := C.with p (.lst xs)) h1 fun H' z => Same.with o.nP z)) fun cs ρ2 _ k G2 vs H2 e2 r2 g2 => ?_)
        obtain ⟨r2', hp, ng, nm⟩ := Rel.unguard o.nP nG0 r2
        obtain ⟨g3, nin⟩ := g2.unw o.nP
        exact k G2 (_ :: vs) H2 (e1.trans e2) r2' (.cons ⟨p, xs, rfl, ⟨hp, ng nG0, o.nP, nm⟩, dps_mono e2 hx⟩ (fun _ _ _ ev => by cases ev; exact nin) g3)
    | _ => unfold evP at h; exact h.elim
/-! ### the targets -/
def gNames : List (Nat × Md) → TGs
  | [] => gNil
  | q :: qs => gCons (gName q.1) (gNames qs)
theorem gNames_of : ∀ (is : List (Nat × Md)) {vs : List V} {σ : L2.St} {H : Hp} {Q : L2.St → Hp → Prop}, vs.length = is.length → Q (setsV is vs σ) H → gNames is vs σ H Q
  | [], [], _, _, _, _, q => ⟨rfl, q⟩
  | [], _ :: _, _, _, _, h, _ => by cases h
  | q :: qs, [], _, _, _, h, _ => by cases h
  | q :: qs, v :: vs, σ, H, Q, h, k => ⟨v, vs, rfl, gNames_of qs (by simpa using h) (by unfold setsV at k; exact k)⟩
inductive Nms (X : Cx) : List (Nat × Md) → List Expr → Prop where
  | nil : Nms X [] []
  | cons {q : Nat × Md} {qs : List (Nat × Md)} {x : Str} {p : Pos} {es : List Expr} (h : PG X (.Name x p) (gName q.1)) (t : Nms X qs es) : Nms X (q :: qs) (.Name x p :: es)
theorem Nms.pgs {is : List (Nat × Md)} {ts : List Expr} (h : Nms X is ts) : PGs X ts (gNames is) ∧ (assignEach ts X.env).length = is.length ∧ (assignEach ts X.env).findIdx? (·.1) = none := by
  induction h with
  | nil => exact ⟨pgs_nil, rfl, rfl⟩
  | @cons q qs x p es h t ih =>
    refine ⟨pgs_cons h ih.1 rfl, ?_, ?_⟩
    · show (assignEach es X.env).length + 1 = qs.length + 1
      rw [ih.2.1]
    · show List.findIdx? (·.1) ((false, _) :: assignEach es X.env) = none
      rw [List.findIdx?_cons]
      simp [ih.2.2]
inductive Exs (X : Cx) (F : Fns) (K : PySem.W.Frag) (cl : Str → Addr) (W : WX) : List (Nat × Md) → Ft.E → List Expr → Prop where
  | nil : Exs X F K cl W [] .nil []
  | cons {q : Nat × Md} {qs : List (Nat × Md)} {e es : Ft.E} {v : Expr} {vs : List Expr} (h : PE X v (rdM F K cl W q.2 e)) (hn : nostar v = true) (t : Exs X F K cl W qs es vs) : Exs X F K cl W (q :: qs) (.cons e es) (v :: vs)
theorem Exs.pa {is : List (Nat × Md)} {es : Ft.E} {vs : List Expr} (h : Exs X F K cl W is es vs) : PA X vs (rdMs F K cl W is es) := by
  induction h with
  | nil => exact PA.imp pa_nil fun σ H Q q => q
  | @cons q qs e es v vs h hn t ih => exact pa_cons h ih (star_cons hn)
theorem evP_len : ∀ (is : List (Nat × Md)) (es : Ft.E) {ρ ρ' : Env} {cs : List Cell}, evP F is es ρ = .ok (cs, ρ') → cs.length = is.length := by
  intro is
  induction is with
  | nil => intro es ρ ρ' cs h; cases es with
    | nil => unfold evP at h; cases h; rfl
    | _ => unfold evP at h; cases h
  | cons q qs ih => intro es ρ ρ' cs h; cases es with
    | cons e es =>
      unfold evP at h
      cases h1 : evX F q.2 e ρ with
      | error x => rw [h1] at h; cases h
      | ok p =>
        rw [h1, bindR_ok] at h
        dsimp only at h
        cases h2 : evP F qs es p.2 with
        | error x => rw [h2] at h; cases h
        | ok p2 =>
          rw [h2] at h
          cases h
          simp [ih es h2]
    | _ => unfold evP at h; cases h
theorem par_coreL {is : List (Nat × Md)} {es : Ft.E} {Q : List V → Hp → Prop} {C : RC} {G H : Hp} {ρ : Env} {σ : L2.St} {k : Res → Env → Prop} (r : Rel K C G ρ σ H)
    (h : Out C cl (WEx E) σ (evS F fuel (.par is es) ρ) k) (q : ∀ vs G2 H2 ρ', vs.length = is.length → Same G G2 → Rel K C G2 ρ' (setsV is vs σ) H2 → k .nx ρ' → Q vs H2) : rdMs F K cl (WEx E) is es σ H Q := by
  unfold evS at h
  exact par_all is es r (Out.mono (Out.bind h) fun cs ρ1 he h1 G1 vs H1 e1 r1 g1 => q vs G1 H1 _ (by rw [← g1.len]; exact evP_len is es he) e1 (Rel.sets is r1 g1) h1)
/-- a tuple is made and taken apart -/
theorem p_parN {is : List (Nat × Md)} {es : Ft.E} {ts vs : List Expr} {kt k2 : Nat} {pt pt2 pos : Pos} (hK : X.K = K) (hc : X.calm = true) (hl : is.length ≤ 1000) (hn : Nms X is ts) (he : Exs X F K cl (WEx E) is es vs) (hw : swappedStores [.Tuple ts kt pt] (.Tuple vs k2 pt2) X.env = pure none) :
    PS X (.Assign [.Tuple ts kt pt] (.Tuple vs k2 pt2) pos) (rdS F fuel K cl E (.par is es)) := by
  obtain ⟨g1, g2, g3⟩ := hn.pgs
  refine PS.imp (ps_asg (pe_tup he.pa) (pg_tup hc g1 g2 g3) rfl hw rfl) fun D σ H ⟨C, G, ρ, r, h⟩ => ?_
  exact par_coreL r h fun vs G2 H2 ρ' hlen e2 r2 k => ⟨by rw [hlen]; exact Nat.le_trans hl (by decide), fun pt hpt => ⟨pt, vs, rfl, SqT.of upd_same, hlen, gNames_of is hlen (k _ G2 _ e2 (r2.alloc hpt))⟩⟩
theorem p_parS2 {q1 q2 : Nat × Md} {es : Ft.E} {x y : Str} {px py : Pos} {vs : List Expr} {kt k2 : Nat} {pt pt2 pos : Pos} (hc : X.calm = true) (hN : X.N.Nodup) (hi : X.N[q1.1]? = some x) (hj : X.N[q2.1]? = some y) (hij : q1.1 ≠ q2.1) (hx : X.env.scope.names.lookup x = some .local) (hy : X.env.scope.names.lookup y = some .local)
    (he : Exs X F K cl (WEx E) [q1, q2] es vs) (hw : swappedStores [.Tuple [.Name x px, .Name y py] kt pt] (.Tuple vs k2 pt2) X.env = pure (some [x, y])) :
    PS X (.Assign [.Tuple [.Name x px, .Name y py] kt pt] (.Tuple vs k2 pt2) pos) (rdS F fuel K cl E (.par [q1, q2] es)) := by
  have hp := he.pa
  cases he with
  | cons h1 n1 t =>
    cases t with
    | cons h2 n2 t =>
      cases t
      refine PS.imp (ps_par hc hN hi hj hij hx hy hp hw rfl) fun D σ H ⟨C, G, ρ, r, h⟩ => ?_
      refine par_coreL r h fun vs G2 H2 ρ' hlen e2 r2 k => ?_
      match vs, hlen with
      | [u, v], _ => exact ⟨u, v, rfl, k _ G2 _ e2 r2⟩
theorem p_parS3 {q1 q2 q3 : Nat × Md} {es : Ft.E} {x y z : Str} {px py pz : Pos} {vs : List Expr} {kt k2 : Nat} {pt pt2 pos : Pos} (hc : X.calm = true) (hN : X.N.Nodup) (hi : X.N[q1.1]? = some x) (hj : X.N[q2.1]? = some y) (hl : X.N[q3.1]? = some z) (hij : q1.1 ≠ q2.1) (hil : q1.1 ≠ q3.1) (hjl : q2.1 ≠ q3.1)
    (hx : X.env.scope.names.lookup x = some .local) (hy : X.env.scope.names.lookup y = some .local) (hz : X.env.scope.names.lookup z = some .local)
    (he : Exs X F K cl (WEx E) [q1, q2, q3] es vs) (hw : swappedStores [.Tuple [.Name x px, .Name y py, .Name z pz] kt pt] (.Tuple vs k2 pt2) X.env = pure (some [x, y, z])) :
    PS X (.Assign [.Tuple [.Name x px, .Name y py, .Name z pz] kt pt] (.Tuple vs k2 pt2) pos) (rdS F fuel K cl E (.par [q1, q2, q3] es)) := by
  have hp := he.pa
  cases he with
  | cons h1 n1 t =>
    cases t with
    | cons h2 n2 t =>
      cases t with
      | cons h3 n3 t =>
        cases t
        refine PS.imp (ps_par3 hc hN hi hj hl hij hil hjl hx hy hz hp hw rfl) fun D σ H ⟨C, G, ρ, r, h⟩ => ?_
        refine par_coreL r h fun vs G2 H2 ρ' hlen e2 r2 k => ?_
        match vs, hlen with
        | [u, v, w], _ => exact ⟨u, v, w, rfl, k _ G2 _ e2 r2⟩
/-- x = a new dict -/
theorem p_asgZ {i : Nat} {x : Str} {e : Ft.E} {ee : Expr} {p pos : Pos} (hN : X.N.Nodup) (hi : X.N[i]? = some x) (hx : Loc X.env.scope x) (he : PE X ee (rdD F K cl (WEx E) e)) (hs : swapsWith ee (some (.Name x p)) pos.line X.env = pure false) (hf : X.fn x = true ∨ X.env.scope.names.lookup x = some .local) : PS X (.Assign [.Name x p] ee pos) (rdS F fuel K cl E (.asgZ i e)) := by
  refine PS.imp (ps_set hN hi hx he hs hf) fun D σ H ⟨C, G, ρ, r, h⟩ => ⟨C, G, ρ, r, ?_⟩
  unfold evS at h
  exact Out.mono (Out.bind h) fun kvs ρ1 _ h1 G1 p rs H1 e1 r1 h2 h3 => h1 _ G1 H1 e1 (r1.setDi i h2 h3)
/-! ### the order of the stores -/
def swF (sc : Scope) (ts vs : List Expr) : Option (Option (List Str)) :=
  if !(ts.length == 2 || ts.length == 3) || vs.length != ts.length then some none
  else if vs.any (fun | .Starred .. => true | _ => false) then some none
  else
    let line := (ts.head?.map (·.pos.line)).getD 0
    let names := ts.filterMap fun
      | .Name id pos => if sc.names.lookup id == some .local && pos.line == line then some id else none
      | _ => none
    if names.length != ts.length || names.eraseDups.length != names.length then some none
    else if vs.all (foldedForSure 8) then some none
    else if vs.all (constantsAlone 8) then none
    else some (some names)
theorem swF_ok {env : PySem.Env} {ts vs : List Expr} {kt k2 : Nat} {pt pt2 : Pos} {r : Option (List Str)} (hk : env.scope.kind = .function) (h : swF env.scope ts vs = some r) : swappedStores [.Tuple ts kt pt] (.Tuple vs k2 pt2) env = pure r := by
  have hb : env.blockKind = .function := by unfold Env.blockKind; rw [hk]; rfl
  have hkn : ∀ x, env.kindOf x = env.scope.names.lookup x := fun _ => rfl
  unfold swappedStores
  simp only [hb, hkn, bne_self_eq_false, Bool.or_false]
  unfold swF at h
  by_cases c1 : (!(ts.length == 2 || ts.length == 3) || vs.length != ts.length) = true
  · rw [if_pos c1] at h ⊢
    cases h
    rfl
  · rw [if_neg c1] at h ⊢
    split
    · rename_i c2
      rw [if_pos (show (vs.any fun | .Starred .. => true | _ => false) = true from c2)] at h
      cases h
      rfl
    · rename_i c2
      rw [if_neg (show ¬ (vs.any fun | .Starred .. => true | _ => false) = true from c2)] at h
      dsimp only at h
      split at h
      · rename_i c3
        refine Eq.trans (if_pos (by exact c3)) ?_
        cases h
        rfl
      · rename_i c3
        refine Eq.trans (if_neg (by exact c3)) ?_
        split at h
        · rename_i c4
          refine Eq.trans (if_pos (by exact c4)) ?_
          cases h
          rfl
        · rename_i c4
          refine Eq.trans (if_neg (by exact c4)) ?_
          split at h
          · cases h
          · rename_i c5
            refine Eq.trans (if_neg (by exact c5)) ?_
            cases h
            rfl
end
end Ft
/-! FtSortT: sorted of a tuple of texts. -/
namespace Ft
open PySem PySem.Spec PyProof.Rows L2
section
variable {prog : Program} {w : World} {A : Around} {E : Value → Shared → Prop} {s : Shared}
theorem collect_tup {it : Addr} {Q : List Value → Shared → Prop} {o : Obj} {vs : List Value} {n : Nat} (ho : s.heap.get? it = some o) (hc : o.cls = .type "tuple") (hd : o.data = .seq vs.toArray n) (hsz : vs.length ≤ sizeLine)
    (hQ : Q vs { s with heap := (s.heap.push (seqObj "list" #[] 0)).update s.heap.objs.size (Obj.mapSeq (· ++ vs.toArray)) }) :
    wpAny (model prog w) A (collect (.ref it)) Q E s := by
  unfold collect
  refine wpAny_bind (wpAny_runValue (codeAny_builtin F.entry_proto_collect ?_))
  rw [Around.under_plainId F.plain_proto_collect _]
  show wpAny _ A.in1 (newList [] >>= fun l => again (.builtin "list.__iadd__" ⟨[l, .ref it], []⟩)) _ _ s
  refine wpAny_bind (wpAny_newObj_type ?_)
  refine wpAny_pure ⟨plainId_quiet F.plain_list_iadd _, codeAny_builtin F.entry_list_iadd ?_⟩
  rw [Around.under_plainId F.plain_list_iadd _]
  show wpAny _ A.in1 (Builtin.List.listExtendWith (.ref s.heap.objs.size) (.ref it) (.ref s.heap.objs.size)) _ _ _
  have hS : (s.heap.push { cls := .type "list", data := .seq ([] : List Value).toArray }).get? s.heap.objs.size = some { cls := .type "list", data := .seq #[] 0 } := Heap.get?_push_size _ rfl
  have hS₂ := Heap.get?_update_self (Obj.mapSeq (· ++ vs.toArray)) hS rfl
  have fin' : wpAny (model prog w) A (match Value.ref s.heap.objs.size with
      | Value.ref a => do
        match (← load a).data with
          | Data.seq xs _ => pure xs.toList
          | _ => unsupported "internal:collect"
      | _ => unsupported "internal:collect") Q E { s with heap := (s.heap.push { cls := .type "list", data := .seq ([] : List Value).toArray }).update s.heap.objs.size (Obj.mapSeq (· ++ vs.toArray)) } := by
    show wpAny _ A (load s.heap.objs.size >>= _) _ _ _
    refine wpAny_bind (wpAny_load hS₂ ?_)
    refine wpAny_pure ?_
    have e : ((#[] : Array Value) ++ vs.toArray).toList = vs := by simp
    show Q ((#[] : Array Value) ++ vs.toArray).toList _
    rw [e]
    exact hQ
  refine wpAny_mono (wpAny_extend_seq (hsz := by simpa using hsz) (A := A) (R := fun r s' => r = .ok (.ret (.ref s.heap.objs.size)) ∧ s' = { s with heap := (s.heap.push { cls := .type "list", data := .seq ([] : List Value).toArray }).update s.heap.objs.size (Obj.mapSeq (· ++ vs.toArray)) })
    (s := { s with heap := s.heap.push { cls := .type "list", data := .seq ([] : List Value).toArray } }) _ it _ 0 (.inr rfl) hS (Heap.get?_push_of_some _ ho) hc hd ⟨rfl, rfl⟩) (fun fin s' h => ?_) (fun e s' h => ?_)
  · cases fin with
    | done f =>
      obtain ⟨e, rfl⟩ := h
      cases e
      exact fin'
    | again c' => exact ⟨h.1, codeAny_mono h.2 fun r s'' hr => by obtain ⟨rfl, rfl⟩ := hr; exact fin'⟩
  · exact absurd h.1 (by simp)
theorem sorted_strsT {l : Addr} {o : Obj} {vs : List Value} {n : Nat} {ss : List Str} {Q : Value → Shared → Prop} (ho : s.heap.get? l = some o) (hc : o.cls = .type "tuple") (hd : o.data = .seq vs.toArray n) (hS : StrsAre vs ss) (h64 : vs.length < 64)
    (h : ∀ (out : Array Value) (ss' : List Str), StrsAre out.toList ss' → ss'.Perm ss → sortedS ss' = true → Q (.ref (s.heap.objs.size + 1)) { s with heap := sortedAll s.heap vs out }) :
    wpAny (model prog w) A (call (.builtin "sorted") [.ref l]) Q E s := by
  refine Calls.call_function_entry kind_sorted plain_sorted entry_sorted (args_sorted1 _) ?_
  unfold Builtin.«sorted»
  refine wpAny_bind (m := checkCount "sorted" 1 1 _) (wpAny_pure ?_)
  refine wpAny_bind (collect_tup ho hc hd (by rw [sizeLine_eq]; omega) ?_)
  refine wpAny_bind (wpAny_newList ?_)
  have hsz : ((s.heap.push (seqObj "list" #[] 0)).update s.heap.objs.size (Obj.mapSeq (· ++ vs.toArray))).objs.size = s.heap.objs.size + 1 := by
    rw [Heap.size_update, size_push']
  have hoL : (((s.heap.push (seqObj "list" #[] 0)).update s.heap.objs.size (Obj.mapSeq (· ++ vs.toArray))).push (seqObj "list" vs.toArray 0)).get? (s.heap.objs.size + 1) = some (seqObj "list" vs.toArray 0) := by
    rw [← hsz]; exact Heap.get?_push_size _ rfl
  show wpAny _ _ _ _ _ { s with heap := ((s.heap.push (seqObj "list" #[] 0)).update s.heap.objs.size (Obj.mapSeq (· ++ vs.toArray))).push (seqObj "list" vs.toArray 0) }
  rw [hsz]
  refine wpAny_bind (wpAny_holding (wpAny_call_entry slot_list_sort ⟨_, hoL, rfl⟩ entry_list_sort (list_sort_treeK strKind_oneLt hoL hS.keysOf (fun v₁ v₂ rest e => keyKind_strs (by rw [← e]; exact hS)) h64 fun st' a1 a2 => ⟨_, rfl, ?_⟩) (args_list_sort _)))
  obtain ⟨ss', h1, h2, h3⟩ := sorted_out_str hS a1 a2
  exact wpAny_pure ⟨_, rfl, h _ ss' h1 h2 h3⟩
end
section
variable {K : PySem.W.Frag} {X : Cx}
def rSortedT (K : PySem.W.Frag) : List V → Hp → VK → Prop := fun vs H Q => ∃ (a : Addr) (xs : List Str), vs = [V.ref a] ∧ SqT K H a (xs.map V.str) ∧ xs.length < 64 ∧
  ∀ (ys : List Str) (p : Addr), ys.Perm xs → sortedS ys = true → H p = none → Q (.ref p) (upd H p (.lst (ys.map V.str)))
theorem cr_sortedT : CallR X (.builtin "sorted") (rSortedT X.K) := by
  intro pins s σ H vs us Q I r h
  obtain ⟨a, xs, rfl, hs, h64, q⟩ := h
  obtain ⟨its, rv, ⟨o, ho, hc, n, hd⟩, _⟩ := I.tuple hs
  rw [Vals.ref1 r]
  have hlen0 := rv.length
  rw [List.length_map] at hlen0
  refine sorted_strsT ho hc hd rv.strs (by rw [← hlen0]; exact h64) fun out ys h1 h2 h3 => ?_
  obtain ⟨ep, he'⟩ := PyProof.Rows.sortedAll_at s.heap its out
  have hlen : (ys.map V.str).length ≤ sizeLine := by rw [List.length_map, h2.length_eq]; exact small64 h64
  exact ⟨.ref _, upd H (s.heap.objs.size + 1) (.lst (ys.map V.str)), I.laid (t' := s.toks) (fun _ _ => PyProof.Rows.sortedAll_old) (Nat.le_succ _) ⟨hlen, out.toList, ep, vals_of_strs h1, he'⟩, rfl, q ys _ h2 h3 (I.hok.fresh (Nat.le_succ _))⟩
end
end Ft
/-! FtSortE: sorting rows of which the first is (). -/
namespace Ft
open PySem PySem.Spec PyProof.Rows L2
open PySem.W (alike alikeAll dataLt AllAlike SortsAt dataKind dataKind_some dataKind_inv EachIs dataLt_tuple firstLt_toks eqAt_alikeAll rcLt_alikeAll kas_first_eq)
section
variable {prog : Program} {w : World} {A : Around} {E : Value → Shared → Prop} {s : Shared}
theorem call_tupLt {Q : Value → Shared → Prop} {l b : Addr} {items items2 : Array Value} {e r : Nat → Bool} (hl : s.heap.IsTuple l items) (hb : s.heap.IsTuple b items2)
    (he : ∀ j (h1 : j < items.size) (h2 : j < items2.size), SeqAt.EqAt A.in1 s items[j] items2[j] (e j)) (hr : ∀ j (h1 : j < items.size) (h2 : j < items2.size), e j = false → SeqAt.RcLt A.in1 s items[j] items2[j] (r j))
    (h : Q (.bool (SeqAt.firstLt e r (decide (items.size < items2.size)) (List.range (min items.size items2.size)))) s) : wpAny (model prog w) A (call (.builtin "tuple.__lt__") [.ref l, .ref b]) Q E s := by
  obtain ⟨⟨cls, dd, data, sl⟩, ho, hc, n, hd⟩ := id hl
  obtain ⟨⟨cls2, dd2, data2, sl2⟩, ho2, hc2, n2, hd2⟩ := id hb
  simp only at hc hd hc2 hd2
  subst hc hd hc2 hd2
  exact call_meets F.slot_tuple_lt ⟨_, ho, rfl⟩ F.entry_tuple_lt (F.args_tuple_lt_2 _ _) (SeqAt.tuple_ltAt l b items items2 n n2 dd dd2 sl sl2 e r) ⟨ho, ho2, he, hr, h⟩
theorem oneLt_tup {xs ys : List PyData} {a b : Value} {as bs : List Addr} {Q : Bool → Shared → Prop} (ra : Reads s.heap a (.tuple xs) as) (rb : Reads s.heap b (.tuple ys) bs) (hal : alikeAll xs ys = true)
    (hu : A.units + min (PyData.tuple xs).depth (PyData.tuple ys).depth < cLine) (hq : Q (dataLt (.tuple xs) (.tuple ys)) s) : wpAny (model prog w) A (oneLt' true a b) Q E s := by
  cases ra with
  | @tuple l o vs n _ as₁ h1 h2 h3 h4 =>
    cases rb with
    | @tuple l' o' vs' n' _ bs₁ k1 k2 k3 k4 =>
      have n1 : vs.size = xs.length := by simpa using SeqAt.ReadsAll.length _ _ _ h4
      have n2 : vs'.size = ys.length := by simpa using SeqAt.ReadsAll.length _ _ _ k4
      rw [dataLt_tuple, ← firstLt_toks xs ys hal, ← n1, ← n2] at hq
      rw [oneLt'_eq]
      simp only [if_true]
      refine wpAny_bind (wpAny_cRoomFor (SeqAt.room_here hu) ?_)
      refine wpAny_bind (wpAny_callSpecialIfBound?_slot (T := "tuple") ⟨_, h1, h2⟩ F.slot_tuple_lt (call_tupLt (e := SeqAt.pairEq xs ys) (r := fun j => dataLt (xs.getD j .none) (ys.getD j .none)) ⟨_, h1, h2, _, h3⟩ ⟨_, k1, k2, _, k3⟩ (fun j j1 j2 => ?_) (fun j j1 j2 hj => ?_) ?_))
      · have := eqAt_alikeAll xs ys A.in1 s vs.toList vs'.toList _ _ h4 k4 hal (SeqAt.room_in hu) j (by simpa using j1) (by simpa using j2)
        simpa using this
      · have := rcLt_alikeAll xs ys A.in1 s vs.toList vs'.toList _ _ h4 k4 hal (SeqAt.room_in hu) j (by simpa using j1) (by simpa using j2) hj
        simpa using this
      · exact wpAny_truthy_bool hq
theorem first_tup {v : Value} {xs : List PyData} {as : List Addr} (r : Reads s.heap v (.tuple xs) as) : ∃ f : Option Value, (xs = [] → f = none) ∧ ∀ Q : Option Value → Shared → Prop, Q f s → wpAny (model prog w) A (firstOfTuple' v) Q E s := by
  cases r with
  | @tuple a o vs n _ _ ho hc hd hr =>
    refine ⟨vs[0]?, fun e => ?_, fun Q hq => ?_⟩
    · subst e
      have hr' : ReadsAll s.heap vs.toList [] _ := hr
      cases q : vs.toList with
      | nil => rw [← Array.getElem?_toList, q]; rfl
      | cons a b =>
        rw [q] at hr'
        cases hr'
    · rw [kas_first_eq]
      refine wpAny_bind (PySem.W.Looks.here (show PySem.W.Looks (model prog w) s.heap (typeOf (.ref a)) o.cls from (PySem.W.Looks.ld ho).andThen .now) ?_)
      rw [hc, if_neg (by first | decide | simp)]
      exact wpAny_bind (listItems_at ho hd (wpAny_pure hq))
theorem firsts_tup : ∀ {vs : List Value} {ds : List PyData}, EachIs (fun v d => ∃ as, Reads s.heap v d as) vs ds → (∀ d ∈ ds, ∃ xs, d = PyData.tuple xs) →
    ∃ fs : List (Option Value), fs.length = vs.length ∧ (ds.head? = some (.tuple []) → fs.head? = some none) ∧ ∀ Q : List (Option Value) → Shared → Prop, Q fs s → wpAny (model prog w) A (vs.mapM firstOfTuple') Q E s
  | _, _, .nil, _ => ⟨[], rfl, (fun h => by cases h), fun Q hq => by rw [List.mapM_nil]; exact wpAny_pure hq⟩
  | _, _, .cons (b := d) (as := vs) ⟨as, r⟩ t, ht => by
    obtain ⟨xs, rfl⟩ := ht d List.mem_cons_self
    obtain ⟨f, f1, f2⟩ := first_tup (prog := prog) (w := w) (A := A) (E := E) r
    obtain ⟨fs, g1, g2, g3⟩ := firsts_tup t fun d hd => ht d (List.mem_cons_of_mem _ hd)
    refine ⟨f :: fs, by simp [g1], fun h => ?_, fun Q hq => ?_⟩
    · have h := Option.some.inj (show some _ = some _ from h)
      injection h with h
      rw [f1 h]
      rfl
    · rw [List.mapM_cons]
      exact wpAny_bind (f2 _ (wpAny_bind (g3 _ (wpAny_pure hq))))
theorem sortsE {vs : List Value} {ds : List PyData} (e : EachIs (fun v d => ∃ as, Reads s.heap v d as) vs ds) (hal : AllAlike ds) (ht : ∀ d ∈ ds, ∃ xs, d = PyData.tuple xs) (h0 : ds.head? = some (.tuple [])) (hu : ∀ d, d ∈ ds → A.units + d.depth < cLine) :
    SortsAt prog w A s (dataKind s.heap ds) vs := by
  refine ⟨fun v hv => ?_, oneType', ?_, fun h2 E Q hq => ?_⟩
  · obtain ⟨d, hd, as, r⟩ := e.left v hv
    exact ⟨_, dataKind_some hal hd r⟩
  · intro E x y a b Q ha hb hq
    obtain ⟨d, as, hd, ra, rfl⟩ := dataKind_inv ha
    obtain ⟨d', as', hd', rb, rfl⟩ := dataKind_inv hb
    rw [keyLt'_oneType]
    have hdd := hal d hd d' hd'
    have hroom : A.units + min d.depth d'.depth < cLine := Nat.lt_of_le_of_lt (Nat.add_le_add_left (Nat.min_le_left _ _) _) (hu d hd)
    obtain ⟨x1, rfl⟩ := ht d hd
    obtain ⟨x2, rfl⟩ := ht d' hd'
    exact oneLt_tup ra rb (by simpa [alike] using hdd) hroom hq
  · obtain ⟨fs, f1, f2, f3⟩ := firsts_tup (prog := prog) (w := w) (A := A) (E := E) e ht
    have f2 := f2 h0
    cases fs with
    | nil => cases f2
    | cons f fr =>
      have ef : f = none := Option.some.inj (show some _ = some _ from f2)
      subst ef
      rw [keyKind'_eq, List.mapM_toArray, map_eq_pure_bind]
      refine wpAny_bind (wpAny_bind (f3 _ (wpAny_pure ?_)))
      rw [if_neg (by simp), if_neg (by simp)]
      rw [oneTypeOnly'_eq, List.mapM_toArray, map_eq_pure_bind]
      refine wpAny_bind (wpAny_bind (wpAny_bind (PySem.W.kas_mapM (r := Value.type "tuple") _ (fun v hv Q' hq => ?_) (wpAny_pure ?_))))
      · obtain ⟨d, hd, as, r⟩ := e.left v hv
        obtain ⟨xs, rfl⟩ := ht d hd
        exact (PySem.W.looks_reads r).here hq
      · have hall : ((List.map (fun _ => Value.type "tuple") vs).toArray.all fun x => x == Value.type "tuple") = true := by
          simp only [List.all_toArray, List.all_map, List.all_eq_true]
          intro _ _
          exact beq_self_eq_true _
        have h0 : (List.map (fun _ => Value.type "tuple") vs).toArray[0]? = some (Value.type "tuple") := by
          cases vs with
          | nil => simp at h2
          | cons v vs => simp
        rw [h0]
        simp only [hall, if_true]
        exact wpAny_pure (wpAny_pure hq)
end
end Ft
/-! FtSort: sorted of rows (tuples). -/
namespace Ft
open PySem PySem.Spec PyProof.Rows L2
section
variable {K : PySem.W.Frag} {X : Cx}
theorem each_of_dps {H : Hp} {R : Value → D → Prop} : ∀ {xs : List V} {us : List Value} {ds : List D}, Vals xs us → DpAll K H xs ds → (∀ x u d, RelV x u → Dp K H x d → R u d) → PySem.W.EachIs R us ds
  | _, _, _, .nil, .nil, _ => .nil
  | _, _, _, .cons r v, .cons h a, f => .cons (f _ _ _ r h) (each_of_dps v a f)
theorem dps_of_each {H : Hp} : ∀ {us : List Value} {ds : List D}, PySem.W.EachIs (fun u d => ∃ x, RelV x u ∧ Dp K H x d) us ds → ∃ xs, Vals xs us ∧ DpAll K H xs ds
  | _, _, .nil => ⟨[], .nil, .nil⟩
  | _, _, .cons ⟨x, r, h⟩ a => by
    obtain ⟨xs, v, b⟩ := dps_of_each a
    exact ⟨x :: xs, .cons r v, .cons h b⟩
def rSortedR (K : PySem.W.Frag) : List V → Hp → VK → Prop := fun vs H Q => ∃ (a : Addr) (xs : List V) (ds : List D), vs = [V.ref a] ∧ SqL K H a xs ∧ ∃ G, Same G H ∧ DpAll K G xs ds ∧ rowsOk ds = true ∧
  ∀ (ys : List V) (p : Addr), DpAll K G ys (ds.mergeSort (PySem.W.dataLe false id)) → H p = none → Q (.ref p) (upd H p (.lst ys))
theorem rows_inv {ds : List D} (h : rowsOk ds = true) : PySem.W.AllAlike ds ∧ (∀ d ∈ ds, ∃ x r, d = .tuple (x :: r)) ∧ (∀ d ∈ ds, d.depth ≤ 60) ∧ ds.length ≤ LIM := by
  unfold rowsOk at h
  rw [Bool.and_eq_true, Bool.and_eq_true] at h
  obtain ⟨⟨h1, h2⟩, h3⟩ := h
  rw [List.all_eq_true] at h1 h2
  refine ⟨fun d hd d' hd' => ?_, fun d hd => ?_, fun d hd => ?_, of_decide_eq_true h3⟩
  · have := h1 d hd
    rw [List.all_eq_true] at this
    exact this d' hd'
  · have := h2 d hd
    split at this
    · exact ⟨_, _, rfl⟩
    · cases this
  · have := h2 d hd
    split at this
    · exact of_decide_eq_true this
    · cases this
theorem cr_sortedR (hu : X.A.units + 65 < cLine) : CallR X (.builtin "sorted") (rSortedR X.K) := by
  intro pins s σ H vs us Q I r h
  obtain ⟨a, xs, ds, rfl, hs, G, eG, hd, hok, q⟩ := h
  obtain ⟨its, rv, hl, hz⟩ := I.list hs
  rw [Vals.ref1 r]
  obtain ⟨h1, h2, h3, h4⟩ := rows_inv hok
  have hlen : xs.length = ds.length := dps_len hd
  have e1 : PySem.W.EachIs (fun u d => ∃ x, RelV x u ∧ Dp X.K G x d) its ds := each_of_dps rv hd fun x u d r1 d1 => ⟨x, r1, d1⟩
  have e2 : PySem.W.EachIs (fun u d => ∃ as, Reads s.heap u (id d) as) its ds := each_of_dps rv hd fun x u d r1 d1 => Dp.reads I d x u (dp_mono eG d1) r1
  have hal : PySem.W.AllAlike (ds.map id) := by rw [List.map_id]; exact h1
  have hsr : PySem.W.Sortable (ds.map id) := by rw [List.map_id]; exact .inl h2
  refine PySem.W.sorted_data (R := fun u d => ∃ x, RelV x u ∧ Dp X.K G x d) (enc := id) hl.isList e1 e2 hal hsr (by rw [← hlen]; exact hz) (fun d hd => ?_) fun out ho eo => ?_
  · have := h3 d hd
    show X.A.units + 2 + d.depth < cLine
    omega
  · obtain ⟨ys, vy, dy⟩ := dps_of_each eo
    obtain ⟨ep, he'⟩ := PyProof.Rows.sortedAll_at s.heap its out.toArray
    have hle : ys.length ≤ sizeLine := by
      rw [vy.length, ho, ← hlen]
      exact hz
    exact ⟨.ref _, upd H (s.heap.objs.size + 1) (.lst ys), I.laid (t' := s.toks) (fun _ _ => PyProof.Rows.sortedAll_old) (Nat.le_succ _) ⟨hle, out, ep, vy, he'⟩, rfl, q _ _ dy (I.hok.fresh (Nat.le_succ _))⟩
/-! ### the first row is empty -/
def rSorted1 (K : PySem.W.Frag) : List V → Hp → VK → Prop := fun vs H Q => ∃ (a : Addr) (xs : List V) (ds : List D), vs = [V.ref a] ∧ SqL K H a xs ∧ ∃ G, Same G H ∧ DpAll K G xs ds ∧ rowsE ds = true ∧ ds.head? = some (.tuple []) ∧
  ∀ (ys : List V) (p : Addr), DpAll K G ys (ds.mergeSort (PySem.W.dataLe false id)) → H p = none → Q (.ref p) (upd H p (.lst ys))
theorem rowsE_inv {ds : List D} (h : rowsE ds = true) : PySem.W.AllAlike ds ∧ (∀ d ∈ ds, ∃ r, d = .tuple r) ∧ (∀ d ∈ ds, d.depth ≤ 60) ∧ ds.length ≤ LIM := by
  unfold rowsE at h
  rw [Bool.and_eq_true, Bool.and_eq_true] at h
  obtain ⟨⟨h1, h2⟩, h3⟩ := h
  rw [List.all_eq_true] at h1 h2
  refine ⟨fun d hd d' hd' => ?_, fun d hd => ?_, fun d hd => ?_, of_decide_eq_true h3⟩
  · have := h1 d hd
    rw [List.all_eq_true] at this
    exact this d' hd'
  · have := h2 d hd
    split at this
    · exact ⟨_, rfl⟩
    · cases this
  · have := h2 d hd
    split at this
    · exact of_decide_eq_true this
    · cases this
theorem cr_sorted1 (hu : X.A.units + 65 < cLine) : CallR X (.builtin "sorted") (rSorted1 X.K) := by
  intro pins s σ H vs us Q I r h
  obtain ⟨a, xs, ds, rfl, hs, G, eG, hd, hok, h0, q⟩ := h
  obtain ⟨its, rv, hl, hz⟩ := I.list hs
  rw [Vals.ref1 r]
  obtain ⟨h1, h2, h3, h4⟩ := rowsE_inv hok
  have hlen : xs.length = ds.length := dps_len hd
  have e1 : PySem.W.EachIs (fun u d => ∃ x, RelV x u ∧ Dp X.K G x d) its ds := each_of_dps rv hd fun x u d r1 d1 => ⟨x, r1, d1⟩
  have e2 : PySem.W.EachIs (fun u d => ∃ as, Reads s.heap u (id d) as) its ds := each_of_dps rv hd fun x u d r1 d1 => Dp.reads I d x u (dp_mono eG d1) r1
  have er' : PySem.W.EachIs (fun v d => ∃ as, Reads (PySem.W.sortingHeap (PySem.W.copyHeap s.heap its) (s.heap.objs.size + 1) its) v (id d) as) its ds := e2.mono fun _ _ ⟨as, r⟩ => ⟨as, PyProof.Rows.Reads.keeps (fun _ _ => PySem.W.sorting_copy_old) r⟩
  have hal : PySem.W.AllAlike (ds.map id) := by rw [List.map_id]; exact h1
  have hS : PySem.W.SortsAt X.prog X.w X.A.in1.in1 { s with heap := PySem.W.sortingHeap (PySem.W.copyHeap s.heap its) (s.heap.objs.size + 1) its } (PySem.W.dataKind (PySem.W.sortingHeap (PySem.W.copyHeap s.heap its) (s.heap.objs.size + 1) its) (ds.map id)) its := by
    rw [List.map_id]
    refine sortsE er' h1 h2 h0 fun d hd => ?_
    have := h3 d hd
    show X.A.units + 2 + d.depth < cLine
    omega
  refine PySem.W.sorted_vals hl.isList hS (by rw [e1.length, ← hlen]; exact hz) ?_
  have eo := PySem.W.sortVals_data (R := fun u d => ∃ x, RelV x u ∧ Dp X.K G x d) (enc := id) false e1 er' hal
  have ho : (PySem.W.sortVals (PySem.W.dataKind (PySem.W.sortingHeap (PySem.W.copyHeap s.heap its) (s.heap.objs.size + 1) its) (ds.map id)) false its its).length = ds.length := by
    rw [PySem.W.sortVals_length false rfl]
    exact e1.length
  generalize PySem.W.sortVals (PySem.W.dataKind (PySem.W.sortingHeap (PySem.W.copyHeap s.heap its) (s.heap.objs.size + 1) its) (ds.map id)) false its its = out at eo ho ⊢
  obtain ⟨ys, vy, dy⟩ := dps_of_each eo
  obtain ⟨ep, he'⟩ := PyProof.Rows.sortedAll_at s.heap its out.toArray
  have hle : ys.length ≤ sizeLine := by
    rw [vy.length, ho, ← hlen]
    exact hz
  exact ⟨.ref _, upd H (s.heap.objs.size + 1) (.lst ys), I.laid (t' := s.toks) (fun _ _ => PyProof.Rows.sortedAll_old) (Nat.le_succ _) ⟨hle, out, ep, vy, he'⟩, rfl, q _ _ dy (I.hok.fresh (Nat.le_succ _))⟩
theorem cr_sortedA (hu : X.A.units + 65 < cLine) : CallR X (.builtin "sorted") (fun vs H Q => rSortedS X.K vs H Q ∨ rSortedR X.K vs H Q ∨ rSorted1 X.K vs H Q ∨ rSortedT X.K vs H Q) := CallR.or cr_sortedS (CallR.or (cr_sortedR hu) (CallR.or (cr_sorted1 hu) cr_sortedT))
theorem u_sorted : Un1 K (fun vs H Q => rSortedS K vs H Q ∨ rSortedR K vs H Q ∨ rSorted1 K vs H Q ∨ rSortedT K vs H Q) (primD .sorted) := by
  intro x d v C G H ρ σ Q hd rr pk k
  cases x with
  | list ds =>
    have hd : sortedD ds = .ok d := hd
    unfold sortedD at hd
    obtain ⟨a, xs, rfl, h3, h4⟩ := pk.lst rr.exG
    cases hs : strsD ds with
    | ok ss =>
      rw [hs] at hd
      have hd : (if ss.length < 64 then Except.ok (PyData.list ((sortS ss).map .str)) else (stk : R D)) = .ok d := hd
      split at hd
      · rename_i hl
        cases hd
        have e := strs_of hs h4
        subst e
        refine .inl ⟨a, ss, rfl, h3, hl, fun ys p hp hs hn => ?_⟩
        have e : ys = sortS ss := rise_unique (rise_of_sortedS hs) (sortS_rise ss) (hp.trans (sortS_perm ss).symm)
        subst e
        have nG := rr.nG hn
        exact k _ _ _ (same_new nG) (rr.know hn) (.lst (SqL.of upd_same) (dps_strs _ _))
      · cases hd
    | error er =>
      rw [hs] at hd
      have hd : (if rowsOk ds = true then Except.ok (PyData.list (ds.mergeSort (PySem.W.dataLe false id))) else (match ds with | [.tuple []] => .ok (.list ds) | .tuple [] :: r => (if rowsE (.tuple [] :: r) then .ok (.list ((.tuple [] :: r).mergeSort (PySem.W.dataLe false id))) else stk) | _ => (stk : R D))) = .ok d := hd
      split at hd
      · rename_i hok
        cases hd
        refine .inr (.inl ⟨a, xs, ds, rfl, h3, G, rr.exG, h4, hok, fun ys p hy hn => ?_⟩)
        have nG := rr.nG hn
        exact k _ _ _ (same_new nG) (rr.know hn) (.lst (SqL.of upd_same) (dps_mono (same_new nG) hy))
      · have go : ∀ zs : List D, zs = ds → rowsE zs = true → zs.head? = some (.tuple []) → d = .list (zs.mergeSort (PySem.W.dataLe false id)) → (rSortedS K [V.ref a] H Q ∨ rSortedR K [V.ref a] H Q ∨ rSorted1 K [V.ref a] H Q ∨ rSortedT K [V.ref a] H Q) := fun zs ez hok h0 ed => by
          subst ez ed
          exact Or.inr (Or.inr (Or.inl ⟨a, xs, _, rfl, h3, G, rr.exG, h4, hok, h0, fun ys p hy hn => by
            have nG := rr.nG hn
            exact k _ _ _ (same_new nG) (rr.know hn) (.lst (SqL.of upd_same) (dps_mono (same_new nG) hy))⟩))
        split at hd
        · cases hd
          exact go _ rfl (by decide) rfl (by simp)
        · split at hd
          · rename_i hok
            cases hd
            exact go _ rfl hok rfl rfl
          · cases hd
        · cases hd
  | tuple ds =>
    have hd : sortedT ds = .ok d := hd
    unfold sortedT at hd
    cases pk.tup with
    | tup h3 h4 =>
      cases hs : strsD ds with
      | ok ss =>
        rw [hs] at hd
        have hd : (if ss.length < 64 then Except.ok (PyData.list ((sortS ss).map .str)) else (stk : R D)) = .ok d := hd
        split at hd
        · rename_i hl
          cases hd
          have e := strs_of hs h4
          subst e
          refine .inr (.inr (.inr ⟨_, ss, rfl, same_t rr.exG h3, hl, fun ys p hp hs hn => ?_⟩))
          have e : ys = sortS ss := rise_unique (rise_of_sortedS hs) (sortS_rise ss) (hp.trans (sortS_perm ss).symm)
          subst e
          have nG := rr.nG hn
          exact k _ _ _ (same_new nG) (rr.know hn) (.lst (SqL.of upd_same) (dps_strs _ _))
        · cases hd
      | error er =>
        rw [hs] at hd
        cases hd
  | _ => cases hd
/-! ### min of rows -/
def rMinR (K : PySem.W.Frag) : List V → Hp → VK → Prop := fun vs H Q => ∃ (a : Addr) (xs : List V) (d : D) (r : List D), vs = [V.ref a] ∧ SqL K H a xs ∧ ∃ G, Same G H ∧ DpAll K G xs (d :: r) ∧ rowsOk (d :: r) = true ∧ ∀ y, Dp K G y (PySem.W.minD d r) → Q y H
theorem depthAll_le {n : Nat} : ∀ {ds : List D}, (∀ d ∈ ds, d.depth ≤ n) → PyData.depthAll ds ≤ n
  | [], _ => by simp [PyData.depthAll]
  | d :: ds, h => by
    have h1 := h d List.mem_cons_self
    have h2 := depthAll_le (ds := ds) fun x hx => h x (List.mem_cons_of_mem _ hx)
    simp only [PyData.depthAll]
    omega
theorem cr_minR (hc : X.calm = true) (hu : X.A.units + 65 < cLine) : CallR X (.builtin "min") (rMinR X.K) := by
  intro pins s σ H vs us Q I r h
  obtain ⟨a, xs, d, ds, rfl, hs, G, eG, hd, hok, q⟩ := h
  obtain ⟨its, rv, hl, hz⟩ := I.list hs
  rw [Vals.ref1 r]
  obtain ⟨h1, h2, h3, h4⟩ := rows_inv hok
  obtain ⟨as, hr⟩ := Dp.readsAll I _ _ _ (dps_mono eG hd).up rv
  refine PySem.W.min_list_data (I.ok.hd hc) hl.isList hr ⟨fun x hx y hy => h1 x hx y hy, fun x hx e => ?_⟩ ?_ fun i v h' tk bs hv hrd hk => ?_
  · obtain ⟨z, w, e2⟩ := h2 x hx
    rw [e] at e2
    cases e2
  · have := depthAll_le h3
    omega
  · have hv' : its[i]? = some v := by simpa using hv
    have hi : i < xs.length := by
      rw [rv.length]
      exact (List.getElem?_eq_some_iff.mp hv').1
    have hx := List.getElem?_eq_getElem hi
    obtain ⟨w, hw, rw'⟩ := rv.get hx
    have ew : w = v := by
      rw [hv'] at hw
      cases hw
      rfl
    subst ew
    obtain ⟨dd, hdd, dp⟩ := dps_get' hd hx
    obtain ⟨cs, rd0⟩ := Dp.reads I _ _ _ (dp_mono eG dp) rw'
    obtain ⟨e1, _⟩ := PyProof.Rows.reads_det (fun b o hb _ => hk b o hb) rd0 hrd
    refine ⟨_, H, I.kept (t' := tk) hk, rw', q _ ?_⟩
    rw [e1]
    exact dp
theorem cr_minA (hc : X.calm = true) (hu : X.A.units + 65 < cLine) : CallR X (.builtin "min") (fun vs H Q => rMin X.K vs H Q ∨ rMinR X.K vs H Q) := CallR.or (cr_min hc) (cr_minR hc hu)
theorem u_minA : Un1 K (fun vs H Q => rMin K vs H Q ∨ rMinR K vs H Q) (primD .min) := by
  intro x d v C G H ρ σ Q hd rr pk k
  cases x with
  | list ds =>
    have hd : minLD ds = .ok d := hd
    unfold minLD at hd
    cases hs : intsD ds with
    | ok ns =>
      rw [hs] at hd
      refine .inl (u_min (x := .list ds) (z := d) ?_ rr pk k)
      show bindR (intsD ds) _ = _
      rw [hs]
      exact hd
    | error er =>
      rw [hs] at hd
      cases ds with
      | nil => cases hd
      | cons y r =>
        have hd : (if rowsOk (y :: r) = true then Except.ok (PySem.W.minD y r) else (stk : R D)) = .ok d := hd
        split at hd
        · rename_i hok
          cases hd
          obtain ⟨a, xs, rfl, h3, h4⟩ := pk.lst rr.exG
          exact .inr ⟨a, xs, y, r, rfl, h3, G, rr.exG, h4, hok, fun w hw => k G w H (Same.refl G) rr hw⟩
        · cases hd
  | _ => cases hd
end
end Ft
/-! FtLc2: comprehensions of two clauses. -/
namespace Ft
open PySem PySem.Spec PyProof.Rows L2 RZ
theorem wipe_app (σ : L2.St) : ∀ (a b : List Nat), wipe σ (a ++ b) = wipe (wipe σ b) a
  | [], _ => rfl
  | v :: a, b => by
    show (wipe σ (a ++ b)).set v none = (wipe (wipe σ b) a).set v none
    rw [wipe_app σ a b]
theorem wipe_set_comm (v : Nat) : ∀ (r : List Nat) (σ : L2.St), wipe (σ.set v none) r = (wipe σ r).set v none
  | [], _ => rfl
  | u :: r, σ => by
    show (wipe (σ.set v none) r).set u none = ((wipe σ r).set u none).set v none
    rw [wipe_set_comm v r σ]
    by_cases h : v = u
    · subst h
      rfl
    · rw [List.set_comm _ _ h]
theorem wipe_idem (σ : L2.St) : ∀ vs : List Nat, wipe (wipe σ vs) vs = wipe σ vs
  | [] => rfl
  | v :: r => by
    show (wipe ((wipe σ r).set v none) r).set v none = (wipe σ r).set v none
    rw [wipe_set_comm v r, wipe_idem σ r, List.set_set]
section
variable {F : Fns} {K : PySem.W.Frag} {cl : Str → Addr} {W : WX} {X : Cx} {it it2 c e : E} {t t2 : Tg} {elt tg iter tg1 iter1 : Expr} {ifs1 : List Expr} {scope : Scope} {pos : Pos} {own : List (Str × Nat)}
theorem lc2_imp (ht : tgOk t = true) (ht2 : tgOk t2 = true) (σ : L2.St) (H : Hp) (Q : VK) (h : rdF F K cl W (.lc2 t it t2 it2 c e) σ H Q) :
    tLc2 (rdI F K cl W t it) (gOf K t) (rdT F K cl W0 .tt) (rdI F K cl W0 t2 it2) (gOf K t2) (rdT F K cl W0 c) (rdE F K cl W0 e) (slots t ++ slots t2) (slots t2) σ H Q := by
  obtain ⟨C, G, ρ, r, h⟩ := h
  refine ⟨C, G, ρ, r, ?_⟩
  unfold evE at h
  refine h.bind.mono fun xs ρ1 _ h1 G1 J H1 e1 r1 w1 => ?_
  generalize hin : (fun ρ2 : Env => bindR (evI F it2 ρ2) fun q => lcL t2 (evT F c) (evE F e) q.1 (clr t2 q.2)) = inn at h1
  have h1 : Out C cl W σ (bindR (calmR (lc2L t inn xs (clr t (clr t2 ρ1)))) (fun q => if q.1.length < LIM then (Except.ok (PyData.list q.1, back t2 ρ1 (back t (clr t2 ρ1) q.2)) : R (D × Env)) else stk)) _ := h1
  cases hq : calmR (lc2L t inn xs (clr t (clr t2 ρ1))) with
  | error er =>
    have : er = .stuck := by
      cases hl : lc2L t inn xs (clr t (clr t2 ρ1)) with
      | ok a => rw [hl] at hq; cases hq
      | error x => rw [hl] at hq; cases hq; rfl
    subst this
    rw [hq] at h1
    exact h1.elim
  | ok q =>
    rw [hq] at h1
    have hl := calm_ok hq
    obtain ⟨ds, ρ2⟩ := q
    have h1 : Out C cl W σ (if ds.length < LIM then (Except.ok (PyData.list ds, back t2 ρ1 (back t (clr t2 ρ1) ρ2)) : R (D × Env)) else stk) _ := h1
    by_cases hlim : ds.length < LIM
    · rw [if_pos hlim] at h1
      obtain ⟨ds', ed, k⟩ := h1
      have ed : ds = ds' := by cases ed; rfl
      subst ed
      intro Dl hD
      have nP : C.P Dl = none := r1.nP hD
      have nG1 : G1 Dl = none := r1.nG hD
      have nG0 : C.G0 Dl = none := r1.ex0.free nG1
      have hσ : wipe (wipe σ (slots t2)) (slots t) = wipe σ (slots t ++ slots t2) := (wipe_app σ (slots t) (slots t2)).symm
      refine ⟨fun i m H' => m = xs.length - i ∧ i ≤ xs.length ∧ ∃ Gi ρi accV accD rest, Same G1 Gi ∧ Rel K C Gi ρi (wipe σ (slots t ++ slots t2)) H' ∧ Own C Gi ρi (wipe σ (slots t ++ slots t2)) H' Dl accV ∧ DpAll K Gi accV accD ∧
          lc2L t inn (xs.drop i) ρi = .ok (rest, ρ2) ∧ accD ++ rest = ds, ⟨xs.length, by simp, Nat.zero_le _, G1, clr t (clr t2 ρ1), [], [], ds, Same.refl _, by rw [← hσ]; exact ((r1.alloc hD).clr (t := t2)).clr, ⟨upd_same, nG1, nP, fun j m => r1.nM hD j (muAt_clr (muAt_clr (t := t) (by rw [hσ]; exact m)))⟩, .nil, by rw [List.drop_zero]; exact hl, rfl⟩, ?_⟩
      rintro i m H' ⟨rfl, hi, Gi, ρi, accV, accD, rest, ex, ri, oi, da, hrun, hsum⟩
      by_cases hlt : i < xs.length
      · refine .inr ⟨w1.go i H' hlt (ex.trans ri.exG), fun H'' => _ ∧ _ ∧ _, fun H'' hN => ⟨xs.length - (i + 1), by omega, hN⟩, fun x H2 hy => ?_⟩
        obtain ⟨d, Gn, hxd, en, en2, en3, fr, dpx⟩ := w1.yld i H' x H2 Gi hlt ex ri.exG hy
        have rn : Rel K C Gn ρi (wipe σ (slots t ++ slots t2)) H2 := ri.step en en2 en3 fr
        have nGn : Gn Dl = none := by
          cases q : Gn Dl with
          | none => rfl
          | some o =>
            have := fr Dl (by rw [q]; simp) oi.nG
            rw [oi.at_] at this
            cases this
        have hdrop : xs.drop i = d :: xs.drop (i + 1) := by
          obtain ⟨hl1, hl2⟩ := List.getElem?_eq_some_iff.mp hxd
          rw [List.drop_eq_getElem_cons hl1, hl2]
        rw [hdrop] at hrun
        unfold lc2L at hrun
        cases htg : tgt t d ρi with
        | error er => rw [htg] at hrun; cases hrun
        | ok ρa =>
          rw [htg, bindC_ok] at hrun
          refine tgt_of htg rn dpx fun σ2 ra hw hm => ?_
          have hw2 : wipe σ2 (slots t ++ slots t2) = wipe σ (slots t ++ slots t2) := by
            rw [hw (slots t ++ slots t2) (fun _ z => List.mem_append_left _ z), wipe_idem]
          refine ⟨hw2, ?_⟩
          have hDa : H2 Dl = some (.lst accV) := en3 _ _ oi.at_
          have gd : Rel K (C.with Dl (.lst accV)) Gn ρa σ2 H2 := ra.guard hDa nGn (hm Dl oi.nM)
          refine ⟨_, Gn, ρa, gd, ?_⟩
          show ∀ G' H', Same Gn G' → Rel K (C.with Dl (.lst accV)) G' ρa σ2 H' → _
          intro Gb Hb eb rb
          obtain ⟨qr, hinr, hrun⟩ := bindR_ok_inv hrun
          obtain ⟨es, ρe⟩ := qr
          obtain ⟨qs, hqs, hqe⟩ := bindR_ok_inv hrun
          obtain ⟨rest', ρ2'⟩ := qs
          have hqe : Except.ok (es ++ rest', ρ2') = (Except.ok (rest, ρ2) : R (List D × Env)) := hqe
          have e1' : rest = es ++ rest' := by cases hqe; rfl
          have e2' : ρ2' = ρ2 := by cases hqe; rfl
          subst e1' e2'
          rw [← hin] at hinr
          have hinr : bindR (evI F it2 ρa) (fun q => lcL t2 (evT F c) (evE F e) q.1 (clr t2 q.2)) = .ok (es, ρe) := hinr
          obtain ⟨qi, hqi, hlc⟩ := bindR_ok_inv hinr
          obtain ⟨ys, ρb⟩ := qi
          have hlc : lcL t2 (evT F c) (evE F e) ys (clr t2 ρb) = .ok (es, ρe) := hlc
          refine iteT ⟨_, Gb, ρa, rb, ?_⟩
          rw [hqi]
          show ∀ G' J H', Same Gb G' → Rel K (C.with Dl (.lst accV)) G' ρb σ2 H' → WalkD K G' J ys t2 → _
          intro Gc J1 H4 ec rc w2
          obtain ⟨rc', hDc, nGc, nMc⟩ := Rel.unguard nP nG0 rc
          -- the inner loop
          refine ⟨fun j kk H5 => kk = ys.length - j ∧ j ≤ ys.length ∧ ∃ Gj ρj avV avD rs, Same Gc Gj ∧ Rel K C Gj ρj (wipe σ2 (slots t2)) H5 ∧ Own C Gj ρj (wipe σ2 (slots t2)) H5 Dl avV ∧ DpAll K Gj avV avD ∧ lcL t2 (evT F c) (evE F e) (ys.drop j) ρj = .ok (rs, ρe) ∧ avD ++ rs = accD ++ es,
            ⟨ys.length, by simp, Nat.zero_le _, Gc, clr t2 ρb, accV, accD, es, Same.refl _, rc'.clr, ⟨hDc, nGc nG0, nP, fun q m => nMc q (muAt_clr m)⟩, dps_mono ((en.trans eb).trans ec) da, by rw [List.drop_zero]; exact hlc, rfl⟩, ?_⟩
          rintro j kk H5 ⟨rfl, hj, Gj, ρj, avV, avD, rs, ej, rj, oj, dj, hrun2, hsum2⟩
          by_cases hjt : j < ys.length
          · refine .inr ⟨w2.go j H5 hjt (ej.trans rj.exG), fun H'' => _ ∧ _ ∧ _, fun H'' hN => ⟨ys.length - (j + 1), by omega, hN⟩, fun x2 H6 hy2 => ?_⟩
            obtain ⟨d2, Gm, hxd2, em, em2, em3, fr2, dpx2⟩ := w2.yld j H5 x2 H6 Gj hjt ej rj.exG hy2
            have rm : Rel K C Gm ρj (wipe σ2 (slots t2)) H6 := rj.step em em2 em3 fr2
            have nGm : Gm Dl = none := by
              cases q : Gm Dl with
              | none => rfl
              | some o =>
                have := fr2 Dl (by rw [q]; simp) oj.nG
                rw [oj.at_] at this
                cases this
            have hdrop2 : ys.drop j = d2 :: ys.drop (j + 1) := by
              obtain ⟨hl1, hl2⟩ := List.getElem?_eq_some_iff.mp hxd2
              rw [List.drop_eq_getElem_cons hl1, hl2]
            rw [hdrop2] at hrun2
            unfold lcL at hrun2
            cases htg2 : tgt t2 d2 ρj with
            | error er => rw [htg2] at hrun2; cases hrun2
            | ok ρm =>
              rw [htg2, bindC_ok] at hrun2
              refine tgt_of htg2 rm dpx2 fun σ3 rm2 hw3 hm3 => ?_
              have hw4 : wipe σ3 (slots t2) = wipe σ2 (slots t2) := by rw [hw3 (slots t2) (fun _ z => z), wipe_idem]
              refine ⟨hw4, ?_⟩
              have hDm : H6 Dl = some (.lst avV) := em3 _ _ oj.at_
              have gm : Rel K (C.with Dl (.lst avV)) Gm ρm σ3 H6 := rm2.guard hDm nGm (hm3 Dl oj.nM)
              cases hcv : evT F c ρm with
              | error er => rw [hcv] at hrun2; cases hrun2
              | ok qb =>
                obtain ⟨b, ρn⟩ := qb
                rw [hcv] at hrun2
                have hrun2 : (if b = true then bindR (evE F e ρn) (fun p => bindR (lcL t2 (evT F c) (evE F e) (ys.drop (j + 1)) (clr t2 p.2)) fun q => .ok (p.1 :: q.1, q.2)) else lcL t2 (evT F c) (evE F e) (ys.drop (j + 1)) (clr t2 ρn)) = .ok (rs, ρe) := hrun2
                refine ⟨_, Gm, ρm, gm, ?_⟩
                rw [hcv]
                show ∀ G' H', Same Gm G' → Rel K (C.with Dl (.lst avV)) G' ρn σ3 H' → _
                intro Gp Hp' ep rp
                cases b with
                | false =>
                  rw [if_neg Bool.false_ne_true] at hrun2
                  obtain ⟨rp', hDp, nGp, nMp⟩ := Rel.unguard nP nG0 rp
                  refine iteF ⟨by omega, hjt, Gp, clr t2 ρn, avV, avD, rs, (ej.trans em).trans ep, ?_, ⟨hDp, nGp nG0, nP, fun q m => ?_⟩, dps_mono (em.trans ep) dj, hrun2, hsum2⟩
                  · have := rp'.clr (t := t2)
                    rw [hw4] at this
                    exact this
                  · rw [← hw4] at m
                    exact nMp q (muAt_clr m)
                | true =>
                  rw [if_pos rfl] at hrun2
                  cases hev : evE F e ρn with
                  | error er => rw [hev] at hrun2; cases hrun2
                  | ok qe =>
                    obtain ⟨dv, ρo⟩ := qe
                    rw [hev] at hrun2
                    have hrun2 : bindR (lcL t2 (evT F c) (evE F e) (ys.drop (j + 1)) (clr t2 ρo)) (fun q => .ok (dv :: q.1, q.2)) = .ok (rs, ρe) := hrun2
                    obtain ⟨qr2, hqr2, hqe2⟩ := bindR_ok_inv hrun2
                    obtain ⟨rs', ρe'⟩ := qr2
                    have hqe2 : Except.ok (dv :: rs', ρe') = (Except.ok (rs, ρe) : R (List D × Env)) := hqe2
                    have g1 : rs = dv :: rs' := by cases hqe2; rfl
                    have g2 : ρe' = ρe := by cases hqe2; rfl
                    subst g1 g2
                    refine iteT ⟨_, Gp, ρn, rp, ?_⟩
                    rw [hev]
                    show ∀ G' v H', Same Gp G' → Rel K (C.with Dl (.lst avV)) G' ρo σ3 H' → Dp K G' v dv → _
                    intro Gq v Hq eq rq dv'
                    obtain ⟨rq', hDq, nGq, nMq⟩ := Rel.unguard nP nG0 rq
                    have oq : Own C Gq ρo σ3 Hq Dl avV := ⟨hDq, nGq nG0, nP, nMq⟩
                    have hlen : avV.length = avD.length := dps_len dj
                    have hle : avD.length < ds.length := by
                      have := congrArg List.length hsum2
                      rw [← hsum, List.length_append, List.length_append]
                      simp at this
                      omega
                    refine ⟨avV, hDq, ?_, by omega, hjt, Gq, clr t2 ρo, avV ++ [v], avD ++ [dv], rs', ((ej.trans em).trans ep).trans eq, ?_, ⟨upd_same, nGq nG0, nP, fun q m => ?_⟩, dps_append (dps_mono ((em.trans ep).trans eq) dj) (dps_one dv'), hqr2, by rw [List.append_assoc]; exact hsum2⟩
                    · have : LIM ≤ sizeLine := by decide
                      omega
                    · have := (rq'.poke (ys := avV ++ [v]) oq).clr (t := t2)
                      rw [hw4] at this
                      exact this
                    · rw [← hw4] at m
                      exact nMq q (muAt_clr m)
          · have ej' : j = ys.length := by omega
            subst ej'
            rw [List.drop_length] at hrun2
            cases hrun2
            rw [List.append_nil] at hsum2
            subst hsum2
            have hvs : wipe (wipe σ2 (slots t2)) (slots t) = wipe σ (slots t ++ slots t2) := by rw [← wipe_app, hw2]
            refine .inl ⟨w2.stop H5 (ej.trans rj.exG), by omega, hlt, Gj, clr t ρe, avV, accD ++ es, rest', (((ex.trans en).trans eb).trans ec).trans ej, ?_, ⟨oj.at_, oj.nG, oj.nP, fun q m => ?_⟩, dj, hqs, by rw [List.append_assoc]; exact hsum⟩
            · have := rj.clr (t := t)
              rw [hvs] at this
              exact this
            · rw [← hvs] at m
              exact oj.nM q (muAt_clr m)
      · have ei : i = xs.length := by omega
        subst ei
        rw [List.drop_length] at hrun
        cases hrun
        rw [List.append_nil] at hsum
        subst hsum
        have r2 : Rel K C G1 (clr t2 ρ1) (wipe σ (slots t2)) H1 := r1.clr
        have ri' : Rel K C Gi ρ2 (wipe (wipe σ (slots t2)) (slots t)) H' := by rw [hσ]; exact ri
        have rb1 := ri'.back r2 ex ht
        have rb2 := rb1.back r1 ex ht2
        refine .inl ⟨w1.stop H' (ex.trans ri.exG), k Gi Dl accV H' (e1.trans ex) rb2 ⟨oi.at_, oi.nG, oi.nP, fun j m => oi.nM j ?_⟩ da⟩
        have m1 := muAt_backT m
        have m2 := muAt_backT m1
        rw [hσ] at m2
        exact m2
    · rw [if_neg hlim] at h1
      exact h1.elim
theorem f_lc2 (ht : tgOk t = true) (ht2 : tgOk t2 = true) (hc : X.calm = true) (hN : X.N.Nodup) (hi : PI X tg iter (rdI F K cl W t it)) (ok : BlkOk X.N X.env.scope scope own) (ho : own.map (·.2) = slots t ++ slots t2)
    (hg : ∀ (s : Shared) (H : Hp) (C : Addr) (cl : List (Str × Addr)) (fp : List Addr), PG (X.blk s H scope (compEnvC scope cl C X.env) fp) tg (gOf K t))
    (hi1 : ∀ (s : Shared) (H : Hp) (C : Addr) (cl' : List (Str × Addr)) (fp : List Addr), PI (X.blk s H scope (compEnvC scope cl' C X.env) fp) tg1 iter1 (rdI F K cl W0 t2 it2))
    (hg1 : ∀ (s : Shared) (H : Hp) (C : Addr) (cl : List (Str × Addr)) (fp : List Addr), PG (X.blk s H scope (compEnvC scope cl C X.env) fp) tg1 (gOf K t2)) (ht0 : ∀ (s : Shared) (H : Hp) (C : Addr) (cl' : List (Str × Addr)) (fp : List Addr), PTs (X.blk s H scope (compEnvC scope cl' C X.env) fp) [] (rdT F K cl W0 .tt))
    (hts : ∀ (s : Shared) (H : Hp) (C : Addr) (cl' : List (Str × Addr)) (fp : List Addr), PTs (X.blk s H scope (compEnvC scope cl' C X.env) fp) ifs1 (rdT F K cl W0 c))
    (he : ∀ (s : Shared) (H : Hp) (C : Addr) (cl' : List (Str × Addr)) (fp : List Addr), PE (X.blk s H scope (compEnvC scope cl' C X.env) fp) elt (rdE F K cl W0 e)) (hs : ∀ x, foldedSetIterable iter X.env x = pure x) (hs1 : ∀ env x, foldedSetIterable iter1 env x = pure x) :
    PE X (.ListComp elt [⟨tg, iter, [], 0⟩, ⟨tg1, iter1, ifs1, 0⟩] scope pos) (rdF F K cl W (.lc2 t it t2 it2 c e)) := by
  have h := pe_lc2 (pos := pos) (vs1 := slots t2) hc hN hi ok (fun i hi' => by rw [ho]; exact List.mem_append_right _ hi') hg ht0 hi1 hg1 hts he hs hs1
  rw [ho] at h
  exact PE.imp h (lc2_imp ht ht2)
theorem lc2_list' {ρ ρ' : Env} {d : D} (h : evE F (.lc2 t it t2 it2 c e) ρ = .ok (d, ρ')) : ∃ ds, d = .list ds := by
  unfold evE at h
  obtain ⟨q, _, h⟩ := bindR_ok_inv h
  obtain ⟨q2, _, h⟩ := bindR_ok_inv h
  split at h
  · cases h
    exact ⟨_, rfl⟩
  · cases h
end
end Ft
/-! FtExt: xs.extend(..), tuple(range(..)), a or b by truth. -/
namespace Ft
open PySem PySem.Spec PyProof.Rows L2 RZ
section
variable {F : Fns} {fuel : Nat} {K : PySem.W.Frag} {cl : Str → Addr} {W : WX} {E : XK} {X : Cx} {a b e : Ft.E} {ea eb ee : Expr} {pos p p2 p3 pos' apos : Pos} {x : Str} {s : Nat}
theorem s_trng (hc : X.calm = true) (hg : Gl X "tuple") (hm : X.mg "tuple" = none) (hg2 : Gl X "range") (hm2 : X.mg "range" = none) (ha : PE X ea (rdE F K cl W a)) (hs : nostar ea = true) :
    PE X (.Call (.Name "tuple" p) [.Call (.Name "range" p2) [ea] [] pos] [] pos') (rdE F K cl W (.trng a)) := by
  refine PE.imp (pe_tupRgN hc hg hm (prg_1 hg2 hm2 ha (star_cons hs))) fun σ H Q ⟨C, G, ρ, rr, h⟩ => ⟨C, G, ρ, rr, ?_⟩
  unfold evE at h
  refine h.bind.mono fun x ρ1 _ h1 G1 v1 H1 e1 r1 d1 => ?_
  obtain ⟨z, hz, h3⟩ := Out.bindc h1
  cases d1 with
  | int n =>
    obtain ⟨hn, ez⟩ := if_ok hz
    refine ⟨n, rfl, ⟨by decide, by decide, by omega, by have := hn.2; unfold LIM at this; omega, by have := hn.2; unfold LIM at this; omega⟩, fun q o hq ho => ?_⟩
    subst ez
    have nG := r1.nG hq
    refine h3 _ _ _ (e1.trans (same_new nG)) (r1.know hq) (.tup (NT.of ho upd_same) ?_)
    have : rgV 0 n = rgV 0 (n.toNat : Int) := by unfold rgV; congr 2; omega
    rw [this]
    exact rg_dps _ n.toNat
  | _ => cases hz
theorem s_orv (hK : X.K = K) (ha : PE X ea (rdE F K cl W a)) (hb : PE X eb (rdE F K cl W b)) : PE X (.BoolOp .Or [ea, eb] pos) (rdE F K cl W (.orv a b)) := by
  refine PE.imp (pe_orT ha (pe_one hb)) fun σ H Q ⟨C, G, ρ, r, h⟩ => ⟨C, G, ρ, r, ?_⟩
  unfold evE at h
  refine h.bind.mono fun x ρ1 _ h1 G1 v1 H1 e1 r1 d1 => ?_
  obtain ⟨t, ht, h2⟩ := Out.bindc h1
  refine ⟨t, by rw [hK]; exact tru_of ht (dp_mono r1.exG d1), ?_⟩
  have h2 : Out C cl W σ (if t = true then .ok (x, ρ1) else evE F b ρ1) _ := h2
  cases t with
  | true =>
    rw [if_pos rfl] at h2
    rw [if_pos rfl]
    exact h2 G1 v1 H1 e1 r1 d1
  | false =>
    rw [if_neg Bool.false_ne_true] at h2
    rw [if_neg Bool.false_ne_true]
    exact ⟨C, G1, ρ1, r1, h2.mono fun d ρ' _ k G' v H' e' => k G' v H' (e1.trans e')⟩
/-! ### xs.extend -/
theorem tup_extend (l : Addr) (items : Array Value) (n : Nat) (b : Addr) (items2 : Array Value) (n2 : Nat) (dd : Option Addr) (sl : Array (Option Value)) (hs0 : ¬(!items.isEmpty && Builtin.List.listTooLong (items.size + items2.size)) = true) (hs1 : items.size ≤ sizeLine) (hs2 : items.size + items2.size ≤ sizeLine + 1) :
    Meets (Builtin.«list.extend» ⟨[.ref l, .ref b], []⟩) (fun _ R s => s.heap.get? l = some { cls := .type "list", dict := none, data := .seq items n, slots := #[] } ∧ s.heap.get? b = some { cls := .type "tuple", dict := dd, data := .seq items2 n2, slots := sl } ∧ R (.ok (.ret Value.none)) { s with heap := s.heap.update l (Obj.mapSeq fun x => x ++ items2), toks := s.toks }) :=
  .of_wp fun prog w A R s h => by
    obtain ⟨hp, g, d, tk, os⟩ := s
    obtain ⟨hl, hb, h⟩ := h
    have f1 := PySem.AutoSeq1.idx_int; have f2 := PySem.AutoSeq1.sub_tuple_tuple; have f3 := PySem.AutoSeq1.sub_list_list; have f4 := PySem.AutoSeq1.sub_tuple_list; have f5 := PySem.AutoSeq1.sub_list_tuple
    have hz' : (items ++ items2).size ≤ sizeLine + 1 := by
      rw [Array.size_append]
      exact hs2
    wp_walk using (wpAny_updateSeq hl rfl (hz := hs1) (_hz' := hz')), PySem.AutoSeq1.wpAny_loadPart' hl, PySem.AutoSeq1.wpAny_loadPart' hb
    exact ⟨_, rfl, h⟩
def rExtA (K : PySem.W.Frag) : V → List V → Hp → VK → Prop := fun x vs H Q => ∃ l b xs zs, x = .ref l ∧ vs = [.ref b] ∧ H l = some (.lst xs) ∧ (H b = some (.lst zs) ∨ SqT K H b zs) ∧ xs.length + zs.length ≤ sizeLine ∧ Q .non (upd H l (.lst (xs ++ zs)))
theorem mt_extA : MtM X "list.extend" (rExtA X.K) := by
  intro pins s σ H x vs v us Q I rx rv h
  obtain ⟨l, b, xs, zs, rfl, rfl, hH, hB, hz, q⟩ := h
  rcases hB with hB | hB
  · exact mt_extend pins s σ H _ _ v us Q I rx rv ⟨l, b, xs, zs, rfl, rfl, hH, hB, hz, q⟩
  · cases rx
    obtain ⟨u, rfl, ru⟩ := rv.one
    cases ru
    obtain ⟨z, its, n, r, hl, e⟩ := I.lstM hH
    obtain ⟨its2, r2, ⟨ob, hob, hcb, n2, hdb⟩, z2⟩ := I.tuple hB
    have hl2 := r2.length
    have hsz : its.toArray.size + its2.toArray.size ≤ sizeLine := by
      rw [List.size_toArray, List.size_toArray]
      omega
    have hlong : ¬ (!its.toArray.isEmpty && Builtin.List.listTooLong (its.toArray.size + its2.toArray.size)) = true := by
      rw [notLongL hsz, Bool.and_false]
      exact Bool.false_ne_true
    obtain ⟨c0, d0, dt0, s0⟩ := ob
    simp only at hcb hdb
    subst hcb hdb
    refine call_meets F.slot_list_extend ⟨_, e, rfl⟩ F.entry_list_extend (F.args_list_extend_2 _ _) (tup_extend l its.toArray n b its2.toArray n2 d0 s0 hlong (by rw [List.size_toArray]; omega) (by omega)) ⟨e, hob, ?_⟩
    exact ⟨.non, _, I.lset (its' := its ++ its2) hH e (by simp) (r.append r2) (by rw [List.length_append]; omega), rfl, q⟩
theorem p_ext (hK : X.K = K) (hN : X.N[s]? = some x) (hv : Vis X.env.scope x) (hd : (x == ("__debug__" : Str)) = false) (hc : (x == ("__classdict__" : Str)) = false) (he : PE X ee (rdF F K cl (WEx E) e)) (hL : ∀ {ρ ρ' d}, evE F e ρ = .ok (d, ρ') → ∃ ds, d = .list ds) (hs : nostar ee = true) (hline : (apos.endLine == p2.line) = true) :
    PS X (.Expr (.Call (.Attribute (.Name x p) "extend" apos) [ee] [] p2) pos) (rdS F fuel K cl E (.ext s e)) := by
  have hfew : ((backTo p2 (starEach [ee] X.env)).all (fun x => !x.1) && (backToKw p2 (keywordEach [] X.env)).all (fun x => x.1.isSome) && decide ([ee].length + ([] : List Keyword).length + (if ([] : List Keyword).isEmpty then 0 else 1) < 30)) = true := by
    rw [star_cons hs]
    rfl
  refine PS.imp (ps_expr (pe_bm PySem.F.plainAttrs_list PySem.F.slot_list_extend PySem.F.type_list_extend mt_extA (pe_var hN hv hd hc) (pa_cons he pa_nil (star_cons hs)) (hbase := attr_name) (hfew := hfew) (hline := hline) (hs := star_cons hs) (hplain := rfl)) rfl) fun D σ H ⟨C, G, ρ, r, h⟩ => ?_
  unfold evS at h
  obtain ⟨q0, hq0, h⟩ := Out.bindc h
  obtain ⟨c0, j1, j2, _⟩ := lstAt_cases hq0
  obtain ⟨pp, xs0, hpp, hx0, _⟩ := r.muAt j1 j2
  refine ⟨.ref pp, hpp, .inl ⟨rfl, _, SqL.of hx0⟩, C, G, ρ, r, ?_⟩
  refine Out.mono (Out.bind h) fun d ρ1 hev h2 => ?_
  obtain ⟨ds0, hds⟩ := hL hev
  subst hds
  refine ⟨ds0, rfl, fun G2 pl zs H2 e2 r2 o2 d2 => ?_⟩
  obtain ⟨xs', hxs', h4⟩ := Out.bindc h2
  cases hxs'
  obtain ⟨q1, hq1, h5⟩ := Out.bindc h4
  obtain ⟨c1, k1, k2, k3⟩ := lstAt_cases hq1
  obtain ⟨p', xs, w1, w2, w3, w4, w5⟩ := r2.muAt k1 k2
  rw [hpp] at w1
  cases w1
  have hl := dps_len w3
  have hl2 := dps_len d2
  have h5 : Out C cl (WEx E) σ (if q1.1.length + ds0.length < LIM then .ok (.nx, ρ1.set s (q1.2 (q1.1 ++ ds0))) else stk) (ResOk K C G D) := h5
  split at h5
  · rename_i hlim
    refine ⟨pp, pl, xs, zs, rfl, rfl, w2, .inl o2.at_, ?_, h5 σ G2 _ e2 (r2.write k1 k2 hpp (k3 _) (dps_append w3 d2))⟩
    have : LIM ≤ sizeLine := by decide
    omega
  · exact h5.elim
/-- a tuple's items -/
theorem p_extT (hK : X.K = K) (hN : X.N[s]? = some x) (hv : Vis X.env.scope x) (hd : (x == ("__debug__" : Str)) = false) (hc : (x == ("__classdict__" : Str)) = false) (he : PE X ee (rdE F K cl (WEx E) e)) (hs : nostar ee = true) (hline : (apos.endLine == p2.line) = true) :
    PS X (.Expr (.Call (.Attribute (.Name x p) "extend" apos) [ee] [] p2) pos) (rdS F fuel K cl E (.extT s e)) := by
  have hfew : ((backTo p2 (starEach [ee] X.env)).all (fun x => !x.1) && (backToKw p2 (keywordEach [] X.env)).all (fun x => x.1.isSome) && decide ([ee].length + ([] : List Keyword).length + (if ([] : List Keyword).isEmpty then 0 else 1) < 30)) = true := by
    rw [star_cons hs]
    rfl
  refine PS.imp (ps_expr (pe_bm PySem.F.plainAttrs_list PySem.F.slot_list_extend PySem.F.type_list_extend mt_extA (pe_var hN hv hd hc) (pa_cons he pa_nil (star_cons hs)) (hbase := attr_name) (hfew := hfew) (hline := hline) (hs := star_cons hs) (hplain := rfl)) rfl) fun D σ H ⟨C, G, ρ, r, h⟩ => ?_
  unfold evS at h
  obtain ⟨q0, hq0, h⟩ := Out.bindc h
  obtain ⟨c0, j1, j2, _⟩ := lstAt_cases hq0
  obtain ⟨pp, xs0, hpp, hx0, _⟩ := r.muAt j1 j2
  refine ⟨.ref pp, hpp, .inl ⟨rfl, _, SqL.of hx0⟩, C, G, ρ, r, ?_⟩
  refine Out.mono (Out.bind h) fun d ρ1 hev h2 G2 v2 H2 e2 r2 d2 => ?_
  cases d2 with
  | tup hq da =>
    rename_i zs ds0
    obtain ⟨q1, hq1, h5⟩ := Out.bindc h2
    obtain ⟨c1, k1, k2, k3⟩ := lstAt_cases hq1
    obtain ⟨p', xs, w1, w2, w3, w4, w5⟩ := r2.muAt k1 k2
    rw [hpp] at w1
    cases w1
    have hl := dps_len w3
    have hl2 := dps_len da
    have h5 : Out C cl (WEx E) σ (if q1.1.length + ds0.length < LIM then .ok (.nx, ρ1.set s (q1.2 (q1.1 ++ ds0))) else stk) (ResOk K C G D) := h5
    split at h5
    · rename_i hlim
      refine ⟨pp, _, xs, zs, rfl, rfl, w2, .inr (by rw [hK]; exact same_t r2.exG hq), ?_, h5 σ G2 _ e2 (r2.write k1 k2 hpp (k3 _) (dps_append w3 da))⟩
      have : LIM ≤ sizeLine := by decide
      omega
    · exact h5.elim
  | _ => exact h2.elim
end
end Ft
/-! FtZip: dict(zip(a, b)), list(zip(a, b)) of two tuples, dict(a list of pairs). -/
namespace Ft
open PySem PySem.Spec PyProof.Rows L2 RZ
section
variable {prog : Program} {w : World} {A : Around} {E : Value → Shared → Prop} {s : Shared} {z TI TO T i1 i2 l1 l2 : Addr} {f : Bool} {oT : Obj} {k1 k2 : Nat} {xs ys : Array Value} {x y : Value}
/-- next of a zip over tuples whose pair is still out -/
theorem zt_item_held {Q : Value → Shared → Prop} (D : ZipApart z TI TO i1 i2 l1 l2) (hz : IsZipHeld s.heap z TI TO T f) (hT : s.heap.get? T = some oT) (hTI : IsPair s.heap TI (.ref i1) (.ref i2)) (h1 : s.heap.IsTupleIter i1 l1 k1) (h2 : s.heap.IsTupleIter i2 l2 k2) (hl1 : s.heap.IsTuple l1 xs) (hl2 : s.heap.IsTuple l2 ys) (hx : xs[k1]? = some x) (hy : ys[k2]? = some y)
    (hQ : ∀ h', IsZipHeld h' z TI TO T true → h'.IsTupleIter i1 l1 (k1 + 1) → h'.IsTupleIter i2 l2 (k2 + 1) → IsPair h' s.heap.objs.size x y → h'.objs.size = s.heap.objs.size + 1 → (∀ c o, c ≠ z → c ≠ i1 → c ≠ i2 → s.heap.get? c = some o → h'.get? c = some o) → Q (.ref s.heap.objs.size) { s with heap := h' }) :
    wpAny (model prog w) A (Builtin.«zip.__next__» ⟨[.ref z], []⟩) (fun fin s' => ∃ v, fin = .done (.ret v) ∧ Q v s') E s := by
  show wpAny _ _ (field (.ref z) 2 >>= _) _ _ _; refine wpAny_bind (wpAny_field hz rfl (x := .bool false) rfl ?_)
  show wpAny _ _ (field (.ref z) 3 >>= _) _ _ _; refine wpAny_bind (wpAny_field hz rfl (x := .ref TI) rfl (wpAny_bind (wpAny_seqItems hTI rfl ?_)))
  show wpAny _ _ (Builtin.SmallTypes.ownedTupleIsFree (.ref z) >>= _) _ _ _; refine wpAny_bind (wpAny_tupleHeld_zip hz hT fun ha hza hsa => ?_)
  simp only [Bool.false_eq_true, if_false]; refine wpAny_bind ?_; rw [← Array.forIn_toList]; simp only [List.forIn_cons, List.forIn_nil]
  refine wpAny_bind (wpAny_bind (wpAny_holding ?_)); show wpAny _ _ (Builtin.SmallTypes.nextOf (.ref i1) >>= _) _ _ _
  refine wpAny_bind (nextOf_tuple_item (s := { s with heap := ha }) (h1.extBut hsa.extBut D.i1z) (hl1.extBut hsa.extBut D.l1z) hx fun hb h1b hsb => wpAny_pure (wpAny_pure ?_))
  refine wpAny_bind (wpAny_bind (wpAny_holding ?_)); show wpAny _ _ (Builtin.SmallTypes.nextOf (.ref i2) >>= _) _ _ _
  refine wpAny_bind (nextOf_tuple_item (s := { s with heap := hb }) ((h2.extBut hsa.extBut D.i2z).extBut hsb.extBut D.i12.symm) ((hl2.extBut hsa.extBut D.l2z).extBut hsb.extBut D.l2i1) hy fun hc h2c hsc => wpAny_pure (wpAny_pure (wpAny_pure ?_)))
  show wpAny _ _ (newTuple [x, y] >>= _) _ _ _; refine wpAny_bind (wpAny_newTuple ?_)
  have esz : hc.objs.size = s.heap.objs.size := by rw [hsc.1, hsb.1, hsa.1]
  have hzc : IsZipHeld hc z TI TO T true := hsc.extBut _ _ D.i2z.symm (hsb.extBut _ _ D.i1z.symm hza)
  have hkeep : ∀ c o, c ≠ z → c ≠ i1 → c ≠ i2 → s.heap.get? c = some o → hc.get? c = some o := fun c o c1 c2 c3 e => hsc.extBut _ _ c3 (hsb.extBut _ _ c2 (hsa.extBut _ _ c1 e))
  refine wpAny_pure ⟨_, rfl, ?_⟩; show Q (.ref hc.objs.size) _
  have hp : IsPair (hc.push { cls := .type "tuple", data := .seq #[x, y] }) hc.objs.size x y := Heap.get?_push_size _ rfl
  have hn : (hc.push { cls := .type "tuple", data := .seq #[x, y] }).objs.size = hc.objs.size + 1 := Heap.size_push ..
  rw [esz] at hp hn ⊢
  exact hQ _ (Heap.get?_push_of_some _ hzc) ((h1b.extBut hsc.extBut D.i12).at fun o e => Heap.get?_push_of_some _ e) (h2c.at fun o e => Heap.get?_push_of_some _ e) hp hn fun c o c1 c2 c3 e => Heap.get?_push_of_some _ (hkeep c o c1 c2 c3 e)
theorem zt_end_held {Q : Fin → Shared → Prop} (hh : A.handled = none) (D : ZipApart z TI TO i1 i2 l1 l2) (hz : IsZipHeld s.heap z TI TO T f) (hT : s.heap.get? T = some oT) (hTI : IsPair s.heap TI (.ref i1) (.ref i2)) (h1 : s.heap.IsTupleIter i1 l1 k1) (h2 : s.heap.IsTupleIter i2 l2 k2) (hl1 : s.heap.IsTuple l1 xs) (hl2 : s.heap.IsTuple l2 ys) (hend : xs[k1]? = none ∨ ys[k2]? = none)
    (hE : ∀ h' e, (∀ c o, c ≠ z → c ≠ i1 → c ≠ i2 → s.heap.get? c = some o → h'.get? c = some o) → (∃ o, h'.get? e = some o ∧ o.cls = .type "StopIteration") → E (.ref e) { s with heap := h' }) : wpAny (model prog w) A (Builtin.«zip.__next__» ⟨[.ref z], []⟩) Q E s := by
  show wpAny _ _ (field (.ref z) 2 >>= _) _ _ _; refine wpAny_bind (wpAny_field hz rfl (x := .bool false) rfl ?_)
  show wpAny _ _ (field (.ref z) 3 >>= _) _ _ _; refine wpAny_bind (wpAny_field hz rfl (x := .ref TI) rfl (wpAny_bind (wpAny_seqItems hTI rfl ?_)))
  show wpAny _ _ (Builtin.SmallTypes.ownedTupleIsFree (.ref z) >>= _) _ _ _; refine wpAny_bind (wpAny_tupleHeld_zip hz hT fun ha hza hsa => ?_)
  simp only [Bool.false_eq_true, if_false]; refine wpAny_bind ?_; rw [← Array.forIn_toList]; simp only [List.forIn_cons, List.forIn_nil]
  refine wpAny_bind (wpAny_bind (wpAny_holding ?_)); show wpAny _ _ (Builtin.SmallTypes.nextOf (.ref i1) >>= _) _ _ _
  cases hx : xs[k1]? with
  | none => exact wpAny_bind (nextOf_tuple_end (s := { s with heap := ha }) hh (h1.extBut hsa.extBut D.i1z) (hl1.extBut hsa.extBut D.l1z) hx fun hb e hsb he => hE hb e (fun c o c1 c2 _ q => hsb _ _ c2 (hsa.extBut _ _ c1 q)) he)
  | some x =>
    have hy : ys[k2]? = none := hend.resolve_left (by rw [hx]; simp)
    refine wpAny_bind (nextOf_tuple_item (s := { s with heap := ha }) (h1.extBut hsa.extBut D.i1z) (hl1.extBut hsa.extBut D.l1z) hx fun hb h1b hsb => wpAny_pure (wpAny_pure ?_))
    refine wpAny_bind (wpAny_bind (wpAny_holding ?_)); show wpAny _ _ (Builtin.SmallTypes.nextOf (.ref i2) >>= _) _ _ _
    exact wpAny_bind (nextOf_tuple_end (s := { s with heap := hb }) hh ((h2.extBut hsa.extBut D.i2z).extBut hsb.extBut D.i12.symm) ((hl2.extBut hsa.extBut D.l2z).extBut hsb.extBut D.l2i1) hy fun hc e hsc he => hE hc e (fun c o c1 c2 c3 q => hsc _ _ c3 (hsb.extBut _ _ c2 (hsa.extBut _ _ c1 q))) he)
/-- a zip over two tuples, i pairs given out, while an object at d is filled -/
def ZtS (z TI TO i1 i2 l1 l2 d : Addr) (xs ys : Array Value) (i : Nat) (h : Heap) : Prop := IsPair h TI (.ref i1) (.ref i2) ∧ h.IsTupleIter i1 l1 i ∧ h.IsTupleIter i2 l2 i ∧ h.IsTuple l1 xs ∧ h.IsTuple l2 ys ∧
  ((IsZip h z TI TO .none ∧ ∃ a b, IsPair h TO a b) ∨ ∃ T f oT, IsZipHeld h z TI TO T f ∧ h.get? T = some oT ∧ T ≠ z ∧ T ≠ i1 ∧ T ≠ i2 ∧ T ≠ d)
theorem zt_step {d : Addr} {i : Nat} {Q : Option Value → Shared → Prop} (D : ZipApart z TI TO i1 i2 l1 l2) (st : ZtS z TI TO i1 i2 l1 l2 d xs ys i s.heap) (hd : d < s.heap.objs.size) (ex : xs[i]? = some x) (ey : ys[i]? = some y)
    (hQ : ∀ h', ZtS z TI TO i1 i2 l1 l2 d xs ys (i + 1) h' → IsPair h' s.heap.objs.size x y → h'.objs.size = s.heap.objs.size + 1 → (∀ c o, c ≠ z → c ≠ TO → c ≠ i1 → c ≠ i2 → s.heap.get? c = some o → h'.get? c = some o) → Q (some (.ref s.heap.objs.size)) { s with heap := h' }) :
    wpAny (model prog w) A (pyNext (.ref z)) Q E s := by
  obtain ⟨hTI, h1, h2, hl1, hl2, hzz⟩ := st
  have lt : ∀ {c o}, s.heap.get? c = some o → s.heap.objs.size ≠ c := fun e => Nat.ne_of_gt (Heap.lt_size e)
  have n1 : s.heap.objs.size ≠ i1 := by obtain ⟨_, e, _⟩ := h1; exact lt e
  have n2 : s.heap.objs.size ≠ i2 := by obtain ⟨_, e, _⟩ := h2; exact lt e
  rcases hzz with ⟨hz, a, b, hTO⟩ | ⟨T, f, oT, hz, hT, r1, r2, r3, r4⟩
  · refine pyNext_zipT_item D hz hTI hTO h1 h2 hl1 hl2 ex ey fun h' a1 a2 a3 a4 a5 a6 hk => hQ h' ⟨hk _ _ D.TIz D.TITO D.TIi1 D.TIi2 hTI, a3, a4, hl1.at fun o e => hk _ o D.l1z D.l1TO D.l1i1 D.l1i2 e, hl2.at fun o e => hk _ o D.l2z D.l2TO D.l2i1 D.l2i2 e, .inr ⟨s.heap.objs.size, false, _, a1, a5, lt hz, n1, n2, Nat.ne_of_gt hd⟩⟩ a5 a6 hk
  · have hTy : s.TypeIs (.ref z) "zip" := ⟨_, hz, rfl⟩
    unfold pyNext
    exact wpAny_bind (wpAny_attempt (wpAny_callSpecial?_slot (name := Str.ofString "__next__") hTy F.slot_zip_next (wpAny_call_entry F.slot_zip_next hTy F.entry_zip_next (zt_item_held D hz hT hTI h1 h2 hl1 hl2 ex ey fun h' a1 a3 a4 a5 a6 hk => wpAny_pure (hQ h' ⟨hk _ _ D.TIz D.TIi1 D.TIi2 hTI, a3, a4, hl1.at fun o e => hk _ o D.l1z D.l1i1 D.l1i2 e, hl2.at fun o e => hk _ o D.l2z D.l2i1 D.l2i2 e, .inr ⟨T, true, oT, a1, hk _ _ r1 r2 r3 hT, r1, r2, r3, r4⟩⟩ a5 a6 fun c o c1 _ c3 c4 e => hk c o c1 c3 c4 e)) (F.args_zip_next_1 _))))
theorem zt_done {d : Addr} {i : Nat} {Q : Option Value → Shared → Prop} (hh : A.handled = none) (D : ZipApart z TI TO i1 i2 l1 l2) (st : ZtS z TI TO i1 i2 l1 l2 d xs ys i s.heap) (hend : xs[i]? = none ∨ ys[i]? = none)
    (hQ : ∀ h', (∀ c o, c ≠ z → c ≠ TO → c ≠ i1 → c ≠ i2 → s.heap.get? c = some o → h'.get? c = some o) → Q none { s with heap := h' }) : wpAny (model prog w) A (pyNext (.ref z)) Q E s := by
  obtain ⟨hTI, h1, h2, hl1, hl2, hzz⟩ := st
  rcases hzz with ⟨hz, a, b, hTO⟩ | ⟨T, f, oT, hz, hT, _⟩
  · exact pyNext_zipT_end hh D hz hTI hTO h1 h2 hl1 hl2 hend hQ
  · have hTy : s.TypeIs (.ref z) "zip" := ⟨_, hz, rfl⟩
    unfold pyNext
    refine wpAny_bind (wpAny_attempt (wpAny_callSpecial?_slot (name := Str.ofString "__next__") hTy F.slot_zip_next (wpAny_call_entry F.slot_zip_next hTy F.entry_zip_next (zt_end_held hh D hz hT hTI h1 h2 hl1 hl2 hend fun h' e hk he => ?_) (F.args_zip_next_1 _))))
    obtain ⟨o, ho, hc⟩ := he
    exact wpAny_bind (wpAny_isInstance (T := "StopIteration") (b := true) ⟨o, ho, hc⟩ isSubtype_stop (wpAny_pure (hQ _ fun c o c1 _ c3 c4 e => hk c o c1 c3 c4 e)))
theorem ZtS.keep {d : Addr} {i : Nat} {h h' : Heap} (st : ZtS z TI TO i1 i2 l1 l2 d xs ys i h) (hk : ∀ b o, b ≠ d → h.get? b = some o → h'.get? b = some o) (dz : z ≠ d) (dTI : TI ≠ d) (dTO : TO ≠ d) (di1 : i1 ≠ d) (di2 : i2 ≠ d) (dl1 : l1 ≠ d) (dl2 : l2 ≠ d) : ZtS z TI TO i1 i2 l1 l2 d xs ys i h' := by
  obtain ⟨hTI, h1, h2, hl1, hl2, hzz⟩ := st
  refine ⟨hk _ _ dTI hTI, h1.at fun o e => hk _ o di1 e, h2.at fun o e => hk _ o di2 e, hl1.at fun o e => hk _ o dl1 e, hl2.at fun o e => hk _ o dl2 e, ?_⟩
  rcases hzz with ⟨hz, a, b, hTO⟩ | ⟨T, f, oT, hz, hT, r1, r2, r3, r4⟩
  · exact .inl ⟨hk _ _ dz hz, a, b, hk _ _ dTO hTO⟩
  · exact .inr ⟨T, f, oT, hk _ _ dz hz, hk _ _ r4 hT, r1, r2, r3, r4⟩
theorem min_end {xs ys : Array Value} : xs[min xs.size ys.size]? = none ∨ ys[min xs.size ys.size]? = none := by
  rcases Nat.le_total xs.size ys.size with h | h
  · left; rw [Nat.min_eq_left h]; exact Array.getElem?_eq_none (Nat.le_refl _)
  · right; rw [Nat.min_eq_right h]; exact Array.getElem?_eq_none (Nat.le_refl _)
end
section
variable {prog : Program} {w : World}
theorem zip_no_len : typeLookup (.type "zip") "__len__" = pure none := am_miss_of_fast (by decide +kernel)
theorem zip_no_hint : typeLookup (.type "zip") "__length_hint__" = pure none := am_miss_of_fast (by decide +kernel)
/-- what list(zip(..)) has made -/
theorem ne_gt {a b c : Addr} (h1 : b < c) (h2 : c ≤ a) : a ≠ b := Nat.ne_of_gt (Nat.lt_of_lt_of_le h1 h2)
def PairsAt (xs ys : Array Value) (lo : Addr) (h : Heap) (as : List Addr) : Prop := (∀ a ∈ as, lo ≤ a) ∧ (∀ (j : Nat) (a : Addr), as[j]? = some a → ∃ x y, xs[j]? = some x ∧ ys[j]? = some y ∧ IsPair h a x y) ∧ as.Pairwise fun a b => a < b
theorem PairsAt.keep {xs ys : Array Value} {lo : Addr} {h h' : Heap} {as : List Addr} (g : PairsAt xs ys lo h as) (hk : ∀ a o, lo ≤ a → h.get? a = some o → h'.get? a = some o) : PairsAt xs ys lo h' as := ⟨g.1, fun j a hj => by
  obtain ⟨x, y, e1, e2, e3⟩ := g.2.1 j a hj
  exact ⟨x, y, e1, e2, hk a _ (g.1 a (List.mem_of_getElem? hj)) e3⟩, g.2.2⟩
theorem lz_loop {A : Around} {s : Shared} {R : Result → Shared → Prop} {z TI TO i1 i2 l1 l2 S lo : Addr} {xs ys : Array Value} (hh : A.handled = none) (D : ZipApart z TI TO i1 i2 l1 l2) (res : Value) (hn : min xs.size ys.size ≤ 1000)
    (lz : z < lo) (lTO : TO < lo) (li1 : i1 < lo) (li2 : i2 < lo) (lS : S < lo) (dz : z ≠ S) (dTI : TI ≠ S) (dTO : TO ≠ S) (di1 : i1 ≠ S) (di2 : i2 ≠ S) (dl1 : l1 ≠ S) (dl2 : l2 ≠ S)
    (hR : ∀ h' acc c as, (∀ b o, b ≠ S → b ≠ z → b ≠ TO → b ≠ i1 → b ≠ i2 → s.heap.get? b = some o → h'.get? b = some o) → h'.get? S = some { cls := .type "list", dict := none, data := .seq acc c, slots := #[] } → as.length = min xs.size ys.size → PairsAt xs ys lo h' as → acc.toList = as.map Value.ref → R (.ok (.ret res)) { s with heap := h' }) :
    ∀ (k i : Nat) (h : Heap) (c : Nat) (acc : Array Value) (as : List Addr), min xs.size ys.size - i = k → i ≤ min xs.size ys.size → ZtS z TI TO i1 i2 l1 l2 S xs ys i h → (∀ b o, b ≠ S → b ≠ z → b ≠ TO → b ≠ i1 → b ≠ i2 → s.heap.get? b = some o → h.get? b = some o) →
      h.get? S = some { cls := .type "list", dict := none, data := .seq acc c, slots := #[] } → acc.toList = as.map Value.ref → as.length = i → PairsAt xs ys lo h as → lo ≤ h.objs.size → codeAny (model prog w) A (.builtin "list.extend.loop" ⟨[.ref S, .ref z, res], []⟩) R { s with heap := h } := by
  intro k; induction k with
  | zero =>
    intro i h c acc as hk hi st hkp hS hacc hal hG hlo
    have ei : i = min xs.size ys.size := by omega
    refine codeAny_builtin PySem.F.entry_extend_loop ?_; rw [Around.under_plainId PySem.F.plain_extend_loop _]
    show wpAny _ A.in1 (pyNext (.ref z) >>= _) _ _ _
    refine wpAny_bind (zt_done (s := { s with heap := h }) (A := A.in1) hh D st (by rw [ei]; exact min_end) fun h' he => wpAny_pure (hR h' acc c as (fun b o b1 b2 b3 b4 b5 e => he b o b2 b3 b4 b5 (hkp b o b1 b2 b3 b4 b5 e)) (he S _ (Ne.symm dz) (Ne.symm dTO) (Ne.symm di1) (Ne.symm di2) hS) (by omega) (hG.keep fun a o ha e => he a o (ne_gt lz ha) (ne_gt lTO ha) (ne_gt li1 ha) (ne_gt li2 ha) e) hacc))
  | succ k ih =>
    intro i h c acc as hk hi st hkp hS hacc hal hG hlo
    have hlt : i < min xs.size ys.size := by omega
    have hsz : acc.size = i := by rw [← Array.length_toList, hacc, List.length_map, hal]
    have ex := Array.getElem?_eq_getElem (Nat.lt_of_lt_of_le hlt (Nat.min_le_left ..)); have ey := Array.getElem?_eq_getElem (Nat.lt_of_lt_of_le hlt (Nat.min_le_right ..))
    refine codeAny_builtin PySem.F.entry_extend_loop ?_; rw [Around.under_plainId PySem.F.plain_extend_loop _]
    show wpAny _ A.in1 (pyNext (.ref z) >>= _) _ _ _
    refine wpAny_bind (zt_step (s := { s with heap := h }) (A := A.in1) D st (Heap.lt_size hS) ex ey fun h' st' ht hz' hkk => ?_)
    dsimp only at ht hz' hkk ⊢
    have hSl : S < h.objs.size := Heap.lt_size hS
    have hS' := hkk S _ (Ne.symm dz) (Ne.symm dTO) (Ne.symm di1) (Ne.symm di2) hS
    have up : ∀ b o, b ≠ S → h'.get? b = some o → (h'.update S (Obj.mapSeq (·.push (Value.ref h.objs.size)))).get? b = some o := fun b o hb q => (Heap.get?_update_other _ _ (Ne.symm hb)).trans q
    show wpAny _ A.in1 (updateSeq S (·.push (Value.ref h.objs.size)) >>= _) _ _ _
    have hb1 : (1000 : Nat) < sizeLine := by decide
    refine wpAny_bind (wpAny_updateSeq hS' rfl (wpAny_pure ⟨plainId_quiet PySem.F.plain_extend_loop _, ih (i + 1) _ _ (acc.push (Value.ref h.objs.size)) (as ++ [h.objs.size]) (by omega) hlt (st'.keep up dz dTI dTO di1 di2 dl1 dl2) (fun b o b1 b2 b3 b4 b5 q => up b o b1 (hkk b o b2 b3 b4 b5 (hkp b o b1 b2 b3 b4 b5 q))) (Heap.get?_update_self _ hS' rfl) (by rw [Array.toList_push, hacc, List.map_append]; rfl) (by rw [List.length_append, hal]; rfl) ⟨fun a ha => ?_, fun j b hj => ?_, ?_⟩ ?_⟩) (by rw [hsz]; omega) (by show (acc.push (Value.ref h.objs.size)).size ≤ sizeLine + 1; rw [Array.size_push, hsz]; omega))
    · rcases List.mem_append.mp ha with ha | ha
      · exact hG.1 a ha
      · rw [List.mem_singleton.mp ha]; exact hlo
    · by_cases hj1 : j < as.length
      · rw [List.getElem?_append_left hj1] at hj
        obtain ⟨x, y, e1, e2, e3⟩ := hG.2.1 j b hj
        have hb := hG.1 b (List.mem_of_getElem? hj)
        exact ⟨x, y, e1, e2, up b _ (ne_gt lS hb) (hkk b _ (ne_gt lz hb) (ne_gt lTO hb) (ne_gt li1 hb) (ne_gt li2 hb) e3)⟩
      · have hj2 : j = as.length := by
          have := (List.getElem?_eq_some_iff.mp hj).1
          simp at this
          omega
        subst hj2
        have hb : h.objs.size = b := by simpa using hj
        subst hb
        rw [hal]
        exact ⟨_, _, ex, ey, up _ _ (Nat.ne_of_gt hSl) ht⟩
    · refine List.pairwise_append.mpr ⟨hG.2.2, List.pairwise_singleton _ _, fun a ha b hb => ?_⟩
      rw [List.mem_singleton.mp hb]
      obtain ⟨j, hj⟩ := List.mem_iff_getElem?.mp ha
      obtain ⟨x, y, _, _, e3⟩ := hG.2.1 j a hj
      exact Heap.lt_size e3
    · rw [Heap.size_update, hz']
      exact Nat.le_succ_of_le hlo
theorem lz_call {A : Around} {E : Value → Shared → Prop} {s : Shared} {Q : Value → Shared → Prop} {z TI TO i1 i2 l1 l2 : Addr} {xs ys : Array Value} (hh : A.handled = none) (D : ZipApart z TI TO i1 i2 l1 l2) (hn : min xs.size ys.size ≤ 1000) (hz : IsZip s.heap z TI TO .none) (st : ∀ d, d ≠ z → ZtS z TI TO i1 i2 l1 l2 d xs ys 0 s.heap) (hTI : TI < s.heap.objs.size) (hTO : TO < s.heap.objs.size) (hi1 : i1 < s.heap.objs.size) (hi2 : i2 < s.heap.objs.size) (hl1 : l1 < s.heap.objs.size) (hl2 : l2 < s.heap.objs.size)
    (h : ∀ h' acc c as, (∀ b o, b ≠ z → b ≠ TO → b ≠ i1 → b ≠ i2 → s.heap.get? b = some o → h'.get? b = some o) → h'.get? s.heap.objs.size = some { cls := .type "list", dict := none, data := .seq acc c, slots := #[] } → as.length = min xs.size ys.size → PairsAt xs ys (s.heap.objs.size + 1) h' as → acc.toList = as.map Value.ref → Q (.ref s.heap.objs.size) { s with heap := h' }) :
    wpAny (model prog w) A (call (.type "list") [.ref z]) Q E s := by
  have hzl : z < s.heap.objs.size := Heap.lt_size hz
  refine callType_codes (Q₁ := fun obj s₁ => obj = .ref s.heap.objs.size ∧ s₁ = { s with heap := s.heap.push { cls := .type "list", data := .seq #[] } }) PySem.F.called_list (PySem.F.typeCall_list_1 _) PySem.F.entry_list_init (code_list_new _ ⟨rfl, rfl⟩) fun obj s₁ hq => ?_
  obtain ⟨rfl, rfl⟩ := hq
  have hS : (s.heap.push { cls := .type "list", data := .seq #[] }).get? s.heap.objs.size = some { cls := .type "list", data := .seq #[] } := Heap.get?_push_size _ rfl
  have k0 : ∀ b o, s.heap.get? b = some o → (s.heap.push { cls := .type "list", data := .seq #[] }).get? b = some o := fun b o e => Heap.get?_push_of_some _ e
  have hsz : (s.heap.push { cls := .type "list", data := .seq #[] }).objs.size = s.heap.objs.size + 1 := Heap.size_push ..
  refine ⟨⟨_, hS, rfl⟩, PySem.F.args_list_init_2 _ _, ?_⟩
  have key : ∀ (h1 : Heap) (c1 : Nat), (∀ b o, b ≠ s.heap.objs.size → (s.heap.push { cls := .type "list", data := .seq #[] }).get? b = some o → h1.get? b = some o) → h1.objs.size = s.heap.objs.size + 1 → h1.get? s.heap.objs.size = some { cls := .type "list", data := .seq #[] c1 } →
      codeAny (model prog w) A.in1 (.builtin "list.extend.loop" ⟨[.ref s.heap.objs.size, .ref z, .none], []⟩) (wants (fun r s₂ => r = .none ∧ Q (.ref s.heap.objs.size) s₂) E) { s with heap := h1 } := by
    intro h1 c1 hk1 hz1 hS1
    have st1 : ZtS z TI TO i1 i2 l1 l2 s.heap.objs.size xs ys 0 h1 := (st s.heap.objs.size (Nat.ne_of_gt hzl)).keep (fun b o hb e => hk1 b o hb (k0 b o e)) (Nat.ne_of_lt hzl) (Nat.ne_of_lt hTI) (Nat.ne_of_lt hTO) (Nat.ne_of_lt hi1) (Nat.ne_of_lt hi2) (Nat.ne_of_lt hl1) (Nat.ne_of_lt hl2)
    refine lz_loop (s := s) (A := A.in1) (lo := s.heap.objs.size + 1) (S := s.heap.objs.size) hh D .none hn (Nat.lt_succ_of_lt hzl) (Nat.lt_succ_of_lt hTO) (Nat.lt_succ_of_lt hi1) (Nat.lt_succ_of_lt hi2) (Nat.lt_succ_self _) (Nat.ne_of_lt hzl) (Nat.ne_of_lt hTI) (Nat.ne_of_lt hTO) (Nat.ne_of_lt hi1) (Nat.ne_of_lt hi2) (Nat.ne_of_lt hl1) (Nat.ne_of_lt hl2) (fun h' acc c as g1 g2 g3 g4 g5 => ⟨rfl, h h' acc c as (fun b o b1 b2 b3 b4 e => g1 b o (Nat.ne_of_lt (Heap.lt_size e)) b1 b2 b3 b4 e) g2 g3 g4 g5⟩) _ 0 h1 c1 #[] [] rfl (Nat.zero_le _) st1 (fun b o b1 _ _ _ _ e => hk1 b o b1 (k0 b o e)) hS1 rfl rfl ⟨fun a ha => (by cases ha), fun j a hj => (by simp at hj), List.Pairwise.nil⟩ (Nat.le_of_eq hz1.symm)
  show wpAny _ _ (do let old ← Builtin.List.listItems (.ref s.heap.objs.size); Builtin.List.listUpdate (.ref s.heap.objs.size) (fun _ => #[]); letGo old.toList.reverse; Builtin.List.listExtendWith (.ref s.heap.objs.size) (.ref z) .none) _ _ _
  refine wpAny_bind ?_; unfold Builtin.List.listItems; refine wpAny_bind (wpAny_seqItems hS rfl (wpAny_pure ?_))
  show wpAny _ _ (updateSeq s.heap.objs.size (fun _ => #[]) >>= fun _ => letGo (#[] : Array Value).toList.reverse >>= fun _ => Builtin.List.listExtendWith (.ref s.heap.objs.size) (.ref z) .none) _ _ _
  refine wpAny_bind (wpAny_updateSeq hS rfl (wpAny_bind (wpAny_letGo ?_)))
  have hS2 := Heap.get?_update_self (Obj.mapSeq (fun _ => (#[] : Array Value))) hS rfl
  have oth2 : ∀ b o, b ≠ s.heap.objs.size → (s.heap.push { cls := .type "list", data := .seq #[] }).get? b = some o → ((s.heap.push { cls := .type "list", data := .seq #[] }).update s.heap.objs.size (Obj.mapSeq (fun _ => (#[] : Array Value)))).get? b = some o := fun b o hb e => (Heap.get?_update_other _ _ (Ne.symm hb)).trans e
  have hz2 := oth2 z _ (Nat.ne_of_lt hzl) (k0 _ _ hz)
  unfold Builtin.List.listExtendWith
  refine wpAny_bind (wpAny_typeOf (T := "zip") ⟨_, hz2, rfl⟩ ?_)
  have t1 : Builtin.List.listSameRef (.ref s.heap.objs.size) (.ref z) = false := by simp [Builtin.List.listSameRef, Nat.ne_of_gt hzl]
  have t2 : (Value.type "zip" == Value.type "list") = false := by decide
  have t3 : (Value.type "zip" == Value.type "tuple") = false := by decide
  simp only [t1, t2, t3, Bool.or_false, Bool.false_eq_true, if_false]
  refine wpAny_bind (wpAny_pyIter_zip hz2 (wpAny_bind (wpAny_holding ?_)))
  unfold Builtin.List.listLengthHint
  refine wpAny_bind (wpAny_specialOf ⟨_, hz2, rfl⟩ zip_no_len ?_)
  show wpAny _ _ (specialOf (Value.ref z) (Str.ofString "__length_hint__") >>= _) _ _ _; refine wpAny_bind (wpAny_specialOf ⟨_, hz2, rfl⟩ zip_no_hint (wpAny_pure ?_))
  show wpAny _ _ (rule "list.extend.makes-room" >>= fun _ => Builtin.List.listTouch (.ref s.heap.objs.size) >>= fun _ => again (.builtin "list.extend.loop" ⟨[.ref s.heap.objs.size, .ref z, .none], []⟩)) _ _ _
  refine wpAny_bind (wpAny_rule (wpAny_bind ?_)); show wpAny _ _ (updateSeq s.heap.objs.size (·.push .none) >>= fun _ => updateSeq s.heap.objs.size (·.pop)) _ _ _
  refine wpAny_bind (wpAny_updateSeq hS2 rfl ?_)
  have hS3 := Heap.get?_update_self (Obj.mapSeq (·.push Value.none)) hS2 rfl
  refine wpAny_updateSeq (hz := by seq_fits) hS3 rfl ?_
  have hS4 := Heap.get?_update_self (Obj.mapSeq (·.pop)) hS3 rfl
  refine wpAny_pure ⟨plainId_quiet PySem.F.plain_extend_loop _, key _ _ (fun b o hb e => (Heap.get?_update_other _ _ (Ne.symm hb)).trans ((Heap.get?_update_other _ _ (Ne.symm hb)).trans (oth2 b o hb e))) (by rw [Heap.size_update, Heap.size_update, Heap.size_update, hsz]) hS4⟩
/-- zip of two tuples as dict's argument -/
theorem pairArgT (z TI TO i1 i2 l1 l2 : Addr) (D : ZipApart z TI TO i1 i2 l1 l2) (xs ys : Array Value) :
    PairArg prog w "zip" z [z, TI, TO, i1, i2, l1, l2] [z, TO, i1, i2] (min xs.size ys.size) (fun i k v => xs[i]? = some k ∧ ys[i]? = some v) (fun h => IsZip h z TI TO .none ∧ IsPair h TI (.ref i1) (.ref i2) ∧ (∃ a b, IsPair h TO a b) ∧ h.IsTupleIter i1 l1 0 ∧ h.IsTupleIter i2 l2 0 ∧ h.IsTuple l1 xs ∧ h.IsTuple l2 ys) where
  type := fun _ hok => ⟨_, hok.1, rfl⟩
  notDict := by decide
  keep := fun h h' ⟨q1, q2, ⟨a, b, q3⟩, q4, q5, q6, q7⟩ hk => ⟨hk _ _ q1, hk _ _ q2, ⟨a, b, hk _ _ q3⟩, q4.at fun o e => hk _ o e, q5.at fun o e => hk _ o e, q6.at fun o e => hk _ o e, q7.at fun o e => hk _ o e⟩
  there := fun h ok b hb => by
    obtain ⟨q1, q2, ⟨a, c, q3⟩, ⟨o1, q4, _⟩, ⟨o2, q5, _⟩, ⟨o3, q6, _⟩, ⟨o4, q7, _⟩⟩ := ok; simp only [List.mem_cons, List.not_mem_nil, or_false] at hb
    rcases hb with rfl | rfl | rfl | rfl | rfl | rfl | rfl <;> first | exact ⟨_, q1⟩ | exact ⟨_, q2⟩ | exact ⟨_, q3⟩ | exact ⟨_, q4⟩ | exact ⟨_, q5⟩ | exact ⟨_, q6⟩ | exact ⟨_, q7⟩
  sub := fun c hm => by simp at hm ⊢; rcases hm with rfl | rfl | rfl | rfl <;> simp
  noKeys := fun A s Q E hA okz hq => getAttrOr_miss_zip okz.1 rfl rfl rfl zip_no_keys (by decide +kernel) hA hq
  iter := fun A s d Q E hA ok hd hdf h => by
    obtain ⟨q1, q2, ⟨a, b, q3⟩, q4, q5, q6, q7⟩ := ok; simp only [List.mem_cons, List.not_mem_nil, or_false, not_or] at hdf
    obtain ⟨dz, dTI, dTO, di1, di2, dl1, dl2⟩ := hdf
    refine wpAny_pyIter_zip q1 (h z [z, TO, i1, i2] (fun i h => ZtS z TI TO i1 i2 l1 l2 d xs ys i h) s.heap s.toks ⟨fun hm => ?_, fun i h1 h2 st hk => st.keep hk (Ne.symm dz) (Ne.symm dTI) (Ne.symm dTO) (Ne.symm di1) (Ne.symm di2) (Ne.symm dl1) (Ne.symm dl2), fun i s1 Q1 E1 hi st hds hQ => ?_, fun s1 Q1 E1 st hQ => ?_⟩ ⟨q2, q4, q5, q6, q7, .inl ⟨q1, a, b, q3⟩⟩ (fun _ _ e => e) fun b hb => .inl hb)
    · simp only [List.mem_cons, List.not_mem_nil, or_false] at hm; rcases hm with e | e | e | e <;> first | exact dz e | exact dTO e | exact di1 e | exact di2 e
    · have ex := Array.getElem?_eq_getElem (Nat.lt_of_lt_of_le hi (Nat.min_le_left ..)); have ey := Array.getElem?_eq_getElem (Nat.lt_of_lt_of_le hi (Nat.min_le_right ..))
      exact zt_step D st hds ex ey fun h' a1 a2 a3 hk => hQ s1.heap.objs.size _ _ h' s1.toks ⟨ex, ey⟩ (.inl ⟨_, a2, rfl, _, rfl⟩) a1 fun c o hc e => hk c o (fun x => hc (by simp [x])) (fun x => hc (by simp [x])) (fun x => hc (by simp [x])) (fun x => hc (by simp [x])) e
    · exact zt_done hA D st min_end fun h' hk => hQ h' s1.toks fun c o hc e => hk c o (fun x => hc (by simp [x])) (fun x => hc (by simp [x])) (fun x => hc (by simp [x])) (fun x => hc (by simp [x])) e
end
/-! ### in the layer -/
section
variable {F : Fns} {K : PySem.W.Frag} {cl : Str → Addr} {W : WX} {X : Cx} {a b : E} {ea eb : Expr} {p p2 pos pos' : Pos}
theorem vals_two {v1 v2 : V} {us : List Value} (h : Vals [v1, v2] us) : ∃ u1 u2, us = [u1, u2] ∧ RelV v1 u1 ∧ RelV v2 u2 := by
  cases h with
  | cons r rr =>
    cases rr with
    | cons r' rr =>
      cases rr
      exact ⟨_, _, rfl, r, r'⟩
/-- zip(a, b) of two tuples, made and used at once -/
theorem zip_made {pins : List (Addr × Obj)} {s : Shared} {σ : L2.St} {H : Hp} {Q : Value → Shared → Prop} {E : Value → Shared → Prop} {x y : Addr} {vx vy : List V} (I : Inv X pins σ H s) (hx : SqT X.K H x vx) (hy : SqT X.K H y vy)
    (h : ∀ (xs ys : List Value) (h' : Heap), Vals vx xs → Vals vy ys → ZipApart (s.heap.objs.size + 4) (s.heap.objs.size + 2) (s.heap.objs.size + 3) s.heap.objs.size (s.heap.objs.size + 1) x y → IsZip h' (s.heap.objs.size + 4) (s.heap.objs.size + 2) (s.heap.objs.size + 3) .none → IsPair h' (s.heap.objs.size + 2) (.ref s.heap.objs.size) (.ref (s.heap.objs.size + 1)) → IsPair h' (s.heap.objs.size + 3) .none .none → h'.IsTupleIter s.heap.objs.size x 0 → h'.IsTupleIter (s.heap.objs.size + 1) y 0 → h'.IsTuple x xs.toArray → h'.IsTuple y ys.toArray → h'.objs.size = s.heap.objs.size + 5 →
      x < s.heap.objs.size → y < s.heap.objs.size → (∀ c o, s.heap.get? c = some o → h'.get? c = some o) → Q (.ref (s.heap.objs.size + 4)) { s with heap := h' }) : wpAny (model X.prog X.w) X.A (call (.type "zip") [.ref x, .ref y]) Q E s := by
  obtain ⟨its, rv, p1, _⟩ := I.tuple hx
  obtain ⟨its2, rv2, p2, _⟩ := I.tuple hy
  obtain ⟨o1, ho1, _⟩ := id p1
  obtain ⟨o2, ho2, _⟩ := id p2
  refine call_zipT (show s.heap.IsTuple x its.toArray from p1) (show s.heap.IsTuple y its2.toArray from p2) fun h' hz hTI hTO h1 h2 hsz hk => h its its2 h' rv rv2 (PySem.W.ktu_apart s.heap.objs.size x y (Heap.lt_size ho1) (Heap.lt_size ho2)) hz hTI hTO h1 h2 ?_ ?_ hsz (Heap.lt_size ho1) (Heap.lt_size ho2) hk
  · exact Heap.IsTuple.at (show s.heap.IsTuple x its.toArray from p1) fun o e => hk _ o e
  · exact Heap.IsTuple.at (show s.heap.IsTuple y its2.toArray from p2) fun o e => hk _ o e
/-! ### keys and values -/
inductive ZipK : List (Key × V) → List V → List V → Prop where
  | nil1 {vy : List V} : ZipK [] [] vy
  | nil2 {v : V} {vx : List V} : ZipK [] (v :: vx) []
  | cons {k : Key} {v : V} {m : List (Key × V)} {vx vy : List V} (h : ZipK m vx vy) : ZipK ((k, v) :: m) (kV k :: vx) (v :: vy)
theorem ZipK.len {m : List (Key × V)} {vx vy : List V} (h : ZipK m vx vy) : m.length = min vx.length vy.length := by
  induction h with
  | nil1 => simp
  | nil2 => simp
  | cons _ ih => simp [ih, Nat.succ_min_succ]
theorem dicL_zip {G : Hp} : ∀ {vx vy : List V} {dx dy : List D} {acc kvs : List (Key × D)} {racc : List (Key × V)}, DpAll K G vx dx → DpAll K G vy dy → dicL (zipL dx dy) acc = .ok kvs → KvD K G racc acc → ∃ m, ZipK m vx vy ∧ KvD K G (mergeK racc m) kvs
  | _, vy, _, dy, acc, kvs, racc, .nil, _, h, ha => by
    have h : dicL [] acc = .ok kvs := by cases dy <;> exact h
    cases h
    exact ⟨[], .nil1, ha⟩
  | _, _, _, _, acc, kvs, racc, .cons h1 t1, .nil, h, ha => by
    cases h
    exact ⟨[], .nil2, ha⟩
  | _, _, _, _, acc, kvs, racc, @DpAll.cons _ _ v vs d ds h1 t1, @DpAll.cons _ _ v' vs' d' ds' h2 t2, h, ha => by
    have h : bindC (keyD d) (fun k => dicL (zipL ds ds') (putA acc k d')) = .ok kvs := h
    cases hk : keyD d with
    | error e => rw [hk] at h; cases h
    | ok k =>
      rw [hk, bindC_ok] at h
      have ev := keyD_V hk h1
      subst ev
      obtain ⟨m, m1, m2⟩ := dicL_zip t1 t2 h (kvd_put k h2 ha)
      exact ⟨(k, v') :: m, .cons m1, m2⟩
theorem prs_zip {P : Program} {w : World} : ∀ {m : List (Key × V)} {vx vy : List V} {xs ys : List Value}, ZipK m vx vy → Vals vx xs → Vals vy ys → ∃ prs : List (Key × Value), KV m prs ∧ prs.length = min xs.length ys.length ∧ ∀ (i : Nat) (key v : Value), xs[i]? = some key → ys[i]? = some v → ∃ k, prs[i]? = some (k, v) ∧ (mixKind P w).is k key = true
  | _, _, _, _, _, .nil1, .nil, _ => ⟨[], .nil, by simp, fun i key v e => by simp at e⟩
  | _, _, _, _, _, .nil2, .cons _ _, .nil => ⟨[], .nil, by simp, fun i key v _ e => by simp at e⟩
  | _, _, _, _, _, .cons (k := k) h, .cons r1 t1, .cons r2 t2 => by
    obtain ⟨prs, q1, q2, q3⟩ := prs_zip (P := P) (w := w) h t1 t2
    refine ⟨(k, _) :: prs, .cons ⟨rfl, r2⟩ q1, by simp [q2, Nat.succ_min_succ], fun i key v e1 e2 => ?_⟩
    cases i with
    | zero =>
      cases e1
      cases e2
      exact ⟨k, rfl, kV_is r1⟩
    | succ i => exact q3 i key v (by simpa using e1) (by simpa using e2)
theorem s_dzip (hK : X.K = K) (hc : X.calm = true) (hg : Gl X "dict") (hm : X.mg "dict" = none) (hg2 : Gl X "zip") (hm2 : X.mg "zip" = none) (ha : PE X ea (rdE F K cl W a)) (hb : PE X eb (rdE F K cl W b)) (hs1 : nostar ea = true) (hs2 : nostar eb = true) :
    PE X (.Call (.Name "dict" p) [.Call (.Name "zip" p2) [ea, eb] [] pos] [] pos') (rdD F K cl W (.dzip a b)) := by
  subst hK
  refine ⟨fun pins s σ H Q I h => ?_⟩
  have hp := pa_cons ha (pa_cons hb pa_nil (star_cons hs2)) (star_cons hs1)
  have na : starEach [Expr.Call (.Name "zip" p2) [ea, eb] [] pos] X.env = (false, eval (Expr.Call (.Name "zip" p2) [ea, eb] [] pos) X.env) :: starEach [] X.env := rfl
  obtain ⟨C, G, ρ, r, h⟩ := h
  unfold evD at h
  refine Call_ (ld_blt I hg hm boot_dict (PyProof.Rows.callWith_type1 (args_cons (Call_ (ld_blt I hg2 hm2 PyProof.Rows.boot_zip (PyProof.Rows.callWith_type1 (thn (hp.run pos pins s σ H (fun vs H1 => ∃ (x y : Addr) (vx vy : List V) (m : List (Key × V)), vs = [.ref x, .ref y] ∧ SqT X.K H1 x vx ∧ SqT X.K H1 y vy ∧ vx.length ≤ 1000 ∧ ZipK m vx vy ∧ ∀ pd, H1 pd = none → Q (.ref pd) (upd H1 pd (.dK (mergeK [] m)))) I ⟨C, G, ρ, r, ?_⟩) fun us s1 ⟨vs, H1, I1, r1, q1⟩ => ?_) (star_cons hs1) (star_none (by simp [hs2]))))) na) na))
  · refine Out.mono (Out.bind h) fun dx ρ1 _ h1 G1 v1 H1 e1 rr1 d1 => ⟨C, G1, ρ1, rr1, Out.mono (Out.bind h1) fun dy ρ2 _ h2 G2 v2 H2 e2 rr2 d2 => ?_⟩
    obtain ⟨z, hz, h3⟩ := Out.bindc h2
    obtain ⟨kvs, hkv, h4⟩ := Out.bindc h3
    cases d1 with
    | tup hq1 da1 =>
      cases d2 with
      | tup hq2 da2 =>
        obtain ⟨hl, ez⟩ := if_ok hz
        subst ez
        obtain ⟨m, m1, m2⟩ := dicL_zip (dps_mono e2 da1) da2 hkv .nil
        refine ⟨_, _, _, _, m, rfl, same_t (e2.trans rr2.exG) hq1, same_t rr2.exG hq2, by rw [dps_len da1]; exact hl, m1, fun pd hpd => ?_⟩
        have nG := rr2.nG hpd
        exact h4 _ pd _ _ ((e1.trans e2).trans (same_new nG)) (rr2.know hpd) upd_same (kvd_mono (same_new nG) m2)
      | _ => cases hz
    | _ => cases hz
  · obtain ⟨x, y, vx, vy, m, rfl, hx, hy, hl, hm, q⟩ := q1
    obtain ⟨u1, u2, rfl, ru1, ru2⟩ := vals_two r1
    cases ru1
    cases ru2
    refine zip_made I1 hx hy fun xs ys h' rx ry D hz hTI hTO h1 h2 hl1 hl2 hsz lx ly hk => args_nil ?_
    obtain ⟨prs, k1, k2, k3⟩ := prs_zip (P := X.prog) (w := X.w) hm rx ry
    have hlx := rx.length
    have hmin : min xs.toArray.size ys.toArray.size ≤ 1000 := by
      simp only [List.size_toArray]
      omega
    refine PySem.call_dict_pairs (knd := mixKind X.prog X.w) (kvs := prs) (pairArgT _ _ _ _ _ _ _ D xs.toArray ys.toArray) (I1.ok.hd hc) ⟨hz, hTI, ⟨_, _, hTO⟩, h1, h2, hl1, hl2⟩ ⟨by rw [k2]; simp, fun i key v ⟨q1, q2⟩ => k3 i key v (by simpa using q1) (by simpa using q2)⟩ (Nat.le_trans hmin (by decide)) fun h2 tk hd hkk => ?_
    dsimp only at hd hkk ⊢
    have hbig : s1.heap.objs.size ≤ h'.objs.size := by
      rw [hsz]
      exact Nat.le_add_right _ _
    have hmod : (h'.objs.size == sysModules) = false := beq_eq_false_iff_ne.mpr (Nat.ne_of_gt (Nat.lt_of_lt_of_le I1.big hbig))
    have hlen : (mergeK [] m).length ≤ sizeLine := by
      refine Nat.le_trans (length_mergeK m []) ?_
      have := hm.len
      have h9 : (1000 : Nat) ≤ sizeLine := by decide
      simp
      omega
    exact ⟨.ref h'.objs.size, upd H1 h'.objs.size (.dK (mergeK [] m)), I1.laid (t' := tk) (fun b u e => hkk b u (fun hmem => by
      have hb : b < s1.heap.objs.size := Heap.lt_size e
      simp only [List.mem_cons, List.not_mem_nil, or_false] at hmem
      rcases hmem with z | z | z | z <;> rw [z] at hb <;> first | exact absurd hb (Nat.lt_irrefl _) | exact absurd hb (Nat.not_lt.mpr (Nat.le_add_right _ _))) (hk b u e)) hbig (show ObjOk X.prog X.w _ _ _ (.dK (mergeK [] m)) from ⟨hlen, hmod, merged [] prs, KV.merge k1 .nil, hd⟩), rfl, q _ (I1.hok.fresh hbig)⟩
/-! ### list(zip(a, b)) -/
theorem know_pairs {pins : List (Addr × Obj)} {s : Shared} {σ : L2.St} {H0 : Hp} {h' : Heap} {tk : Nat} {C : RC} {ρ : Env} (I0 : Inv X pins σ H0 s) : ∀ (as : List Addr) {vx vy : List V} {dx dy : List D} {xs ys : List Value} (H1 G1 : Hp), as.Pairwise (fun a b => a < b) → (∀ a ∈ as, s.heap.objs.size ≤ a ∧ H1 a = none) →
    (∀ (j : Nat) (a : Addr), as[j]? = some a → ∃ x y, xs[j]? = some x ∧ ys[j]? = some y ∧ IsPair h' a x y) → as.length = min xs.length ys.length → Vals vx xs → Vals vy ys → DpAll X.K G1 vx dx → DpAll X.K G1 vy dy → Inv X pins σ H1 { s with heap := h', toks := tk } → Rel X.K C G1 ρ σ H1 →
    ∃ H2 G2, Inv X pins σ H2 { s with heap := h', toks := tk } ∧ Rel X.K C G2 ρ σ H2 ∧ Same G1 G2 ∧ DpAll X.K G2 (as.map V.ref) (zipL dx dy) ∧ ∀ b, b ∉ as → H2 b = H1 b ∧ G2 b = G1 b
  | [], vx, vy, dx, dy, xs, ys, H1, G1, _, _, _, hl, rx, ry, hx, hy, I1, r1 => by
    refine ⟨H1, G1, I1, r1, Same.refl _, ?_, fun b _ => ⟨rfl, rfl⟩⟩
    have h0 : dx.length = 0 ∨ dy.length = 0 := by
      have h1 := dps_len hx
      have h2 := dps_len hy
      have h3 := rx.length
      have h4 := ry.length
      simp at hl
      omega
    have : zipL dx dy = [] := by
      rcases h0 with h0 | h0
      · rw [List.eq_nil_of_length_eq_zero h0]
        rfl
      · rw [List.eq_nil_of_length_eq_zero h0]
        cases dx <;> rfl
    rw [this]
    exact .nil
  | a :: as, vx, vy, dx, dy, xs, ys, H1, G1, hp, ha, hj, hl, rx, ry, hx, hy, I1, r1 => by
    obtain ⟨x, y, ex, ey, pxy⟩ := hj 0 a rfl
    cases rx with
    | nil => simp at ex
    | @cons v u vx' xs' rv rvx =>
      cases ry with
      | nil => simp at ey
      | @cons v2 u2 vy' ys' rv2 rvy =>
        cases hx with
        | @cons _ _ d dx' hd hdx =>
          cases hy with
          | @cons _ _ d2 dy' hd2 hdy =>
            cases ex
            cases ey
            rw [List.pairwise_cons] at hp
            obtain ⟨hb, hn⟩ := ha a List.mem_cons_self
            have I2 : Inv X pins σ (upd H1 a (.frz { cls := .type "tuple", data := .seq #[x, y] } (.tup [v, v2]))) { s with heap := h', toks := tk } := I1.take (h' := h') (t' := tk) (fun b ob _ e => e) (I0.fpOk hb hn) (show ObjOk X.prog X.w _ _ _ (.frz { cls := .type "tuple", data := .seq #[x, y] } (.tup [v, v2])) from ⟨pxy, by simp; decide, [x, y], .cons rv (.cons rv2 .nil), ⟨_, pxy, rfl, _, rfl⟩⟩)
            have nG := r1.nG hn
            have r2 : Rel X.K C (upd G1 a (.frz { cls := .type "tuple", data := .seq #[x, y] } (.tup [v, v2]))) ρ σ (upd H1 a (.frz { cls := .type "tuple", data := .seq #[x, y] } (.tup [v, v2]))) := r1.know hn
            have eG : Same G1 (upd G1 a (.frz { cls := .type "tuple", data := .seq #[x, y] } (.tup [v, v2]))) := same_new nG
            have hne : ∀ c ∈ as, c ≠ a := fun c hc e => by
              have := hp.1 c hc
              rw [e] at this
              exact Nat.lt_irrefl _ this
            obtain ⟨H2, G2, I3, r3, e3, d3, k3⟩ := know_pairs I0 as (upd H1 a (.frz { cls := .type "tuple", data := .seq #[x, y] } (.tup [v, v2]))) (upd G1 a (.frz { cls := .type "tuple", data := .seq #[x, y] } (.tup [v, v2]))) hp.2 (fun c hc => ⟨(ha c (List.mem_cons_of_mem _ hc)).1, by rw [upd_ne (hne c hc)]; exact (ha c (List.mem_cons_of_mem _ hc)).2⟩) (fun j c hc => by
              obtain ⟨x', y', q1, q2, q3⟩ := hj (j + 1) c (by simpa using hc)
              exact ⟨x', y', by simpa using q1, by simpa using q2, q3⟩) (by simp [Nat.succ_min_succ] at hl; exact hl) rvx rvy (dps_mono eG hdx) (dps_mono eG hdy) I2 r2
            have hna : a ∉ as := fun hm => hne a hm rfl
            refine ⟨H2, G2, I3, r3, eG.trans e3, .cons (.tup (NT.of rfl (e3 _ _ upd_same)) (.cons (dp_mono (eG.trans e3) hd) (.cons (dp_mono (eG.trans e3) hd2) .nil))) d3, fun b hb' => ?_⟩
            rw [List.mem_cons, not_or] at hb'
            obtain ⟨q1, q2⟩ := k3 b hb'.2
            rw [q1, q2, upd_ne hb'.1, upd_ne hb'.1]
            exact ⟨rfl, rfl⟩
theorem f_lzip (hK : X.K = K) (hc : X.calm = true) (hg : Gl X "list") (hm : X.mg "list" = none) (hg2 : Gl X "zip") (hm2 : X.mg "zip" = none) (ha : PE X ea (rdE F K cl W a)) (hb : PE X eb (rdE F K cl W b)) (hs1 : nostar ea = true) (hs2 : nostar eb = true) :
    PE X (.Call (.Name "list" p) [.Call (.Name "zip" p2) [ea, eb] [] pos] [] pos') (rdF F K cl W (.lzip a b)) := by
  subst hK
  refine ⟨fun pins s σ H Q I h => ?_⟩
  have hp := pa_cons ha (pa_cons hb pa_nil (star_cons hs2)) (star_cons hs1)
  have na : starEach [Expr.Call (.Name "zip" p2) [ea, eb] [] pos] X.env = (false, eval (Expr.Call (.Name "zip" p2) [ea, eb] [] pos) X.env) :: starEach [] X.env := rfl
  obtain ⟨C, G, ρ, r, h⟩ := h
  unfold evE at h
  refine Call_ (ld_blt I hg hm boot_list (PyProof.Rows.callWith_type1 (args_cons (Call_ (ld_blt I hg2 hm2 PyProof.Rows.boot_zip (PyProof.Rows.callWith_type1 (thn (hp.run pos pins s σ H (fun vs H1 => ∃ (x y : Addr) (vx vy : List V) (dx dy : List D) (G1 : Hp) (ρ1 : Env), vs = [.ref x, .ref y] ∧ SqT X.K H1 x vx ∧ SqT X.K H1 y vy ∧ vx.length ≤ 1000 ∧ DpAll X.K G1 vx dx ∧ DpAll X.K G1 vy dy ∧ Rel X.K C G1 ρ1 σ H1 ∧ ∀ G' p xs H', Same G1 G' → Rel X.K C G' ρ1 σ H' → Own C G' ρ1 σ H' p xs → DpAll X.K G' xs (zipL dx dy) → Q (.ref p) H') I ⟨C, G, ρ, r, ?_⟩) fun us s1 ⟨vs, H1, I1, r1, q1⟩ => ?_) (star_cons hs1) (star_none (by simp [hs2]))))) na) na))
  · refine Out.mono (Out.bind h) fun dx ρ1 _ h1 G1 v1 H1 e1 rr1 d1 => ⟨C, G1, ρ1, rr1, Out.mono (Out.bind h1) fun dy ρ2 _ h2 G2 v2 H2 e2 rr2 d2 => ?_⟩
    obtain ⟨z, hz, h3⟩ := Out.bindc h2
    cases d1 with
    | tup hq1 da1 =>
      cases d2 with
      | tup hq2 da2 =>
        obtain ⟨hl, ez⟩ := if_ok hz
        subst ez
        obtain ⟨ds', ed, k⟩ := h3
        cases ed
        exact ⟨_, _, _, _, _, _, G2, ρ2, rfl, same_t (e2.trans rr2.exG) hq1, same_t rr2.exG hq2, by rw [dps_len da1]; exact hl, dps_mono e2 da1, da2, rr2, fun G' p xs H' e' => k G' p xs H' ((e1.trans e2).trans e')⟩
      | _ => cases hz
    | _ => cases hz
  · obtain ⟨x, y, vx, vy, dx, dy, G1, ρ1, rfl, hx, hy, hl, hdx, hdy, rr, q⟩ := q1
    obtain ⟨u1, u2, rfl, ru1, ru2⟩ := vals_two r1
    cases ru1
    cases ru2
    refine zip_made I1 hx hy fun xs ys h' rx ry D hz hTI hTO h1 h2 hl1 hl2 hsz lx ly hk => args_nil ?_
    have hlx := rx.length
    have hmin : min xs.toArray.size ys.toArray.size ≤ 1000 := by
      simp only [List.size_toArray]
      omega
    have le : ∀ n : Nat, s1.heap.objs.size ≤ s1.heap.objs.size + n := fun n => Nat.le_add_right _ _
    have lt5 : ∀ {c : Addr}, c < s1.heap.objs.size → c < h'.objs.size := fun hc => by
      rw [hsz]
      exact Nat.lt_of_lt_of_le hc (le 5)
    refine lz_call (I1.ok.hd hc) D hmin hz (fun d _ => ⟨hTI, h1, h2, hl1, hl2, .inl ⟨hz, _, _, hTO⟩⟩) (Heap.lt_size hTI) (Heap.lt_size hTO) (by rw [hsz]; exact Nat.lt_succ_of_le (le 4)) (by rw [hsz]; exact Nat.add_lt_add_left (by decide : 1 < 5) _) (lt5 lx) (lt5 ly) fun h2 acc c as hkk hS hal hG hacc => ?_
    dsimp only at hkk hS hG ⊢
    have hbig : s1.heap.objs.size ≤ h'.objs.size := by
      rw [hsz]
      exact le 5
    have keep : ∀ b u, s1.heap.get? b = some u → h2.get? b = some u := fun b u e => by
      have hb : b < s1.heap.objs.size := Heap.lt_size e
      exact hkk b u (Nat.ne_of_lt (Nat.lt_of_lt_of_le hb (le 4))) (Nat.ne_of_lt (Nat.lt_of_lt_of_le hb (le 3))) (Nat.ne_of_lt hb) (Nat.ne_of_lt (Nat.lt_of_lt_of_le hb (le 1))) (hk b u e)
    have hfresh : H1 h'.objs.size = none := I1.hok.fresh hbig
    have hvals : ∀ l : List Addr, Vals (l.map V.ref) (l.map Value.ref) := by
      intro l
      induction l with
      | nil => exact .nil
      | cons a l ih => exact .cons rfl ih
    have hlen : (as.map V.ref).length ≤ sizeLine := by
      rw [List.length_map, hal]
      exact Nat.le_trans hmin (by decide)
    have I2 : Inv X pins σ (upd H1 h'.objs.size (.lst (as.map V.ref))) { s1 with heap := h2, toks := s1.toks } := I1.laid (t' := s1.toks) keep hbig (show ObjOk X.prog X.w _ _ _ (.lst (as.map V.ref)) from ⟨hlen, as.map Value.ref, c, hvals as, by rw [hS, ← hacc, Array.toArray_toList]⟩)
    have r2 : Rel X.K C G1 ρ1 σ (upd H1 h'.objs.size (.lst (as.map V.ref))) := rr.alloc hfresh
    obtain ⟨H3, G3, I3, r3, e3, d3, k3⟩ := know_pairs (ρ := ρ1) (h' := h2) (tk := s1.toks) I1 as (xs := xs) (ys := ys) _ _ hG.2.2 (fun a ha => by
      have hlo := hG.1 a ha
      have hge : s1.heap.objs.size ≤ a := Nat.le_trans hbig (Nat.le_of_succ_le hlo)
      exact ⟨hge, by rw [upd_ne (Nat.ne_of_gt hlo)]; exact I1.hok.fresh hge⟩) (fun j a hj => by
      obtain ⟨x', y', q1, q2, q3⟩ := hG.2.1 j a hj
      exact ⟨x', y', by simpa using q1, by simpa using q2, q3⟩) (by simpa using hal) rx ry hdx hdy I2 r2
    have hna : h'.objs.size ∉ as := fun hm => Nat.lt_irrefl _ (hG.1 _ hm)
    obtain ⟨q1, q2⟩ := k3 _ hna
    have o3 : Own C G3 ρ1 σ H3 h'.objs.size (as.map V.ref) := ⟨by rw [q1]; exact upd_same, by rw [q2]; exact rr.nG hfresh, rr.nP hfresh, rr.nM hfresh⟩
    exact ⟨.ref h'.objs.size, H3, I3, rfl, q G3 _ _ H3 e3 r3 o3 d3⟩
theorem lzip_list {ρ ρ' : Env} {d : D} (h : evE F (.lzip a b) ρ = .ok (d, ρ')) : ∃ ds, d = .list ds := by
  unfold evE at h
  obtain ⟨q, _, h⟩ := bindR_ok_inv h
  obtain ⟨q2, _, h⟩ := bindR_ok_inv h
  dsimp only at h
  cases hz : lzipD q.1 q2.1 with
  | error e => rw [hz] at h; cases h
  | ok z =>
    rw [hz] at h
    cases h
    exact ⟨_, rfl⟩
/-! ### dict(a list of pairs) -/
theorem dicL_list {G : Hp} : ∀ {vs : List V} {z : List D} {acc kvs : List (Key × D)} {racc : List (Key × V)}, DpAll K G vs z → dicL z acc = .ok kvs → KvD K G racc acc → ∃ (ps : List Addr) (m : List (Key × V)), vs = ps.map V.ref ∧ Paired (fun p kv => SqT K G p [kV kv.1, kv.2]) ps m ∧ KvD K G (mergeK racc m) kvs
  | _, _, acc, kvs, racc, .nil, h, ha => by
    cases h
    exact ⟨[], [], rfl, .nil, ha⟩
  | _, _, acc, kvs, racc, @DpAll.cons _ _ v vs d ds h1 t1, h, ha => by
    unfold dicL at h
    split at h
    · rename_i k0 v0
      cases h1 with
      | tup hq da =>
        cases da with
        | cons q1 q2 =>
          cases q2 with
          | cons q3 q4 =>
            cases q4
            cases hk : keyD k0 with
            | error e => rw [hk] at h; cases h
            | ok k =>
              rw [hk, bindC_ok] at h
              have ev := keyD_V hk q1
              subst ev
              obtain ⟨ps, m, e1, e2, e3⟩ := dicL_list t1 h (kvd_put k q3 ha)
              exact ⟨_ :: ps, (k, _) :: m, by rw [e1]; rfl, .cons hq.sq e2, e3⟩
    · cases h
theorem paired_mono {G H : Hp} (e : Same G H) : ∀ {ps : List Addr} {m : List (Key × V)}, Paired (fun p kv => SqT K G p [kV kv.1, kv.2]) ps m → Paired (fun p kv => SqT K H p [kV kv.1, kv.2]) ps m
  | _, _, .nil => .nil
  | _, _, .cons h t => .cons (same_s e h) (paired_mono e t)
theorem s_dlst (hK : X.K = K) (hc : X.calm = true) (hg : Gl X "dict") (hm : X.mg "dict" = none) (ha : PE X ea (rdE F K cl W a)) (hs : nostar ea = true) : PE X (.Call (.Name "dict" p) [ea] [] pos) (rdD F K cl W (.dlst a)) := by
  subst hK
  refine PE.imp (pe_callTy (call_dictP hc) hg hm boot_dict (pa_cons ha pa_nil (star_cons hs)) (by decide) (by decide) (star_cons hs) rfl) fun σ H Q h => ?_
  obtain ⟨C, G, ρ, rr, h⟩ := h
  refine ⟨C, G, ρ, rr, ?_⟩
  unfold evD at h
  refine h.bind.mono fun x ρ1 _ h1 G1 v1 H1 e1 r1 d1 => ?_
  cases d1 with
  | @lst a0 vs z hq da =>
    have h1 : Out C cl W σ (if z.length ≤ 1000 then bindC (dicL z []) (fun kvs => (.ok (kvs, ρ1) : R (List (Key × D) × Env))) else stk) _ := h1
    split at h1
    · obtain ⟨kvs, hkv, h2⟩ := Out.bindc h1
      obtain ⟨ps, m, e2, e3, e4⟩ := dicL_list da hkv .nil
      subst e2
      refine ⟨_, ps, m, rfl, same_l r1.exG hq, paired_mono r1.exG e3, fun pd hpd => ?_⟩
      have nG := r1.nG hpd
      exact h2 _ pd _ _ (e1.trans (same_new nG)) (r1.know hpd) upd_same (kvd_mono (same_new nG) e4)
    · exact h1.elim
  | _ => exact h1.elim
end
end Ft
/-! FtMt: does an expression of the row's text match one of the own language? -/
namespace Ft
open PySem PySem.Spec PyProof.Rows L2 RZ
structure Sig where
  fs : List (Str × Nat)
  gs : List (Str × Nat)
  bs : List Str
def visB (sc : Scope) (x : Str) : Bool := match sc.names.lookup x with
  | some .local => true
  | some .cell => true
  | some .free => true
  | _ => false
theorem vis_of {sc : Scope} {x : Str} (h : visB sc x = true) : Vis sc x := by
  unfold visB at h
  split at h
  · exact .inl (by assumption)
  · exact .inr (.inl (by assumption))
  · exact .inr (.inr (by assumption))
  · cases h
def locB (sc : Scope) (x : Str) : Bool := match sc.names.lookup x with
  | some .local => true
  | some .cell => true
  | _ => false
theorem loc_of {sc : Scope} {x : Str} (h : locB sc x = true) : Loc sc x := by
  unfold locB at h
  split at h
  · exact .inl (by assumption)
  · exact .inr (by assumption)
  · cases h
def nmB (x : Str) : Bool := !(x == ("__debug__" : Str)) && !(x == ("__classdict__" : Str)) && !(x == ("__name__" : Str))
def varB (N : List Str) (sc : Scope) (i : Nat) (x : Str) : Bool := decide (N[i]? = some x) && visB sc x && nmB x
def glB (sc : Scope) (x : Str) : Bool := decide (sc.names.lookup x = some .globalImplicit) && nmB x
/-- a built-in's name -/
def blB (T : Sig) (sc : Scope) (x : Str) : Bool := T.bs.contains x && glB sc x
def prN : Pr → Str
  | .len => "len"
  | .all => "all"
  | .any => "any"
  | .sum => "sum"
  | .max => "max"
  | .min => "min"
  | .sorted => "sorted"
  | .tuple => "tuple"
  | .list => "list"
  | .abs => "abs"
  | .int => "int"
  | .str => "str"
  | .lenset => "len"
def noset : Expr → Bool
  | .Set _ _ _ => false
  | _ => true
theorem noset_mark {e : Expr} {op : CmpOp} (h : noset e = true) : behindInMarks op e = false := by
  cases e <;> first | rfl | cases h
theorem noset_fold {e : Expr} {env : PySem.Env} (h : noset e = true) (x : Value) : foldedSetIterable e env x = pure x := by
  cases e <;> first | rfl | cases h
def tyS : Ty → Str
  | .int => "int"
  | .bool => "bool"
  | .str => "str"
  | .tuple => "tuple"
  | .list => "list"
def ownOf (N : List Str) (t : Tg) : List (Str × Nat) := (slots t).map fun i => (N.getD i "", i)
def mtG (chk : Nat → Str → Bool) : Tg → Expr → Bool
  | .one i, .Name x _ => chk i x
  | .two i j, .Tuple [.Name x _, .Name y _] _ _ => chk i x && chk j y
  | _, _ => false
/-- a target within a comprehension's block -/
def chkB (N : List Str) (sc scope : Scope) (i : Nat) (x : Str) : Bool := decide (N[i]? = some x) && (decide ((relS scope sc).names.lookup x = some .local) || (decide ((relS scope sc).names.lookup x = some .cell) && decide (scope.names.lookup x = some .cell)))
def isTup : Expr → Bool
  | .Tuple _ _ _ => true
  | _ => false
def TgE (t : Tg) (tg : Expr) : Prop := isTup tg = true → isTwo t = true
theorem tgE_of {chk : Nat → Str → Bool} {t : Tg} {tg : Expr} (h : mtG chk t tg = true) : TgE t tg := by
  intro hi
  cases t with
  | two i j => rfl
  | one i =>
    cases tg with
    | Tuple _ _ _ => cases h
    | _ => cases hi
mutual
def mtE (T : Sig) (N : List Str) : E → Scope → Expr → Bool
  | .loc i, sc, ex => (match ex with | .Name x _ => varB N sc i x | _ => false)
  | .non, _, ex => (match ex with | .Constant .none _ _ => true | _ => false)
  | .bl b, _, ex => (match ex with | .Constant (.bool c) _ _ => decide (b = c) | _ => false)
  | .int i, _, ex => (match ex with | .Constant (.int j) _ _ => decide (i = j) | _ => false)
  | .str s, _, ex => (match ex with | .Constant (.str j) _ _ => decide (s = j) | _ => false)
  | .bin o a b, sc, ex => (match ex with | .BinOp l op r _ => decide (op = opOf o) && mtE T N a sc l && mtE T N b sc r | _ => false)
  | .neg a, sc, ex => (match ex with | .UnaryOp .USub x _ => mtE T N a sc x | _ => false)
  | .not a, sc, ex => (match ex with | .UnaryOp .Not x _ => mtE T N a sc x | _ => false)
  | .and a b, sc, ex => (match ex with | .BoolOp .And (v :: w :: r) _ => mtE T N a sc v && (match r with | [] => mtE T N b sc w | u :: r' => mtB T N true b sc (w :: u :: r')) | _ => false)
  | .or a b, sc, ex => (match ex with | .BoolOp .Or (v :: w :: r) _ => mtE T N a sc v && (match r with | [] => mtE T N b sc w | u :: r' => mtB T N false b sc (w :: u :: r')) | _ => false)
  | .cmp c a b, sc, ex => (match ex with | .Compare l [op] [r] _ => decide (op = cmOf c) && mtE T N a sc l && mtE T N b sc r && noset r | _ => false)
  | .chain c c' a b e, sc, ex => (match ex with | .Compare l [op, op'] [r, s] _ => decide (op = cmOf c) && decide (op' = cmOf c') && mtE T N a sc l && mtE T N b sc r && mtE T N e sc s && noset r && noset s | _ => false)
  | .chain3 c c' c2 a b e f, sc, ex => (match ex with | .Compare l [op, op', op2] [r, s, u] _ => (decide (op = cmOf c) && decide (op' = cmOf c') && decide (op2 = cmOf c2)) && mtE T N a sc l && mtE T N b sc r && mtE T N e sc s && mtE T N f sc u && noset u | _ => false)
  | .ife t a b, sc, ex => (match ex with | .IfExp x y z _ => mtT T N t sc x && mtE T N a sc y && mtE T N b sc z | _ => false)
  | .tup as, sc, ex => (match ex with | .Tuple es _ _ => mtA T N as sc es && decide (alen as ≤ 1000) | _ => false)
  | .lst as, sc, ex => (match ex with | .List es _ => mtA T N as sc es && decide (alen as ≤ 1000) | _ => false)
  | .call f as, sc, ex => (match ex with | .Call (.Name x _) es [] _ => decide (x = f) && decide (T.fs.lookup x = some (alen as)) && glB sc x && mtA T N as sc es && (es.all nostar) | _ => false)
  | .callS f i e es, sc, ex => (match ex with | .Call (.Name x _) (z :: .Name y _ :: zs) [] _ => decide (x = f) && decide (T.gs.lookup x = some (alen es + 2)) && glB sc x && varB N sc i y && mtE T N e sc z && mtA T N es sc zs && nostar z && zs.all nostar | _ => false)
  | .prim p a, sc, ex => (match p with
    | .lenset => (match ex with | .Call (.Name x _) [.Call (.Name y _) [z] [] _] [] _ => decide (x = "len") && decide (y = "set") && blB T sc x && blB T sc y && mtE T N a sc z && nostar z | _ => false)
    | p => (match ex with | .Call (.Name x _) [z] [] _ => decide (x = prN p) && blB T sc x && mtE T N a sc z && nostar z | _ => false))
  | .prim2 p a b, sc, ex => (match p with
    | .min => (match ex with | .Call (.Name x _) [y, z] [] _ => decide (x = "min") && blB T sc x && mtE T N a sc y && mtE T N b sc z && nostar y && nostar z | _ => false)
    | .max => (match ex with | .Call (.Name x _) [y, z] [] _ => decide (x = "max") && blB T sc x && mtE T N a sc y && mtE T N b sc z && nostar y && nostar z | _ => false)
    | .join => (match a with
      | .str s => (match ex with | .Call (.Attribute (.Constant (.str j) _ _) m apos) [z] [] pos => decide (m = "join") && decide (s = j) && mtE T N b sc z && nostar z && (apos.endLine == pos.line) | _ => false)
      | _ => false)
    | .index => (match b with
      | .loc i => (match ex with | .Call (.Attribute y m apos) [z] [] pos => decide (m = "index") && mtE T N a sc y && mtE T N (.loc i) sc z && nostar z && (apos.endLine == pos.line) && abOk y | _ => false)
      | _ => false)
    | _ => false)
  | .isi a t, sc, ex => (match ex with | .Call (.Name x _) [z, .Name y _] [] _ => decide (x = "isinstance") && decide (y = tyS t) && blB T sc x && blB T sc y && mtE T N a sc z && nostar z | _ => false)
  | .ix a i, sc, ex => (match ex with | .Subscript l r _ => mtE T N a sc l && mtE T N i sc r && noslice r | _ => false)
  | .ixv s i, sc, ex => (match ex with | .Subscript (.Name x _) r _ => varB N sc s x && mtE T N i sc r && noslice r | _ => false)
  | .dget s i, sc, ex => (match ex with | .Subscript (.Name x _) r _ => varB N sc s x && mtE T N i sc r && noslice r | _ => false)
  | .dgetd s i d, sc, ex => (match ex with | .Call (.Attribute (.Name x _) m apos) [y, z] [] pos => decide (m = "get") && varB N sc s x && mtE T N i sc y && mtE T N d sc z && nostar y && nostar z && (apos.endLine == pos.line) | _ => false)
  | .sset a, sc, ex => (match ex with | .Call (.Name x _) [.Call (.Name y _) [z] [] _] [] _ => decide (x = "sorted") && decide (y = "set") && blB T sc x && blB T sc y && mtE T N a sc z && nostar z | _ => false)
  | .dvals s, sc, ex => (match ex with | .Call (.Name x _) [.Call (.Attribute (.Name y _) m apos) [] [] mpos] [] _ => decide (x = "sorted") && decide (m = "values") && blB T sc x && varB N sc s y && (apos.endLine == mpos.line) | _ => false)
  | .slc a lo hi, sc, ex => (match ex with | .Subscript l (.Slice x y none _) _ => mtE T N a sc l && mtO T N lo sc x && mtO T N hi sc y | _ => false)
  | .rev a, sc, ex => (match ex with | .Subscript l (.Slice none none (some (.UnaryOp .USub (.Constant (.int i) _ _) _)) _) _ => decide (i = 1) && mtE T N a sc l | _ => false)
  | .pop s i, sc, ex => (match ex with | .Call (.Attribute (.Name x _) m apos) [y] [] pos => decide (m = "pop") && varB N sc s x && mtE T N i sc y && nostar y && (apos.endLine == pos.line) | _ => false)
  | .rep as e, sc, ex => (match ex with | .BinOp (.List es _) .Mult r _ => mtA T N as sc es && decide (alen as ≤ 1000) && mtE T N e sc r | _ => false)
  | .lrng a, sc, ex => (match ex with | .Call (.Name x _) [.Call (.Name y _) [z] [] _] [] _ => decide (x = "list") && decide (y = "range") && blB T sc x && blB T sc y && mtE T N a sc z && nostar z | _ => false)
  | .lcv t s c e, sc, ex => (match ex with | .ListComp elt [⟨tg, .Name x _, ifs, 0⟩] scope _ => tgOk t && varB N sc s x && blkC N sc scope (ownOf N t) && mtG (chkB N sc scope) t tg && mtC T N c (relS scope sc) ifs && mtE T N e (relS scope sc) elt | _ => false)
  | .lc t it c e, sc, ex => (match ex with | .ListComp elt [⟨tg, iter, ifs, 0⟩] scope _ => tgOk t && mtI T N it sc tg iter && noset iter && blkC N sc scope (ownOf N t) && mtG (chkB N sc scope) t tg && mtC T N c (relS scope sc) ifs && mtE T N e (relS scope sc) elt | _ => false)
  | .lc2 t it t2 it2 c e, sc, ex => (match ex with | .ListComp elt [⟨tg, iter, [], 0⟩, ⟨tg1, iter1, ifs1, 0⟩] scope _ => (tgOk t && tgOk t2) && (mtI T N it sc tg iter && noset iter) && blkC N sc scope (ownOf N t ++ ownOf N t2) && (mtG (chkB N sc scope) t tg && mtG (chkB N sc scope) t2 tg1) && (mtI T N it2 (relS scope sc) tg1 iter1 && noset iter1) && mtC T N c (relS scope sc) ifs1 && mtE T N e (relS scope sc) elt | _ => false)
  | .trng a, sc, ex => (match ex with | .Call (.Name x _) [.Call (.Name y _) [z] [] _] [] _ => decide (x = "tuple") && decide (y = "range") && blB T sc x && blB T sc y && mtE T N a sc z && nostar z | _ => false)
  | .lzip a b, sc, ex => (match ex with | .Call (.Name x _) [.Call (.Name y _) [z, w] [] _] [] _ => decide (x = "list") && decide (y = "zip") && blB T sc x && blB T sc y && mtE T N a sc z && mtE T N b sc w && nostar z && nostar w | _ => false)
  | .orv a b, sc, ex => (match ex with | .BoolOp .Or [v, w] _ => mtE T N a sc v && mtE T N b sc w | _ => false)
  | _, _, _ => false
/-- the rest of a connective -/
def mtB (T : Sig) (N : List Str) (an : Bool) : E → Scope → List Expr → Bool
  | .and a b, sc, vs => an && (match vs with | v :: w :: r => mtE T N a sc v && (match r with | [] => mtE T N b sc w | u :: r' => mtB T N an b sc (w :: u :: r')) | _ => false)
  | .or a b, sc, vs => !an && (match vs with | v :: w :: r => mtE T N a sc v && (match r with | [] => mtE T N b sc w | u :: r' => mtB T N an b sc (w :: u :: r')) | _ => false)
  | _, _, _ => false
def mtA (T : Sig) (N : List Str) : E → Scope → List Expr → Bool
  | .nil, _, vs => vs.isEmpty
  | .cons e es, sc, vs => (match vs with | v :: r => mtE T N e sc v && nostar v && mtA T N es sc r | _ => false)
  | _, _, _ => false
def mtO (T : Sig) (N : List Str) : E → Scope → Option Expr → Bool
  | .nil, _, v => v.isNone
  | .tr a, sc, v => (match v with | some x => mtE T N a sc x | none => false)
  | _, _, _ => false
def mtT (T : Sig) (N : List Str) : E → Scope → Expr → Bool
  | .not a, sc, ex => (match ex with | .UnaryOp .Not x _ => mtT T N a sc x | _ => false)
  | .and a b, sc, ex => (match ex with | .BoolOp .And (v :: w :: r) _ => mtT T N a sc v && (match r with | [] => mtT T N b sc w | u :: r' => mtD T N true b sc (w :: u :: r')) | _ => false)
  | .or a b, sc, ex => (match ex with | .BoolOp .Or (v :: w :: r) _ => mtT T N a sc v && (match r with | [] => mtT T N b sc w | u :: r' => mtD T N false b sc (w :: u :: r')) | _ => false)
  | .ife t a b, sc, ex => (match ex with | .IfExp x y z _ => mtT T N t sc x && mtT T N a sc y && mtT T N b sc z | _ => false)
  | .tr a, sc, ex => mtE T N a sc ex && (plainT ex || (match ex with | .Compare _ _ _ _ => true | _ => false))
  | _, _, _ => false
def mtD (T : Sig) (N : List Str) (an : Bool) : E → Scope → List Expr → Bool
  | .and a b, sc, vs => an && (match vs with | v :: w :: r => mtT T N a sc v && (match r with | [] => mtT T N b sc w | u :: r' => mtD T N an b sc (w :: u :: r')) | _ => false)
  | .or a b, sc, vs => !an && (match vs with | v :: w :: r => mtT T N a sc v && (match r with | [] => mtT T N b sc w | u :: r' => mtD T N an b sc (w :: u :: r')) | _ => false)
  | _, _, _ => false
/-- a comprehension's tests -/
def mtC (T : Sig) (N : List Str) : E → Scope → List Expr → Bool
  | .tt, _, vs => vs.isEmpty
  | .not a, sc, vs => (match vs with | [.UnaryOp .Not x _] => mtT T N a sc x | _ => false)
  | .and a b, sc, vs => (match vs with | [.BoolOp .And (v :: w :: r) _] => mtT T N a sc v && (match r with | [] => mtT T N b sc w | u :: r' => mtD T N true b sc (w :: u :: r')) | _ => false)
  | .or a b, sc, vs => (match vs with | [.BoolOp .Or (v :: w :: r) _] => mtT T N a sc v && (match r with | [] => mtT T N b sc w | u :: r' => mtD T N false b sc (w :: u :: r')) | _ => false)
  | .ife t a b, sc, vs => (match vs with | [.IfExp x y z _] => mtT T N t sc x && mtT T N a sc y && mtT T N b sc z | _ => false)
  | .tr a, sc, vs => (match vs with | [ex] => mtE T N a sc ex && (plainT ex || (match ex with | .Compare _ _ _ _ => true | _ => false)) | _ => false)
  | _, _, _ => false
def mtI (T : Sig) (N : List Str) : E → Scope → Expr → Expr → Bool
  | .sq a, sc, _, ex => mtE T N a sc ex
  | .rng1 a, sc, _, ex => (match ex with | .Call (.Name x _) [y] [] _ => decide (x = "range") && blB T sc x && mtE T N a sc y && nostar y | _ => false)
  | .rng2 a b, sc, _, ex => (match ex with | .Call (.Name x _) [y, z] [] _ => decide (x = "range") && blB T sc x && mtE T N a sc y && mtE T N b sc z && nostar y && nostar z | _ => false)
  | .rng3 a b c, sc, _, ex => (match ex with | .Call (.Name x _) [y, z, w] [] _ => decide (x = "range") && blB T sc x && mtE T N a sc y && mtE T N b sc z && mtE T N c sc w && nostar y && nostar z && nostar w | _ => false)
  | .enum a, sc, tg, ex => (match ex with | .Call (.Name x _) [y] [] _ => decide (x = "enumerate") && blB T sc x && mtE T N a sc y && nostar y && isTup tg | _ => false)
  | .zip a b, sc, tg, ex => (match ex with | .Call (.Name x _) [y, z] [] _ => decide (x = "zip") && blB T sc x && mtE T N a sc y && mtE T N b sc z && nostar y && nostar z && isTup tg | _ => false)
  | _, _, _, _ => false
end
end Ft
/-! FtSnd: an expression that matches does what the evaluator says. -/
namespace Ft
open PySem PySem.Spec PyProof.Rows L2 RZ
structure Okk (T : Sig) (F : Fns) (K : PySem.W.Frag) (cl : Str → Addr) (k : Nat) (N : List Str) (W : WX) (sc : Scope) (X : Cx) : Prop where
  hK : X.K = K
  hN : X.N = N
  nd : N.Nodup
  hsc : X.env.scope = sc
  calm : X.calm = true
  tk : Takes X W
  rm : Room k X.A
  fs : ∀ x n, T.fs.lookup x = some n → FnAt X x k n (spF K cl n (F.f x))
  gs : ∀ x n, T.gs.lookup x = some n → FnAt X x k n (spG K n (F.g x))
  bs : ∀ b, T.bs.contains b = true → X.mg b = none
section
variable {T : Sig} {F : Fns} {K : PySem.W.Frag} {cl : Str → Addr} {k : Nat} {N : List Str} {W : WX} {sc scope : Scope} {X : Cx} {x : Str} {i : Nat} {pos p p2 : Pos}
theorem Okk.blk (o : Okk T F K cl k N W sc X) (s : Shared) (H : Hp) (scope : Scope) (C : Addr) (cl' : List (Str × Addr)) (fp : List Addr) : Okk T F K cl k N W0 (relS scope sc) (X.blk s H scope (compEnvC scope cl' C X.env) fp) where
  hK := o.hK
  hN := o.hN
  nd := o.nd
  hsc := by rw [← o.hsc]; rfl
  calm := o.calm
  tk := takes0
  rm := o.rm
  fs := fun x n h => ⟨(o.fs x n h).ex⟩
  gs := fun x n h => ⟨(o.gs x n h).ex⟩
  bs := o.bs
theorem nm_of (h : nmB x = true) : (x == ("__debug__" : Str)) = false ∧ (x == ("__classdict__" : Str)) = false ∧ x ≠ "__name__" := by
  unfold nmB at h
  rw [Bool.and_eq_true, Bool.and_eq_true, Bool.not_eq_true', Bool.not_eq_true', Bool.not_eq_true'] at h
  exact ⟨h.1.1, h.1.2, fun e => by rw [e] at h; exact absurd h.2 (by decide)⟩
theorem Okk.var (o : Okk T F K cl k N W sc X) (h : varB N sc i x = true) : X.N[i]? = some x ∧ Vis X.env.scope x ∧ (x == ("__debug__" : Str)) = false ∧ (x == ("__classdict__" : Str)) = false := by
  unfold varB at h
  rw [Bool.and_eq_true, Bool.and_eq_true] at h
  exact ⟨by rw [o.hN]; exact of_decide_eq_true h.1.1, by rw [o.hsc]; exact vis_of h.1.2, (nm_of h.2).1, (nm_of h.2).2.1⟩
theorem Okk.gl (o : Okk T F K cl k N W sc X) (h : glB sc x = true) : Gl X x ∧ (x == ("__debug__" : Str)) = false ∧ x ≠ "__name__" := by
  unfold glB at h
  rw [Bool.and_eq_true] at h
  exact ⟨by show X.env.scope.names.lookup x = _; rw [o.hsc]; exact of_decide_eq_true h.1, (nm_of h.2).1, (nm_of h.2).2.2⟩
theorem Okk.bl (o : Okk T F K cl k N W sc X) (h : blB T sc x = true) : Gl X x ∧ X.mg x = none ∧ (x == ("__debug__" : Str)) = false ∧ x ≠ "__name__" := by
  unfold blB at h
  rw [Bool.and_eq_true] at h
  exact ⟨(o.gl h.2).1, o.bs x h.1, (o.gl h.2).2⟩
theorem Okk.units (o : Okk T F K cl k N W sc X) : X.A.units + 65 < cLine := by
  have := o.rm.un
  omega
structure Snd (T : Sig) (F : Fns) (K : PySem.W.Frag) (cl : Str → Addr) (k : Nat) (N : List Str) (e : E) : Prop where
  sE : ∀ {W : WX} {sc : Scope} {X : Cx} {ex : Expr}, Okk T F K cl k N W sc X → mtE T N e sc ex = true → PE X ex (rdE F K cl W e)
  sB : ∀ {W : WX} {sc : Scope} {X : Cx} {an : Bool} {vs : List Expr} {pos : Pos}, Okk T F K cl k N W sc X → mtB T N an e sc vs = true → PE X (.BoolOp (if an then .And else .Or) vs pos) (rdE F K cl W e)
  sA : ∀ {W : WX} {sc : Scope} {X : Cx} {vs : List Expr}, Okk T F K cl k N W sc X → mtA T N e sc vs = true → PA X vs (rdA F K cl W e)
  sO : ∀ {W : WX} {sc : Scope} {X : Cx} {v : Option Expr}, Okk T F K cl k N W sc X → mtO T N e sc v = true → PO X v (rdO F K cl W e)
  sT : ∀ {W : WX} {sc : Scope} {X : Cx} {ex : Expr}, Okk T F K cl k N W sc X → mtT T N e sc ex = true → PT X ex (rdT F K cl W e)
  sD : ∀ {W : WX} {sc : Scope} {X : Cx} {an : Bool} {vs : List Expr} {pos : Pos}, Okk T F K cl k N W sc X → mtD T N an e sc vs = true → PW X (.BoolOp (if an then .And else .Or) vs pos) (rdT F K cl W e)
  sC : ∀ {W : WX} {sc : Scope} {X : Cx} {vs : List Expr}, Okk T F K cl k N W sc X → mtC T N e sc vs = true → PTs X vs (rdT F K cl W e)
  sI : ∀ {W : WX} {sc : Scope} {X : Cx} {tg ex : Expr}, Okk T F K cl k N W sc X → mtI T N e sc tg ex = true → ∀ {t : Tg}, TgE t tg → PI X tg ex (rdI F K cl W t e)
  sR : ∀ {W : WX} {sc : Scope} {X : Cx} {ex : Expr}, Okk T F K cl k N W sc X → (mtE T N e sc ex && (plainT ex || (match ex with | .Compare _ _ _ _ => true | _ => false))) = true → PT X ex (rdT F K cl W (.tr e))
/-- looked at -/
theorem pkOf {a : Ft.E} {ex : Expr} (o : Okk T F K cl k N W sc X) (h : mtE T N a sc ex = true) (hE : PE X ex (rdE F K cl W a)) : PE X ex (rdP F K cl W a) := by
  cases a with
  | loc i =>
    unfold mtE at h
    split at h
    · obtain ⟨h1, h2, h3, h4⟩ := o.var h
      exact s_locP h1 h2 h3 h4
    · cases h
  | _ => exact s_pk hE fun _ _ => rfl
theorem t_ofE {a : Ft.E} {ex : Expr} (o : Okk T F K cl k N W sc X) (sE : ∀ {ex : Expr}, mtE T N a sc ex = true → PE X ex (rdE F K cl W a)) (hn : ∀ l ops rs ps, mtE T N a sc (.Compare l ops rs ps) = false)
    (h : (mtE T N a sc ex && (plainT ex || (match ex with | .Compare _ _ _ _ => true | _ => false))) = true) : PT X ex (rdT F K cl W (.tr a)) := by
  rw [Bool.and_eq_true, Bool.or_eq_true] at h
  obtain ⟨h1, h2⟩ := h
  rcases h2 with h2 | h2
  · exact t_tr o.hK (pkOf o h1 (sE h1)) h2
  · split at h2
    · rw [hn] at h1; cases h1
    · cases h2
/-- one that is but an expression -/
theorem Snd.ofE {e : Ft.E} (h : ∀ {W : WX} {sc : Scope} {X : Cx} {ex : Expr}, Okk T F K cl k N W sc X → mtE T N e sc ex = true → PE X ex (rdE F K cl W e))
    (hB : ∀ an sc vs, mtB T N an e sc vs = false) (hA : ∀ sc vs, mtA T N e sc vs = false) (hO : ∀ sc vs, mtO T N e sc vs = false) (hT : ∀ sc vs, mtT T N e sc vs = false) (hD : ∀ an sc vs, mtD T N an e sc vs = false) (hC : ∀ sc vs, mtC T N e sc vs = false) (hI : ∀ sc tg vs, mtI T N e sc tg vs = false) (hn : ∀ sc l ops rs ps, mtE T N e sc (.Compare l ops rs ps) = false) : Snd T F K cl k N e :=
  ⟨h, fun _ q => (by rw [hB] at q; cases q), fun _ q => (by rw [hA] at q; cases q), fun _ q => (by rw [hO] at q; cases q), fun _ q => (by rw [hT] at q; cases q), fun _ q => (by rw [hD] at q; cases q), fun _ q => (by rw [hC] at q; cases q), fun _ q => (by rw [hI] at q; cases q), fun o q => t_ofE o (fun q => h o q) (hn _) q⟩
theorem Okk.prim (o : Okk T F K cl k N W sc X) {q : Pr} {a : Ft.E} {z : Expr} (hq : q ≠ .lenset) (hb : blB T sc (prN q) = true) (ha : PE X z (rdP F K cl W a)) (hs : nostar z = true) : PE X (.Call (.Name (prN q) p) [z] [] pos) (rdE F K cl W (.prim q a)) := by
  obtain ⟨h1, h2, h3, h4⟩ := o.bl hb
  have hK := o.hK
  subst hK
  cases q with
  | len => exact s_primB (CallR.or call_len_seq call_len_str) u_len h1 h2 rfl ha h4 h3 hs
  | all => exact s_primB (cr_all o.calm) u_all h1 h2 rfl ha h4 h3 hs
  | any => exact s_primB (cr_any o.calm) u_any h1 h2 rfl ha h4 h3 hs
  | sum => exact s_primB (cr_sum2 o.calm) u_sum h1 h2 rfl ha h4 h3 hs
  | max => exact s_primB (cr_max o.calm) u_max h1 h2 rfl ha h4 h3 hs
  | min => exact s_primB (cr_minA o.calm o.units) u_minA h1 h2 rfl ha h4 h3 hs
  | sorted => exact s_primB (cr_sortedA o.units) u_sorted h1 h2 rfl ha h4 h3 hs
  | tuple => exact s_primT (CallR.or call_tuple_ofN (cr_tupStr o.calm)) u_tuple h1 h2 rfl ha h4 h3 hs
  | list => exact s_primT call_list_of u_list1 h1 h2 rfl ha h4 h3 hs
  | abs => exact s_primB call_abs u_abs h1 h2 rfl ha h4 h3 hs
  | int => exact s_primT call_int1 u_int h1 h2 rfl ha h4 h3 hs
  | str => exact s_primT call_str_int u_str h1 h2 rfl ha h4 h3 hs
  | lenset => exact absurd rfl hq
theorem ownOf_snd (t : Tg) : (ownOf N t).map (·.2) = slots t := by
  unfold ownOf
  rw [List.map_map]
  exact List.map_id _
theorem Okk.pg1 (o : Okk T F K cl k N W sc X) {s : Shared} {H : Hp} {C : Addr} {cl' : List (Str × Addr)} {fp : List Addr} (h : chkB N sc scope i x = true) : PG (X.blk s H scope (compEnvC scope cl' C X.env) fp) (.Name x p) (gName i) := by
  unfold chkB at h
  rw [Bool.and_eq_true] at h
  have hi : X.N[i]? = some x := by rw [o.hN]; exact of_decide_eq_true h.1
  have nd : X.N.Nodup := by rw [o.hN]; exact o.nd
  have es : relS scope sc = (X.blk s H scope (compEnvC scope cl' C X.env) fp).env.scope := by rw [← o.hsc]; rfl
  have h2 := h.2
  rw [Bool.or_eq_true, Bool.and_eq_true] at h2
  rcases h2 with h2 | ⟨h2, h3⟩
  · have := of_decide_eq_true h2
    rw [es] at this
    exact pg_name nd hi (.inl this) (.inr this)
  · have := of_decide_eq_true h2
    rw [es] at this
    refine pg_name nd hi (.inr this) (.inl ?_)
    show (scope.names.lookup x == some .cell) = true
    rw [of_decide_eq_true h3]
    rfl
theorem Okk.pgB (o : Okk T F K cl k N W sc X) {s : Shared} {H : Hp} {C : Addr} {cl' : List (Str × Addr)} {fp : List Addr} {t : Tg} {tg : Expr} (h : mtG (chkB N sc scope) t tg = true) : PG (X.blk s H scope (compEnvC scope cl' C X.env) fp) tg (gOf K t) := by
  unfold mtG at h
  split at h
  · exact o.pg1 h
  · rw [Bool.and_eq_true] at h
    have hK := o.hK
    subst hK
    exact pg_tup o.calm (pgs_cons (o.pg1 h.1) (pgs_cons (o.pg1 h.2) pgs_nil rfl) rfl) rfl rfl
  · cases h
theorem Okk.lc (o : Okk T F K cl k N W sc X) {t : Tg} {it c e : Ft.E} {elt tg iter : Expr} {ifs : List Expr} (hI : Snd T F K cl k N it) (hC : Snd T F K cl k N c) (hE : Snd T F K cl k N e)
    (h : (tgOk t && mtI T N it sc tg iter && noset iter && blkC N sc scope (ownOf N t) && mtG (chkB N sc scope) t tg && mtC T N c (relS scope sc) ifs && mtE T N e (relS scope sc) elt) = true) : PE X (.ListComp elt [⟨tg, iter, ifs, 0⟩] scope pos) (rdF F K cl W (.lc t it c e)) := by
  simp only [Bool.and_eq_true] at h
  obtain ⟨⟨⟨⟨⟨⟨h1, h2⟩, h3⟩, h4⟩, h5⟩, h6⟩, h7⟩ := h
  have ok := blkOk_by h4
  rw [← o.hN, ← o.hsc] at ok
  exact f_lc h1 o.calm (by rw [o.hN]; exact o.nd) (hI.sI o h2 (tgE_of h5)) ok (ownOf_snd t) (fun s H C cl' fp => o.pgB h5) (fun s H C cl' fp => hC.sC (o.blk s H scope C cl' fp) h6) (fun s H C cl' fp => hE.sE (o.blk s H scope C cl' fp) h7) (noset_fold h3)
theorem Okk.lc2 (o : Okk T F K cl k N W sc X) {t t2 : Tg} {it it2 c e : Ft.E} {elt tg iter tg1 iter1 : Expr} {ifs1 : List Expr} (hI : Snd T F K cl k N it) (hI2 : Snd T F K cl k N it2) (hC : Snd T F K cl k N c) (hE : Snd T F K cl k N e)
    (h : ((tgOk t && tgOk t2) && (mtI T N it sc tg iter && noset iter) && blkC N sc scope (ownOf N t ++ ownOf N t2) && (mtG (chkB N sc scope) t tg && mtG (chkB N sc scope) t2 tg1) && (mtI T N it2 (relS scope sc) tg1 iter1 && noset iter1) && mtC T N c (relS scope sc) ifs1 && mtE T N e (relS scope sc) elt) = true) : PE X (.ListComp elt [⟨tg, iter, [], 0⟩, ⟨tg1, iter1, ifs1, 0⟩] scope pos) (rdF F K cl W (.lc2 t it t2 it2 c e)) := by
  simp only [Bool.and_eq_true] at h
  obtain ⟨⟨⟨⟨⟨⟨⟨h1, h1'⟩, ⟨h2, h3⟩⟩, h4⟩, ⟨h5, h5'⟩⟩, ⟨h8, h9⟩⟩, h6⟩, h7⟩ := h
  have ok := blkOk_by h4
  rw [← o.hN, ← o.hsc] at ok
  exact f_lc2 h1 h1' o.calm (by rw [o.hN]; exact o.nd) (hI.sI o h2 (tgE_of h5)) ok (by rw [List.map_append, ownOf_snd, ownOf_snd]) (fun s H C cl' fp => o.pgB h5) (fun s H C cl' fp => hI2.sI (o.blk s H scope C cl' fp) h8 (tgE_of h5')) (fun s H C cl' fp => o.pgB h5') (fun s H C cl' fp => pts_tt)
    (fun s H C cl' fp => hC.sC (o.blk s H scope C cl' fp) h6) (fun s H C cl' fp => hE.sE (o.blk s H scope C cl' fp) h7) (noset_fold h3) (fun env => noset_fold h9)
theorem Okk.lcv (o : Okk T F K cl k N W sc X) {t : Tg} {s : Nat} {c e : Ft.E} {elt tg : Expr} {ifs : List Expr} (hC : Snd T F K cl k N c) (hE : Snd T F K cl k N e)
    (h : (tgOk t && varB N sc s x && blkC N sc scope (ownOf N t) && mtG (chkB N sc scope) t tg && mtC T N c (relS scope sc) ifs && mtE T N e (relS scope sc) elt) = true) : PE X (.ListComp elt [⟨tg, .Name x p, ifs, 0⟩] scope pos) (rdF F K cl W (.lcv t s c e)) := by
  simp only [Bool.and_eq_true] at h
  obtain ⟨⟨⟨⟨⟨h1, h2⟩, h4⟩, h5⟩, h6⟩, h7⟩ := h
  have ok := blkOk_by h4
  rw [← o.hN, ← o.hsc] at ok
  obtain ⟨v1, v2, v3, v4⟩ := o.var h2
  exact f_lcv o.hK h1 v1 v2 v3 v4 o.calm (by rw [o.hN]; exact o.nd) ok (ownOf_snd t) (fun s H C cl' fp => o.pgB h5) (fun s H C cl' fp => hC.sC (o.blk s H scope C cl' fp) h6) (fun s H C cl' fp => hE.sE (o.blk s H scope C cl' fp) h7)
end
end Ft
/-! FtSnd2: the induction over expressions. -/
namespace Ft
open PySem PySem.Spec PyProof.Rows L2 RZ
section
variable {T : Sig} {F : Fns} {K : PySem.W.Frag} {cl : Str → Addr} {k : Nat} {N : List Str} {W : WX} {sc scope : Scope} {X : Cx} {x : Str} {i : Nat} {pos p p2 : Pos}
structure LsOk : Prop where
  len : ∀ {F : Fns} {K : PySem.W.Frag} {cl : Str → Addr} {W : WX} {X : Cx} {a : E} {ea : Expr} {pos p p2 p3 : Pos}, X.K = K → X.calm = true → X.A.units + 65 < cLine → Gl X "len" → X.mg "len" = none → Gl X "set" → X.mg "set" = none → PE X ea (rdP F K cl W a) → nostar ea = true → PE X (.Call (.Name "len" p) [.Call (.Name "set" p2) [ea] [] p3] [] pos) (rdE F K cl W (.prim .lenset a))
  ss : ∀ {F : Fns} {K : PySem.W.Frag} {cl : Str → Addr} {W : WX} {X : Cx} {a : E} {ea : Expr} {pos p p2 p3 : Pos}, X.K = K → X.calm = true → Gl X "sorted" → X.mg "sorted" = none → Gl X "set" → X.mg "set" = none → PE X ea (rdE F K cl W a) → nostar ea = true → PE X (.Call (.Name "sorted" p) [.Call (.Name "set" p2) [ea] [] p3] [] pos) (rdE F K cl W (.sset a))
  dv : ∀ {F : Fns} {K : PySem.W.Frag} {cl : Str → Addr} {W : WX} {X : Cx} {s : Nat} {x : Str} {pos p p2 p3 apos : Pos}, X.K = K → X.calm = true → Gl X "sorted" → X.mg "sorted" = none → X.N[s]? = some x → Vis X.env.scope x → (x == ("__debug__" : Str)) = false → (x == ("__classdict__" : Str)) = false → (apos.endLine == p3.line) = true → PE X (.Call (.Name "sorted" p) [.Call (.Attribute (.Name x p2) "values" apos) [] [] p3] [] pos) (rdE F K cl W (.dvals s))
theorem an2 {a b : Bool} (h : (a && b) = true) : a = true ∧ b = true := by rwa [Bool.and_eq_true] at h
theorem conB {an : Bool} {a b : Ft.E} (o : Okk T F K cl k N W sc X) (sa : Snd T F K cl k N a) (sb : Snd T F K cl k N b) {v w : Expr} {r : List Expr} (h : (mtE T N a sc v && (match r with | [] => mtE T N b sc w | u :: r' => mtB T N an b sc (w :: u :: r'))) = true) :
    PE X (.BoolOp (if an then .And else .Or) (v :: w :: r) pos) (rdE F K cl W (if an then .and a b else .or a b)) := by
  obtain ⟨h1, h2⟩ := an2 h
  have hb : PE X (.BoolOp (if an then .And else .Or) (w :: r) pos) (rdE F K cl W b) := by
    cases r with
    | nil => exact pe_one (sb.sE o h2)
    | cons u r' => exact sb.sB o h2
  cases an with
  | true => exact s_and (sa.sE o h1) hb
  | false => exact s_or (sa.sE o h1) hb
theorem conD {an : Bool} {a b : Ft.E} (o : Okk T F K cl k N W sc X) (sa : Snd T F K cl k N a) (sb : Snd T F K cl k N b) {v w : Expr} {r : List Expr} (h : (mtT T N a sc v && (match r with | [] => mtT T N b sc w | u :: r' => mtD T N an b sc (w :: u :: r'))) = true) :
    PW X (.BoolOp (if an then .And else .Or) (v :: w :: r) pos) (rdT F K cl W (if an then .and a b else .or a b)) := by
  obtain ⟨h1, h2⟩ := an2 h
  cases an with
  | true =>
    refine t_and (sa.sT o h1) ?_
    cases r with
    | nil => exact pw_and1 (sb.sT o h2)
    | cons u r' => exact sb.sD (an := true) o h2
  | false =>
    refine t_or (sa.sT o h1) ?_
    cases r with
    | nil => exact pw_or1 (sb.sT o h2)
    | cons u r' => exact sb.sD (an := false) o h2
theorem conS (an : Bool) {a b : Ft.E} (sa : Snd T F K cl k N a) (sb : Snd T F K cl k N b) : Snd T F K cl k N (if an then .and a b else .or a b) := by
  have hE : ∀ {W : WX} {sc : Scope} {X : Cx} {ex : Expr}, Okk T F K cl k N W sc X → mtE T N (if an then .and a b else .or a b) sc ex = true → PE X ex (rdE F K cl W (if an then .and a b else .or a b)) := fun {W sc X ex} o h => by
    cases an with
    | true =>
      rw [if_pos rfl] at h ⊢
      unfold mtE at h
      split at h
      · exact conB (an := true) o sa sb h
      · cases h
    | false =>
      rw [if_neg Bool.false_ne_true] at h ⊢
      unfold mtE at h
      split at h
      · exact conB (an := false) o sa sb h
      · cases h
  have hT : ∀ {W : WX} {sc : Scope} {X : Cx} {ex : Expr}, Okk T F K cl k N W sc X → mtT T N (if an then .and a b else .or a b) sc ex = true → PT X ex (rdT F K cl W (if an then .and a b else .or a b)) := fun {W sc X ex} o h => by
    cases an with
    | true =>
      rw [if_pos rfl] at h ⊢
      unfold mtT at h
      split at h
      · exact (conD (an := true) o sa sb h).pt
      · cases h
    | false =>
      rw [if_neg Bool.false_ne_true] at h ⊢
      unfold mtT at h
      split at h
      · exact (conD (an := false) o sa sb h).pt
      · cases h
  refine ⟨hE, fun {W sc X bn vs ps} o h => ?_, fun o h => ?_, fun o h => ?_, hT, fun {W sc X bn vs ps} o h => ?_, fun {W sc X vs} o h => ?_, fun o h => ?_, fun o h => t_ofE o (fun q => hE o q) (fun _ _ _ _ => by cases an <;> rfl) h⟩
  · cases an with
    | true =>
      rw [if_pos rfl] at h ⊢
      unfold mtB at h
      obtain ⟨h1, h2⟩ := an2 h
      subst h1
      split at h2
      · exact conB (an := true) o sa sb h2
      · cases h2
    | false =>
      rw [if_neg Bool.false_ne_true] at h ⊢
      unfold mtB at h
      obtain ⟨h1, h2⟩ := an2 h
      rw [Bool.not_eq_true'] at h1
      subst h1
      split at h2
      · exact conB (an := false) o sa sb h2
      · cases h2
  · exact absurd h (by cases an <;> exact Bool.false_ne_true)
  · exact absurd h (by cases an <;> exact Bool.false_ne_true)
  · cases an with
    | true =>
      rw [if_pos rfl] at h ⊢
      unfold mtD at h
      obtain ⟨h1, h2⟩ := an2 h
      subst h1
      split at h2
      · exact conD (an := true) o sa sb h2
      · cases h2
    | false =>
      rw [if_neg Bool.false_ne_true] at h ⊢
      unfold mtD at h
      obtain ⟨h1, h2⟩ := an2 h
      rw [Bool.not_eq_true'] at h1
      subst h1
      split at h2
      · exact conD (an := false) o sa sb h2
      · cases h2
  · cases an with
    | true =>
      rw [if_pos rfl] at h ⊢
      unfold mtC at h
      split at h
      · exact pts_one (conD (an := true) o sa sb h).pt
      · cases h
    | false =>
      rw [if_neg Bool.false_ne_true] at h ⊢
      unfold mtC at h
      split at h
      · exact pts_one (conD (an := false) o sa sb h).pt
      · cases h
  · exact absurd h (by cases an <;> exact Bool.false_ne_true)
theorem an3 {a b c : Bool} (h : (a && b && c) = true) : a = true ∧ b = true ∧ c = true := by simpa [and_assoc] using h
theorem an4 {a b c d : Bool} (h : (a && b && c && d) = true) : a = true ∧ b = true ∧ c = true ∧ d = true := by simpa [and_assoc] using h
theorem an5 {a b c d e : Bool} (h : (a && b && c && d && e) = true) : a = true ∧ b = true ∧ c = true ∧ d = true ∧ e = true := by simpa [and_assoc] using h
theorem an6 {a b c d e f : Bool} (h : (a && b && c && d && e && f) = true) : a = true ∧ b = true ∧ c = true ∧ d = true ∧ e = true ∧ f = true := by simpa [and_assoc] using h
theorem an7 {a b c d e f g : Bool} (h : (a && b && c && d && e && f && g) = true) : a = true ∧ b = true ∧ c = true ∧ d = true ∧ e = true ∧ f = true ∧ g = true := by simpa [and_assoc] using h
theorem an8 {a b c d e f g i : Bool} (h : (a && b && c && d && e && f && g && i) = true) : a = true ∧ b = true ∧ c = true ∧ d = true ∧ e = true ∧ f = true ∧ g = true ∧ i = true := by simpa [and_assoc] using h
theorem mtA_ne {as : Ft.E} {es : List Expr} (h : mtA T N as sc es = true) : alen as = es.length := by
  induction as generalizing es with
  | nil => unfold mtA at h; cases es with | nil => rfl | cons _ _ => cases h
  | cons e es' _ ih =>
    unfold mtA at h
    split at h
    · obtain ⟨_, _, h3⟩ := an3 h
      rw [List.length_cons, ← ih h3]
      rfl
    · cases h
  | _ => cases h
theorem snd (ls : LsOk) : ∀ e : Ft.E, Snd T F K cl k N e := by
  intro e
  induction e with
  | loc i =>
    refine .ofE (fun {W sc X ex} o h => ?_) (fun _ _ _ => rfl) (fun _ _ => rfl) (fun _ _ => rfl) (fun _ _ => rfl) (fun _ _ _ => rfl) (fun _ _ => rfl) (fun _ _ _ => rfl) (fun _ _ _ _ _ => rfl)
    unfold mtE at h
    split at h
    · obtain ⟨h1, h2, h3, h4⟩ := o.var h
      exact s_loc h1 h2 h3 h4
    · cases h
  | non =>
    refine .ofE (fun {W sc X ex} o h => ?_) (fun _ _ _ => rfl) (fun _ _ => rfl) (fun _ _ => rfl) (fun _ _ => rfl) (fun _ _ _ => rfl) (fun _ _ => rfl) (fun _ _ _ => rfl) (fun _ _ _ _ _ => rfl)
    unfold mtE at h
    split at h
    · exact s_non
    · cases h
  | bl b =>
    refine .ofE (fun {W sc X ex} o h => ?_) (fun _ _ _ => rfl) (fun _ _ => rfl) (fun _ _ => rfl) (fun _ _ => rfl) (fun _ _ _ => rfl) (fun _ _ => rfl) (fun _ _ _ => rfl) (fun _ _ _ _ _ => rfl)
    unfold mtE at h
    split at h
    · obtain rfl := of_decide_eq_true h
      exact s_bl
    · cases h
  | int i =>
    refine .ofE (fun {W sc X ex} o h => ?_) (fun _ _ _ => rfl) (fun _ _ => rfl) (fun _ _ => rfl) (fun _ _ => rfl) (fun _ _ _ => rfl) (fun _ _ => rfl) (fun _ _ _ => rfl) (fun _ _ _ _ _ => rfl)
    unfold mtE at h
    split at h
    · obtain rfl := of_decide_eq_true h
      exact s_int
    · cases h
  | str i =>
    refine .ofE (fun {W sc X ex} o h => ?_) (fun _ _ _ => rfl) (fun _ _ => rfl) (fun _ _ => rfl) (fun _ _ => rfl) (fun _ _ _ => rfl) (fun _ _ => rfl) (fun _ _ _ => rfl) (fun _ _ _ _ _ => rfl)
    unfold mtE at h
    split at h
    · obtain rfl := of_decide_eq_true h
      exact s_str
    · cases h
  | bin q a b iha ihb =>
    refine .ofE (fun {W sc X ex} o h => ?_) (fun _ _ _ => rfl) (fun _ _ => rfl) (fun _ _ => rfl) (fun _ _ => rfl) (fun _ _ _ => rfl) (fun _ _ => rfl) (fun _ _ _ => rfl) (fun _ _ _ _ _ => rfl)
    unfold mtE at h
    split at h
    · obtain ⟨h1, h2, h3⟩ := an3 h
      obtain rfl := of_decide_eq_true h1
      obtain ⟨r, hr, hb⟩ := op_all (X := X) o.hK q
      exact s_bin hr hb (iha.sE o h2) (ihb.sE o h3)
    · cases h
  | neg a ih =>
    refine .ofE (fun {W sc X ex} o h => ?_) (fun _ _ _ => rfl) (fun _ _ => rfl) (fun _ _ => rfl) (fun _ _ => rfl) (fun _ _ _ => rfl) (fun _ _ => rfl) (fun _ _ _ => rfl) (fun _ _ _ _ _ => rfl)
    unfold mtE at h
    split at h
    · exact s_neg (ih.sE o h)
    · cases h
  | not a ih =>
    have hE : ∀ {W : WX} {sc : Scope} {X : Cx} {ex : Expr}, Okk T F K cl k N W sc X → mtE T N (.not a) sc ex = true → PE X ex (rdE F K cl W (.not a)) := fun {W sc X ex} o h => by
      unfold mtE at h
      split at h
      · exact s_not o.hK (ih.sE o h)
      · cases h
    refine ⟨hE, fun o h => (by cases h), fun o h => (by cases h), fun o h => (by cases h), fun {W sc X ex} o h => ?_, fun o h => (by cases h), fun {W sc X vs} o h => ?_, fun o h => (by cases h), fun o h => t_ofE o (fun q => hE o q) (fun _ _ _ _ => rfl) h⟩
    · unfold mtT at h
      split at h
      · exact t_not (ih.sT o h)
      · cases h
    · unfold mtC at h
      split at h
      · exact pts_one (t_not (ih.sT o h))
      · cases h
  | and a b iha ihb => exact conS true iha ihb
  | or a b iha ihb => exact conS false iha ihb
  | cmp c a b iha ihb =>
    refine ⟨fun {W sc X ex} o h => ?_, fun o h => (by cases h), fun o h => (by cases h), fun o h => (by cases h), fun o h => (by cases h), fun o h => (by cases h), fun o h => (by cases h), fun o h => (by cases h), fun {W sc X ex} o h => ?_⟩
    · unfold mtE at h
      split at h
      · obtain ⟨h1, h2, h3, h4⟩ := an4 h
        obtain rfl := of_decide_eq_true h1
        obtain ⟨r, hr, hb⟩ := cmp_all (X := X) o.hK o.units c
        exact s_cmp hr hb (iha.sE o h2) (pkOf o h3 (ihb.sE o h3)) (noset_mark h4)
      · cases h
    · have h := (an2 h).1
      unfold mtE at h
      split at h
      · obtain ⟨h1, h2, h3, h4⟩ := an4 h
        obtain rfl := of_decide_eq_true h1
        obtain ⟨r, hr, hb⟩ := cmp_all (X := X) o.hK o.units c
        exact t_cmp hr hb (iha.sE o h2) (pkOf o h3 (ihb.sE o h3)) (noset_mark h4)
      · cases h
  | chain c c' a b e iha ihb ihe =>
    refine ⟨fun {W sc X ex} o h => ?_, fun o h => (by cases h), fun o h => (by cases h), fun o h => (by cases h), fun o h => (by cases h), fun o h => (by cases h), fun o h => (by cases h), fun o h => (by cases h), fun {W sc X ex} o h => ?_⟩
    · unfold mtE at h
      split at h
      · obtain ⟨h1, h2, h3, h4, h5, h6, h7⟩ := an7 h
        obtain rfl := of_decide_eq_true h1
        obtain rfl := of_decide_eq_true h2
        obtain ⟨r, hr, hb⟩ := cmp_all (X := X) o.hK o.units c
        obtain ⟨r', hr', hb'⟩ := cmp_all (X := X) o.hK o.units c'
        exact s_chain hr hr' hb hb' (iha.sE o h3) (ihb.sE o h4) (ihe.sE o h5) (noset_mark h6) (noset_mark h7)
      · cases h
    · have h := (an2 h).1
      unfold mtE at h
      split at h
      · obtain ⟨h1, h2, h3, h4, h5, h6, h7⟩ := an7 h
        obtain rfl := of_decide_eq_true h1
        obtain rfl := of_decide_eq_true h2
        obtain ⟨r, hr, hb⟩ := cmp_all (X := X) o.hK o.units c
        obtain ⟨r', hr', hb'⟩ := cmp_all (X := X) o.hK o.units c'
        exact t_chain hr hr' hb hb' (iha.sE o h3) (ihb.sE o h4) (ihe.sE o h5) (noset_mark h6) (noset_mark h7)
      · cases h
  | chain3 c c' c2 a b e f iha ihb ihe ihf =>
    refine ⟨fun {W sc X ex} o h => ?_, fun o h => (by cases h), fun o h => (by cases h), fun o h => (by cases h), fun o h => (by cases h), fun o h => (by cases h), fun o h => (by cases h), fun o h => (by cases h), fun {W sc X ex} o h => ?_⟩
    · unfold mtE at h
      split at h
      · obtain ⟨h0, h3, h4, h5, h6, h7⟩ := an6 h
        obtain ⟨h1, h2, h8⟩ := an3 h0
        obtain rfl := of_decide_eq_true h1
        obtain rfl := of_decide_eq_true h2
        obtain rfl := of_decide_eq_true h8
        obtain ⟨r, hr, hb⟩ := cmp_all (X := X) o.hK o.units c
        obtain ⟨r', hr', hb'⟩ := cmp_all (X := X) o.hK o.units c'
        obtain ⟨r2, hr2, hb2⟩ := cmp_all (X := X) o.hK o.units c2
        exact s_chain3 hr hr' hr2 hb hb' hb2 (iha.sE o h3) (ihb.sE o h4) (ihe.sE o h5) (ihf.sE o h6) (noset_mark h7)
      · cases h
    · have h := (an2 h).1
      unfold mtE at h
      split at h
      · obtain ⟨h0, h3, h4, h5, h6, h7⟩ := an6 h
        obtain ⟨h1, h2, h8⟩ := an3 h0
        obtain rfl := of_decide_eq_true h1
        obtain rfl := of_decide_eq_true h2
        obtain rfl := of_decide_eq_true h8
        obtain ⟨r, hr, hb⟩ := cmp_all (X := X) o.hK o.units c
        obtain ⟨r', hr', hb'⟩ := cmp_all (X := X) o.hK o.units c'
        obtain ⟨r2, hr2, hb2⟩ := cmp_all (X := X) o.hK o.units c2
        exact t_chain3 hr hr' hr2 hb hb' hb2 (iha.sE o h3) (ihb.sE o h4) (ihe.sE o h5) (ihf.sE o h6) (noset_mark h7)
      · cases h
  | ife t a b iht iha ihb =>
    have hE : ∀ {W : WX} {sc : Scope} {X : Cx} {ex : Expr}, Okk T F K cl k N W sc X → mtE T N (.ife t a b) sc ex = true → PE X ex (rdE F K cl W (.ife t a b)) := fun {W sc X ex} o h => by
      unfold mtE at h
      split at h
      · obtain ⟨h1, h2, h3⟩ := an3 h
        exact s_ife (iht.sT o h1) (iha.sE o h2) (ihb.sE o h3)
      · cases h
    refine ⟨hE, fun o h => (by cases h), fun o h => (by cases h), fun o h => (by cases h), fun {W sc X ex} o h => ?_, fun o h => (by cases h), fun {W sc X vs} o h => ?_, fun o h => (by cases h), fun o h => t_ofE o (fun q => hE o q) (fun _ _ _ _ => rfl) h⟩
    · unfold mtT at h
      split at h
      · obtain ⟨h1, h2, h3⟩ := an3 h
        exact t_ife (iht.sT o h1) (iha.sT o h2) (ihb.sT o h3)
      · cases h
    · unfold mtC at h
      split at h
      · obtain ⟨h1, h2, h3⟩ := an3 h
        exact pts_one (t_ife (iht.sT o h1) (iha.sT o h2) (ihb.sT o h3))
      · cases h
  | tup as ih =>
    refine .ofE (fun {W sc X ex} o h => ?_) (fun _ _ _ => rfl) (fun _ _ => rfl) (fun _ _ => rfl) (fun _ _ => rfl) (fun _ _ _ => rfl) (fun _ _ => rfl) (fun _ _ _ => rfl) (fun _ _ _ _ _ => rfl)
    unfold mtE at h
    split at h
    · obtain ⟨h1, h2⟩ := an2 h
      exact s_tup (ih.sA o h1) (of_decide_eq_true h2)
    · cases h
  | lst as ih =>
    refine .ofE (fun {W sc X ex} o h => ?_) (fun _ _ _ => rfl) (fun _ _ => rfl) (fun _ _ => rfl) (fun _ _ => rfl) (fun _ _ _ => rfl) (fun _ _ => rfl) (fun _ _ _ => rfl) (fun _ _ _ _ _ => rfl)
    unfold mtE at h
    split at h
    · obtain ⟨h1, h2⟩ := an2 h
      exact s_lst (ih.sA o h1) (of_decide_eq_true h2)
    · cases h
  | nil =>
    refine ⟨fun o h => (by cases h), fun o h => (by cases h), fun {W sc X vs} o h => ?_, fun {W sc X v} o h => ?_, fun o h => (by cases h), fun o h => (by cases h), fun o h => (by cases h), fun o h => (by cases h), fun o h => (by cases (an2 h).1)⟩
    · unfold mtA at h
      cases vs with
      | nil => exact a_nil
      | cons _ _ => cases h
    · unfold mtO at h
      cases v with
      | none => exact o_none
      | some _ => cases h
  | cons e es ihe ihes =>
    refine ⟨fun o h => (by cases h), fun o h => (by cases h), fun {W sc X vs} o h => ?_, fun {W sc X v} o h => (by cases h), fun o h => (by cases h), fun o h => (by cases h), fun o h => (by cases h), fun o h => (by cases h), fun o h => (by cases (an2 h).1)⟩
    unfold mtA at h
    split at h
    · obtain ⟨h1, h2, h3⟩ := an3 h
      exact a_cons (ihe.sE o h1) (ihes.sA o h3) h2
    · cases h
  | call f as ih =>
    refine .ofE (fun {W sc X ex} o h => ?_) (fun _ _ _ => rfl) (fun _ _ => rfl) (fun _ _ => rfl) (fun _ _ => rfl) (fun _ _ _ => rfl) (fun _ _ => rfl) (fun _ _ _ => rfl) (fun _ _ _ _ _ => rfl)
    unfold mtE at h
    split at h
    · obtain ⟨h1, h2, h3, h4, h5⟩ := an5 h
      obtain rfl := of_decide_eq_true h1
      have fa := o.fs _ _ (of_decide_eq_true h2)
      obtain ⟨g1, g2, _⟩ := o.gl h3
      rename_i es _ _
      cases es with
      | nil =>
        have hl := mtA_ne h4
        rw [hl] at fa
        cases as with
        | nil => exact s_call0 fa o.rm g1 o.tk g2
        | cons _ _ => cases hl
        | _ => cases h4
      | cons z zs =>
        rw [List.all_cons] at h5
        exact s_call fa o.rm g1 o.tk (ih.sA o h4) rfl g2 (an2 h5).1 (an2 h5).2
    · cases h
  | callS f i e es ihe ihes =>
    refine .ofE (fun {W sc X ex} o h => ?_) (fun _ _ _ => rfl) (fun _ _ => rfl) (fun _ _ => rfl) (fun _ _ => rfl) (fun _ _ _ => rfl) (fun _ _ => rfl) (fun _ _ _ => rfl) (fun _ _ _ _ _ => rfl)
    unfold mtE at h
    split at h
    · obtain ⟨h1, h2, h3, h4, h5, h6, h7, h8⟩ := an8 h
      obtain rfl := of_decide_eq_true h1
      have fa := o.gs _ _ (of_decide_eq_true h2)
      obtain ⟨g1, g2, _⟩ := o.gl h3
      obtain ⟨v1, v2, v3, v4⟩ := o.var h4
      exact s_callS fa o.rm g1 o.tk (ihe.sE o h5) (pe_var v1 v2 v3 v4) (ihes.sA o h6) rfl g2 h7 h8
    · cases h
  | prim q a ih =>
    refine .ofE (fun {W sc X ex} o h => ?_) (fun _ _ _ => rfl) (fun _ _ => rfl) (fun _ _ => rfl) (fun _ _ => rfl) (fun _ _ _ => rfl) (fun _ _ => rfl) (fun _ _ _ => rfl) (fun _ _ _ _ _ => by cases q <;> rfl)
    unfold mtE at h
    split at h
    · split at h
      · obtain ⟨h1, h2, h3, h4, h5, h6⟩ := an6 h
        obtain rfl := of_decide_eq_true h1
        obtain rfl := of_decide_eq_true h2
        obtain ⟨b1, b2, _⟩ := o.bl h3
        obtain ⟨c1, c2, _⟩ := o.bl h4
        exact ls.len o.hK o.calm o.units b1 b2 c1 c2 (pkOf o h5 (ih.sE o h5)) h6
      · cases h
    · split at h
      · obtain ⟨h1, h2, h3, h4⟩ := an4 h
        obtain rfl := of_decide_eq_true h1
        exact o.prim (by assumption) h2 (pkOf o h3 (ih.sE o h3)) h4
      · cases h
  | prim2 q a b iha ihb =>
    refine .ofE (fun {W sc X ex} o h => ?_) (fun _ _ _ => rfl) (fun _ _ => rfl) (fun _ _ => rfl) (fun _ _ => rfl) (fun _ _ _ => rfl) (fun _ _ => rfl) (fun _ _ _ => rfl) (fun _ _ _ _ _ => by cases q <;> first | rfl | (cases a <;> rfl) | (cases b <;> rfl))
    unfold mtE at h
    split at h
    · split at h
      · obtain ⟨h1, h2, h3, h4, h5, h6⟩ := an6 h
        obtain rfl := of_decide_eq_true h1
        obtain ⟨b1, b2, b3, b4⟩ := o.bl h2
        exact s_min2 o.calm b1 b2 rfl (iha.sE o h3) (ihb.sE o h4) b4 b3 h5 h6
      · cases h
    · split at h
      · obtain ⟨h1, h2, h3, h4, h5, h6⟩ := an6 h
        obtain rfl := of_decide_eq_true h1
        obtain ⟨b1, b2, b3, b4⟩ := o.bl h2
        exact s_max2 o.calm b1 b2 rfl (iha.sE o h3) (ihb.sE o h4) b4 b3 h5 h6
      · cases h
    · split at h
      · split at h
        · obtain ⟨h1, h2, h3, h4, h5⟩ := an5 h
          obtain rfl := of_decide_eq_true h1
          obtain rfl := of_decide_eq_true h2
          exact s_join o.hK s_str (ihb.sE o h3) h4 h5 rfl
        · cases h
      · cases h
    · split at h
      · split at h
        · obtain ⟨h1, h2, h3, h4, h5, h6⟩ := an6 h
          obtain rfl := of_decide_eq_true h1
          exact s_idx o.hK (iha.sE o h2) (ihb.sE o h3) h4 h5 h6
        · cases h
      · cases h
    · cases h
  | isi a t ih =>
    refine .ofE (fun {W sc X ex} o h => ?_) (fun _ _ _ => rfl) (fun _ _ => rfl) (fun _ _ => rfl) (fun _ _ => rfl) (fun _ _ _ => rfl) (fun _ _ => rfl) (fun _ _ _ => rfl) (fun _ _ _ _ _ => rfl)
    unfold mtE at h
    split at h
    · obtain ⟨h1, h2, h3, h4, h5, h6⟩ := an6 h
      obtain rfl := of_decide_eq_true h1
      obtain rfl := of_decide_eq_true h2
      obtain ⟨b1, b2, b3, b4⟩ := o.bl h3
      obtain ⟨c1, c2, c3, c4⟩ := o.bl h4
      exact s_isi (u := .none) o.hK b1 b2 rfl c1 c2 (by cases t <;> rfl) (pkOf o h5 (ih.sE o h5)) b4 b3 c4 c3 h6
    · cases h
  | ix a i iha ihi =>
    refine .ofE (fun {W sc X ex} o h => ?_) (fun _ _ _ => rfl) (fun _ _ => rfl) (fun _ _ => rfl) (fun _ _ => rfl) (fun _ _ _ => rfl) (fun _ _ => rfl) (fun _ _ _ => rfl) (fun _ _ _ _ _ => rfl)
    unfold mtE at h
    split at h
    · obtain ⟨h1, h2, h3⟩ := an3 h
      exact s_ix o.hK (iha.sE o h1) (ihi.sE o h2) h3
    · cases h
  | dget s i ih =>
    refine .ofE (fun {W sc X ex} o h => ?_) (fun _ _ _ => rfl) (fun _ _ => rfl) (fun _ _ => rfl) (fun _ _ => rfl) (fun _ _ _ => rfl) (fun _ _ => rfl) (fun _ _ _ => rfl) (fun _ _ _ _ _ => rfl)
    unfold mtE at h
    split at h
    · obtain ⟨h1, h2, h3⟩ := an3 h
      obtain ⟨v1, v2, v3, v4⟩ := o.var h1
      exact s_dget o.units v1 v2 v3 v4 (ih.sE o h2) h3
    · cases h
  | sset a ih =>
    refine .ofE (fun {W sc X ex} o h => ?_) (fun _ _ _ => rfl) (fun _ _ => rfl) (fun _ _ => rfl) (fun _ _ => rfl) (fun _ _ _ => rfl) (fun _ _ => rfl) (fun _ _ _ => rfl) (fun _ _ _ _ _ => rfl)
    unfold mtE at h
    split at h
    · obtain ⟨h1, h2, h3, h4, h5, h6⟩ := an6 h
      obtain rfl := of_decide_eq_true h1
      obtain rfl := of_decide_eq_true h2
      obtain ⟨b1, b2, _⟩ := o.bl h3
      obtain ⟨c1, c2, _⟩ := o.bl h4
      exact ls.ss o.hK o.calm b1 b2 c1 c2 (ih.sE o h5) h6
    · cases h
  | dvals s =>
    refine .ofE (fun {W sc X ex} o h => ?_) (fun _ _ _ => rfl) (fun _ _ => rfl) (fun _ _ => rfl) (fun _ _ => rfl) (fun _ _ _ => rfl) (fun _ _ => rfl) (fun _ _ _ => rfl) (fun _ _ _ _ _ => rfl)
    unfold mtE at h
    split at h
    · obtain ⟨h1, h2, h3, h4, h5⟩ := an5 h
      obtain rfl := of_decide_eq_true h1
      obtain rfl := of_decide_eq_true h2
      obtain ⟨b1, b2, _⟩ := o.bl h3
      obtain ⟨v1, v2, v3, v4⟩ := o.var h4
      exact ls.dv o.hK o.calm b1 b2 v1 v2 v3 v4 h5
    · cases h
  | dgetd s i d ih ihd =>
    refine .ofE (fun {W sc X ex} o h => ?_) (fun _ _ _ => rfl) (fun _ _ => rfl) (fun _ _ => rfl) (fun _ _ => rfl) (fun _ _ _ => rfl) (fun _ _ => rfl) (fun _ _ _ => rfl) (fun _ _ _ _ _ => rfl)
    unfold mtE at h
    split at h
    · obtain ⟨h1, h2, h3, h4, h5, h6, h7⟩ := an7 h
      obtain rfl := of_decide_eq_true h1
      obtain ⟨v1, v2, v3, v4⟩ := o.var h2
      exact s_dgetd o.units v1 v2 v3 v4 (ih.sE o h3) (ihd.sE o h4) h5 h6 h7
    · cases h
  | ixv s i ih =>
    refine .ofE (fun {W sc X ex} o h => ?_) (fun _ _ _ => rfl) (fun _ _ => rfl) (fun _ _ => rfl) (fun _ _ => rfl) (fun _ _ _ => rfl) (fun _ _ => rfl) (fun _ _ _ => rfl) (fun _ _ _ _ _ => rfl)
    unfold mtE at h
    split at h
    · obtain ⟨h1, h2, h3⟩ := an3 h
      obtain ⟨v1, v2, v3, v4⟩ := o.var h1
      exact s_ixv o.hK v1 v2 v3 v4 (ih.sE o h2) h3
    · cases h
  | slc a lo hi iha ihl ihh =>
    refine .ofE (fun {W sc X ex} o h => ?_) (fun _ _ _ => rfl) (fun _ _ => rfl) (fun _ _ => rfl) (fun _ _ => rfl) (fun _ _ _ => rfl) (fun _ _ => rfl) (fun _ _ _ => rfl) (fun _ _ _ _ _ => rfl)
    unfold mtE at h
    split at h
    · obtain ⟨h1, h2, h3⟩ := an3 h
      exact s_slc o.hK (iha.sE o h1) (ihl.sO o h2) (ihh.sO o h3)
    · cases h
  | rev a ih =>
    refine .ofE (fun {W sc X ex} o h => ?_) (fun _ _ _ => rfl) (fun _ _ => rfl) (fun _ _ => rfl) (fun _ _ => rfl) (fun _ _ _ => rfl) (fun _ _ => rfl) (fun _ _ _ => rfl) (fun _ _ _ _ _ => rfl)
    unfold mtE at h
    split at h
    · obtain ⟨h1, h2⟩ := an2 h
      obtain rfl := of_decide_eq_true h1
      exact s_rev o.hK (ih.sE o h2)
    · cases h
  | pop s i ih =>
    refine .ofE (fun {W sc X ex} o h => ?_) (fun _ _ _ => rfl) (fun _ _ => rfl) (fun _ _ => rfl) (fun _ _ => rfl) (fun _ _ _ => rfl) (fun _ _ => rfl) (fun _ _ _ => rfl) (fun _ _ _ _ _ => rfl)
    unfold mtE at h
    split at h
    · obtain ⟨h1, h2, h3, h4, h5⟩ := an5 h
      obtain rfl := of_decide_eq_true h1
      obtain ⟨v1, v2, v3, v4⟩ := o.var h2
      exact s_pop v1 v2 v3 v4 (ih.sE o h3) h4 h5
    · cases h
  | rep as e iha ihe =>
    refine .ofE (fun {W sc X ex} o h => ?_) (fun _ _ _ => rfl) (fun _ _ => rfl) (fun _ _ => rfl) (fun _ _ => rfl) (fun _ _ _ => rfl) (fun _ _ => rfl) (fun _ _ _ => rfl) (fun _ _ _ _ _ => rfl)
    unfold mtE at h
    split at h
    · obtain ⟨h1, h2, h3⟩ := an3 h
      exact s_ofF (f_rep (iha.sA o h1) (of_decide_eq_true h2) (ihe.sE o h3)) rep_list
    · cases h
  | lrng a ih =>
    refine .ofE (fun {W sc X ex} o h => ?_) (fun _ _ _ => rfl) (fun _ _ => rfl) (fun _ _ => rfl) (fun _ _ => rfl) (fun _ _ _ => rfl) (fun _ _ => rfl) (fun _ _ _ => rfl) (fun _ _ _ _ _ => rfl)
    unfold mtE at h
    split at h
    · obtain ⟨h1, h2, h3, h4, h5, h6⟩ := an6 h
      obtain rfl := of_decide_eq_true h1
      obtain rfl := of_decide_eq_true h2
      obtain ⟨b1, b2, _⟩ := o.bl h3
      obtain ⟨c1, c2, _⟩ := o.bl h4
      exact s_ofF (f_lrng o.calm b1 b2 c1 c2 (ih.sE o h5) h6) lrng_list
    · cases h
  | lcv t s c e ihc ihe =>
    refine .ofE (fun {W sc X ex} o h => ?_) (fun _ _ _ => rfl) (fun _ _ => rfl) (fun _ _ => rfl) (fun _ _ => rfl) (fun _ _ _ => rfl) (fun _ _ => rfl) (fun _ _ _ => rfl) (fun _ _ _ _ _ => rfl)
    unfold mtE at h
    split at h
    · exact s_ofF (o.lcv ihc ihe h) lcv_list'
    · cases h
  | lc t it c e ihi ihc ihe =>
    refine .ofE (fun {W sc X ex} o h => ?_) (fun _ _ _ => rfl) (fun _ _ => rfl) (fun _ _ => rfl) (fun _ _ => rfl) (fun _ _ _ => rfl) (fun _ _ => rfl) (fun _ _ _ => rfl) (fun _ _ _ _ _ => rfl)
    unfold mtE at h
    split at h
    · exact s_ofF (o.lc ihi ihc ihe h) lc_list'
    · cases h
  | lc2 t it t2 it2 c e ihi ihi2 ihc ihe =>
    refine .ofE (fun {W sc X ex} o h => ?_) (fun _ _ _ => rfl) (fun _ _ => rfl) (fun _ _ => rfl) (fun _ _ => rfl) (fun _ _ _ => rfl) (fun _ _ => rfl) (fun _ _ _ => rfl) (fun _ _ _ _ _ => rfl)
    unfold mtE at h
    split at h
    · exact s_ofF (o.lc2 ihi ihi2 ihc ihe h) lc2_list'
    · cases h
  | trng a ih =>
    refine .ofE (fun {W sc X ex} o h => ?_) (fun _ _ _ => rfl) (fun _ _ => rfl) (fun _ _ => rfl) (fun _ _ => rfl) (fun _ _ _ => rfl) (fun _ _ => rfl) (fun _ _ _ => rfl) (fun _ _ _ _ _ => rfl)
    unfold mtE at h
    split at h
    · obtain ⟨h1, h2, h3, h4, h5, h6⟩ := an6 h
      obtain rfl := of_decide_eq_true h1
      obtain rfl := of_decide_eq_true h2
      obtain ⟨b1, b2, _⟩ := o.bl h3
      obtain ⟨c1, c2, _⟩ := o.bl h4
      exact s_trng o.calm b1 b2 c1 c2 (ih.sE o h5) h6
    · cases h
  | lzip a b iha ihb =>
    refine .ofE (fun {W sc X ex} o h => ?_) (fun _ _ _ => rfl) (fun _ _ => rfl) (fun _ _ => rfl) (fun _ _ => rfl) (fun _ _ _ => rfl) (fun _ _ => rfl) (fun _ _ _ => rfl) (fun _ _ _ _ _ => rfl)
    unfold mtE at h
    split at h
    · obtain ⟨h1, h2, h3, h4, h5, h6, h7, h8⟩ := an8 h
      obtain rfl := of_decide_eq_true h1
      obtain rfl := of_decide_eq_true h2
      obtain ⟨b1, b2, _⟩ := o.bl h3
      obtain ⟨c1, c2, _⟩ := o.bl h4
      exact s_ofF (f_lzip o.hK o.calm b1 b2 c1 c2 (iha.sE o h5) (ihb.sE o h6) h7 h8) lzip_list
    · cases h
  | orv a b iha ihb =>
    refine .ofE (fun {W sc X ex} o h => ?_) (fun _ _ _ => rfl) (fun _ _ => rfl) (fun _ _ => rfl) (fun _ _ => rfl) (fun _ _ _ => rfl) (fun _ _ => rfl) (fun _ _ _ => rfl) (fun _ _ _ _ _ => rfl)
    unfold mtE at h
    split at h
    · exact s_orv o.hK (iha.sE o (an2 h).1) (ihb.sE o (an2 h).2)
    · cases h
  | tt =>
    refine ⟨fun o h => (by cases h), fun o h => (by cases h), fun o h => (by cases h), fun o h => (by cases h), fun o h => (by cases h), fun o h => (by cases h), fun {W sc X vs} o h => ?_, fun o h => (by cases h), fun o h => (by cases (an2 h).1)⟩
    unfold mtC at h
    cases vs with
    | nil => exact pts_tt
    | cons _ _ => cases h
  | tr a ih =>
    refine ⟨fun o h => (by cases h), fun o h => (by cases h), fun o h => (by cases h), fun {W sc X v} o h => ?_, fun {W sc X ex} o h => ?_, fun o h => (by cases h), fun {W sc X vs} o h => ?_, fun o h => (by cases h), fun o h => (by cases (an2 h).1)⟩
    · unfold mtO at h
      split at h
      · exact o_some (ih.sE o h)
      · cases h
    · unfold mtT at h
      exact ih.sR o h
    · unfold mtC at h
      split at h
      · exact pts_one (ih.sR o h)
      · cases h
  | sq a ih =>
    refine ⟨fun o h => (by cases h), fun o h => (by cases h), fun o h => (by cases h), fun o h => (by cases h), fun o h => (by cases h), fun o h => (by cases h), fun o h => (by cases h), fun {W sc X tg ex} o h {t} ht => ?_, fun o h => (by cases (an2 h).1)⟩
    unfold mtI at h
    exact i_sq o.hK (ih.sE o h)
  | rng1 a ih =>
    refine ⟨fun o h => (by cases h), fun o h => (by cases h), fun o h => (by cases h), fun o h => (by cases h), fun o h => (by cases h), fun o h => (by cases h), fun o h => (by cases h), fun {W sc X tg ex} o h {t} ht => ?_, fun o h => (by cases (an2 h).1)⟩
    unfold mtI at h
    split at h
    · obtain ⟨h1, h2, h3, h4⟩ := an4 h
      obtain rfl := of_decide_eq_true h1
      obtain ⟨b1, b2, _⟩ := o.bl h2
      exact i_rng1 b1 b2 (ih.sE o h3) h4
    · cases h
  | rng2 a b iha ihb =>
    refine ⟨fun o h => (by cases h), fun o h => (by cases h), fun o h => (by cases h), fun o h => (by cases h), fun o h => (by cases h), fun o h => (by cases h), fun o h => (by cases h), fun {W sc X tg ex} o h {t} ht => ?_, fun o h => (by cases (an2 h).1)⟩
    unfold mtI at h
    split at h
    · obtain ⟨h1, h2, h3, h4, h5, h6⟩ := an6 h
      obtain rfl := of_decide_eq_true h1
      obtain ⟨b1, b2, _⟩ := o.bl h2
      exact i_rng2 b1 b2 (iha.sE o h3) (ihb.sE o h4) h5 h6
    · cases h
  | rng3 a b c iha ihb ihc =>
    refine ⟨fun o h => (by cases h), fun o h => (by cases h), fun o h => (by cases h), fun o h => (by cases h), fun o h => (by cases h), fun o h => (by cases h), fun o h => (by cases h), fun {W sc X tg ex} o h {t} ht => ?_, fun o h => (by cases (an2 h).1)⟩
    unfold mtI at h
    split at h
    · obtain ⟨h1, h2, h3, h4, h5, h6, h7, h8⟩ := an8 h
      obtain rfl := of_decide_eq_true h1
      obtain ⟨b1, b2, _⟩ := o.bl h2
      exact i_rng3 b1 b2 (iha.sE o h3) (ihb.sE o h4) (ihc.sE o h5) h6 h7 h8
    · cases h
  | enum a ih =>
    refine ⟨fun o h => (by cases h), fun o h => (by cases h), fun o h => (by cases h), fun o h => (by cases h), fun o h => (by cases h), fun o h => (by cases h), fun o h => (by cases h), fun {W sc X tg ex} o h {t} ht => ?_, fun o h => (by cases (an2 h).1)⟩
    unfold mtI at h
    split at h
    · obtain ⟨h1, h2, h3, h4, h5⟩ := an5 h
      obtain rfl := of_decide_eq_true h1
      obtain ⟨b1, b2, _⟩ := o.bl h2
      cases tg with
      | Tuple elts kk tpos => exact i_enum (ht rfl) o.hK b1 b2 (ih.sE o h3) h4
      | _ => cases h5
    · cases h
  | zip a b iha ihb =>
    refine ⟨fun o h => (by cases h), fun o h => (by cases h), fun o h => (by cases h), fun o h => (by cases h), fun o h => (by cases h), fun o h => (by cases h), fun o h => (by cases h), fun {W sc X tg ex} o h {t} ht => ?_, fun o h => (by cases (an2 h).1)⟩
    unfold mtI at h
    split at h
    · obtain ⟨h1, h2, h3, h4, h5, h6, h7⟩ := an7 h
      obtain rfl := of_decide_eq_true h1
      obtain ⟨b1, b2, _⟩ := o.bl h2
      cases tg with
      | Tuple elts kk tpos => exact i_zip (ht rfl) o.hK b1 b2 (iha.sE o h3) (ihb.sE o h4) h5 h6
      | _ => cases h7
    · cases h
  | _ => exact .ofE (fun o h => (by cases h)) (fun _ _ _ => rfl) (fun _ _ => rfl) (fun _ _ => rfl) (fun _ _ => rfl) (fun _ _ _ => rfl) (fun _ _ => rfl) (fun _ _ _ => rfl) (fun _ _ _ _ _ => rfl)
end
end Ft
/-! FtMs: statements of the row's text against the own ones. -/
namespace Ft
open PySem PySem.Spec PyProof.Rows L2 RZ
/-- makes a new list -/
def freshE : E → Bool
  | .lst _ => true
  | .lc _ _ _ _ => true
  | .lc2 _ _ _ _ _ _ => true
  | .prim .list _ => true
  | .lrng _ => true
  | .lzip _ _ => true
  | .rep _ _ => true
  | .bin .add _ _ => true
  | _ => false
def notLcv : E → Bool
  | .lcv _ _ _ _ => false
  | _ => true
def lcOr : Expr → Bool
  | .ListComp _ _ _ _ => true
  | v => notComp v
def chkS (N : List Str) (sc : Scope) (i : Nat) (x : Str) : Bool := decide (N[i]? = some x) && locB sc x
/-- x = [..] stored from within the comprehension -/
def swLc (sc : Scope) (x : Str) (p pv : Pos) (scope : Scope) : Bool := decide (sc.names.lookup x = some .local) && (p.line == pv.line) && !(scope.names.any fun (n, k) => n == x && (k == .local || k == .cell))
def augO : Operator → Bi → Bool
  | .Add, .add => true
  | .Sub, .sub => true
  | .Mult, .mul => true
  | .BitOr, .bor => true
  | _, _ => false
def swY (sc : Scope) (x y : Str) (px py : Pos) (ea eb : Expr) : Bool := decide (sc.names.lookup x = some .local) && decide (sc.names.lookup y = some .local) && (py.line == px.line) && !(x == y) && !([ea, eb].all (foldedForSure 8)) && !([ea, eb].all (constantsAlone 8))
def swN (sc : Scope) (x y : Str) : Bool := !decide (sc.names.lookup x = some .local) || !decide (sc.names.lookup y = some .local)
def mtH : List (Str × Str) → Scope → List ExceptHandler → Bool
  | [], _, hds => hds.isEmpty
  | (x, t) :: r, sc, hds => (match hds with | .ExceptHandler (some (.Name y _)) none [.Return (some (.Constant (.str s) _ _)) _] _ :: hs => decide (x = y) && decide (s = t) && glB sc y && mtH r sc hs | _ => false)
structure SigX where
  xs : List Str
  em : List (Str × Str)
def isAdd : E → Bool
  | .bin _ _ _ => true
  | _ => false
/-- a dict's making -/
def mtDx (T : Sig) (N : List Str) : E → Scope → Expr → Bool
  | .dzip a b, sc, ex => (match ex with | .Call (.Name x _) [.Call (.Name y _) [z, w] [] _] [] _ => decide (x = "dict") && decide (y = "zip") && blB T sc x && blB T sc y && mtE T N a sc z && mtE T N b sc w && nostar z && nostar w | _ => false)
  | .dlst a, sc, ex => (match ex with | .Call (.Name x _) [z] [] _ => decide (x = "dict") && blB T sc x && mtE T N a sc z && nostar z | _ => false)
  | _, _, _ => false
def mtM (T : Sig) (N : List Str) (m : Md) (e : E) (sc : Scope) (v : Expr) : Bool := match m with
  | .im => mtE T N e sc v
  | .mu => mtE T N e sc v && freshE e
  | .di => mtDx T N e sc v
def mtNs (N : List Str) (sc : Scope) : List (Nat × Md) → List Expr → Bool
  | [], ts => ts.isEmpty
  | q :: qs, ts => (match ts with | .Name x _ :: r => chkS N sc q.1 x && mtNs N sc qs r | _ => false)
def mtPs (T : Sig) (N : List Str) (sc : Scope) : List (Nat × Md) → E → List Expr → Bool
  | [], .nil, vs => vs.isEmpty
  | q :: qs, .cons e es, vs => (match vs with | v :: r => mtM T N q.2 e sc v && nostar v && mtPs T N sc qs es r | _ => false)
  | _, _, _ => false
def locsB (sc : Scope) : List Expr → Bool
  | [] => true
  | .Name x _ :: r => decide (sc.names.lookup x = some .local) && locsB sc r
  | _ => false
mutual
def mtS (T : Sig) (U : SigX) (N : List Str) (sc : Scope) : S → Stmt → Bool
  | .asg i e, st => (match st with | .Assign [.Name x p] v _ => chkS N sc i x && mtE T N e sc v && lcOr v && notLcv e | _ => false)
  | .asgF i e, st => (match st with | .Assign [.Name x p] v _ => chkS N sc i x && mtE T N e sc v && freshE e && lcOr v && notLcv e | _ => false)
  | .par2 i j fi fj a b, st => (match st with | .Assign [.Tuple [.Name x px, .Name y py] _ _] (.Tuple [ea, eb] _ _) _ => !(decide (i = j)) && chkS N sc i x && chkS N sc j y && mtE T N a sc ea && mtE T N b sc eb && nostar ea && nostar eb && (!fi || freshE a) && (!fj || freshE b) && decide (sc.kind = .function) && (swY sc x y px py ea eb || swN sc x y || [ea, eb].all (foldedForSure 8)) | _ => false)
  | .par is es, st => (match st with | .Assign [.Tuple ts _ _] (.Tuple vs _ _) _ => mtNs N sc is ts && mtPs T N sc is es vs && decide (is.length ≤ 1000) && decide ((is.map (·.1)).Nodup) && decide (sc.kind = .function) && (match swF sc ts vs with | some none => true | some (some _) => locsB sc ts | none => false) | _ => false)
  | .asgZ i e, st => (match st with | .Assign [.Name x _] v _ => chkS N sc i x && mtDx T N e sc v && notComp v | _ => false)
  | .unp i j e, st => (match st with | .Assign [.Tuple [.Name x _, .Name y _] _ _] ee _ => chkS N sc i x && chkS N sc j y && mtE T N e sc ee && notComp ee && !(isTup ee) | _ => false)
  | .aug i q e, st => (match st with | .AugAssign (.Name x _) op ee _ => augO op q && chkS N sc i x && mtE T N e sc ee | _ => false)
  | .setx s ix e, st => (match st with | .Assign [.Subscript (.Name x _) eb _] ee _ => varB N sc s x && mtE T N ix sc eb && mtE T N e sc ee && noslice eb && notComp ee | _ => false)
  | .augx s q ix e, st => (match st with | .AugAssign (.Subscript (.Name x _) eb _) op ee _ => augO op q && varB N sc s x && mtE T N ix sc eb && mtE T N e sc ee && noslice eb | _ => false)
  | .asgD i t it c ek ev, st => (match st with | .Assign [.Name x _] (.DictComp kx vx [⟨tg, iter, ifs, 0⟩] scope _) _ => chkS N sc i x && (!decide (sc.names.lookup x = some .local)) && tgOk t && mtI T N it sc tg iter && noset iter && blkC N sc scope (ownOf N t) && mtG (chkB N sc scope) t tg && mtC T N c (relS scope sc) ifs && mtE T N ek (relS scope sc) kx && mtE T N ev (relS scope sc) vx | _ => false)
  | .app s e, st => (match st with | .Expr (.Call (.Attribute (.Name x _) m apos) [ee] [] p2) _ => decide (m = "append") && varB N sc s x && mtE T N e sc ee && nostar ee && (apos.endLine == p2.line) | _ => false)
  | .ext s e, st => (match st with | .Expr (.Call (.Attribute (.Name x _) m apos) [ee] [] p2) _ => decide (m = "extend") && varB N sc s x && mtE T N e sc ee && nostar ee && (apos.endLine == p2.line) && (freshE e && !isAdd e) | _ => false)
  | .extT s e, st => (match st with | .Expr (.Call (.Attribute (.Name x _) m apos) [ee] [] p2) _ => decide (m = "extend") && varB N sc s x && mtE T N e sc ee && nostar ee && (apos.endLine == p2.line) | _ => false)
  | .ex e, st => (match st with | .Expr ee _ => mtE T N e sc ee && notComp ee | _ => false)
  | .ret e, st => (match st with | .Return (some ee) _ => mtE T N e sc ee | _ => false)
  | .ite t a b, st => (match st with | .If ec s1 s2 _ => mtT T N t sc ec && mtL T U N sc a s1 && mtL T U N sc b s2 | _ => false)
  | .for_ t it b, st => (match st with | .For tg iter sts [] _ => mtG (chkS N sc) t tg && mtI T N it sc tg iter && noset iter && mtL T U N sc b sts | _ => false)
  | .while_ t b, st => (match st with | .While ec sts [] _ => mtT T N t sc ec && mtL T U N sc b sts | _ => false)
  | .raise n, st => (match st with | .Raise (some (.Call (.Name x _) [] [] _)) none _ => decide (x = n) && U.xs.contains x && glB sc x | _ => false)
  | .tryr e hs ks, st => (match st with | .Try [.Return (some ee) _] (h0 :: hds) [] [] _ => mtE T N e sc ee && mtH hs sc (h0 :: hds) && (hs.all fun q => U.xs.contains q.1) && (ks.all fun n => hs.all fun q => U.em.contains (n, q.1)) | _ => false)
  | _, _ => false
def mtL (T : Sig) (U : SigX) (N : List Str) (sc : Scope) : S → List Stmt → Bool
  | .skip, sts => sts.isEmpty
  | .seq a b, sts => (match sts with | st :: r => mtS T U N sc a st && mtL T U N sc b r | _ => false)
  | _, _ => false
end
structure OkS (T : Sig) (U : SigX) (F : Fns) (K : PySem.W.Frag) (cl : Str → Addr) (k : Nat) (N : List Str) (E : XK) (sc : Scope) (X : Cx) : Prop where
  o : Okk T F K cl k N (WEx E) sc X
  fn : ∀ x, X.fn x = true
  po : PassesOwn (model X.prog X.w) X.A X.env X.xe
  hst : X.stack = X.env :: X.outer
  hf : X.env.frame = some X.env.locals
  xs : ∀ x, U.xs.contains x = true → ExAt X cl x
  em : ∀ n q, U.em.contains (n, q) = true → PySem.W.exmOne K (.ref (cl n)) (.ref (cl q)) = some (decide (q = n))
section
variable {T : Sig} {U : SigX} {F : Fns} {fuel : Nat} {K : PySem.W.Frag} {cl : Str → Addr} {k : Nat} {N : List Str} {W : WX} {E : XK} {sc scope : Scope} {X : Cx} {x y : Str} {i j : Nat} {pos p p2 : Pos}
theorem sndF (ls : LsOk) {e : Ft.E} {ex : Expr} (o : Okk T F K cl k N W sc X) (h : mtE T N e sc ex = true) (hf : freshE e = true) : PE X ex (rdF F K cl W e) := by
  cases e with
  | lst as =>
    unfold mtE at h
    split at h
    · obtain ⟨h1, h2⟩ := an2 h
      exact f_lst ((snd ls as).sA o h1) (of_decide_eq_true h2)
    · cases h
  | lc t it c e =>
    unfold mtE at h
    split at h
    · exact o.lc (snd ls it) (snd ls c) (snd ls e) h
    · cases h
  | lc2 t it t2 it2 c e =>
    unfold mtE at h
    split at h
    · exact o.lc2 (snd ls it) (snd ls it2) (snd ls c) (snd ls e) h
    · cases h
  | prim q a =>
    cases q with
    | list =>
      unfold mtE at h
      dsimp only at h
      split at h
      · obtain ⟨h1, h2, h3, h4⟩ := an4 h
        obtain rfl := of_decide_eq_true h1
        obtain ⟨b1, b2, b3, b4⟩ := o.bl h2
        exact f_list o.hK b1 b2 rfl (pkOf o h3 ((snd ls a).sE o h3)) b4 b3 h4
      · cases h
    | _ => cases hf
  | rep as e =>
    unfold mtE at h
    split at h
    · obtain ⟨h1, h2, h3⟩ := an3 h
      exact f_rep ((snd ls as).sA o h1) (of_decide_eq_true h2) ((snd ls e).sE o h3)
    · cases h
  | bin q a b =>
    cases q with
    | add =>
      unfold mtE at h
      split at h
      · obtain ⟨h1, h2, h3⟩ := an3 h
        obtain rfl := of_decide_eq_true h1
        exact f_cat o.hK ((snd ls a).sE o h2) ((snd ls b).sE o h3)
      · cases h
    | _ => cases hf
  | lzip a b =>
    unfold mtE at h
    split at h
    · obtain ⟨h1, h2, h3, h4, h5, h6, h7, h8⟩ := an8 h
      obtain rfl := of_decide_eq_true h1
      obtain rfl := of_decide_eq_true h2
      obtain ⟨b1, b2, _⟩ := o.bl h3
      obtain ⟨c1, c2, _⟩ := o.bl h4
      exact f_lzip o.hK o.calm b1 b2 c1 c2 ((snd ls a).sE o h5) ((snd ls b).sE o h6) h7 h8
    · cases h
  | lrng a =>
    unfold mtE at h
    split at h
    · obtain ⟨h1, h2, h3, h4, h5, h6⟩ := an6 h
      obtain rfl := of_decide_eq_true h1
      obtain rfl := of_decide_eq_true h2
      obtain ⟨b1, b2, _⟩ := o.bl h3
      obtain ⟨c1, c2, _⟩ := o.bl h4
      exact f_lrng o.calm b1 b2 c1 c2 ((snd ls a).sE o h5) h6
    · cases h
  | _ => cases hf
theorem chk_of (o : Okk T F K cl k N W sc X) (h : chkS N sc i x = true) : X.N[i]? = some x ∧ Loc X.env.scope x := by
  obtain ⟨h1, h2⟩ := an2 h
  exact ⟨by rw [o.hN]; exact of_decide_eq_true h1, by rw [o.hsc]; exact loc_of h2⟩
theorem OkS.pgS (o : OkS T U F K cl k N E sc X) (h : chkS N sc i x = true) : PG X (.Name x p) (gName i) := by
  obtain ⟨h1, h2⟩ := chk_of o.o h
  exact pg_name (by rw [o.o.hN]; exact o.o.nd) h1 h2 (.inl (o.fn x))
theorem OkS.pgT (o : OkS T U F K cl k N E sc X) {t : Tg} {tg : Expr} (h : mtG (chkS N sc) t tg = true) : PG X tg (gOf K t) := by
  unfold mtG at h
  split at h
  · exact o.pgS h
  · rw [Bool.and_eq_true] at h
    have hK := o.o.hK
    subst hK
    exact pg_tup o.o.calm (pgs_cons (o.pgS h.1) (pgs_cons (o.pgS h.2) pgs_nil rfl) rfl) rfl rfl
  · cases h
theorem ofF_imp {a : Ft.E} (hL : ∀ {ρ ρ' d}, evE F a ρ = .ok (d, ρ') → ∃ ds, d = .list ds) {σ : L2.St} {H : Hp} {Q : VK} (h : rdE F K cl W a σ H Q) : rdF F K cl W a σ H Q := by
  obtain ⟨C, G, ρ, r, h⟩ := h
  refine ⟨C, G, ρ, r, ?_⟩
  refine h.mono fun d ρ' he k => ?_
  obtain ⟨ds, hd⟩ := hL he
  refine ⟨ds, hd, fun G' p xs H' e' r' o hx => k _ _ _ (e'.trans o.same) (r'.take o) ?_⟩
  subst hd
  exact .lst (SqL.of upd_same) (dps_mono o.same hx)
theorem swp_lc {elt : Expr} {gs : List Comprehension} {l : Nat} {env : PySem.Env} : swapsWith (.ListComp elt gs scope pos) (some (.Name x p)) l env = pure (env.blockKind == .function && env.kindOf x == some .local && p.line == pos.line && !(scope.names.any fun (n, k) => n == x && (k == .local || k == .cell))) := rfl
/-- x = e, either way -/
theorem OkS.asg (ls : LsOk) (o : OkS T U F K cl k N E sc X) {e : Ft.E} {v : Expr} {te : TE} {s : S} (hte : te = rdE F K cl (WEx E) e ∨ te = rdF F K cl (WEx E) e) (hE : PE X v te) (hi : ∀ D σ H, rdS F fuel K cl E s D σ H → tAsg te (gName i) D σ H) (h1 : chkS N sc i x = true) (h2 : mtE T N e sc v = true) (h3 : lcOr v = true) (h4 : notLcv e = true) :
    PS X (.Assign [.Name x p] v pos) (rdS F fuel K cl E s) := by
  obtain ⟨q1, q2⟩ := chk_of o.o h1
  have nd : X.N.Nodup := by rw [o.o.hN]; exact o.o.nd
  cases v with
  | ListComp elt gs scope pv =>
    by_cases hb : (X.env.blockKind == .function && X.env.kindOf x == some .local && p.line == pv.line && !(scope.names.any fun (n, k) => n == x && (k == .local || k == .cell))) = true
    · cases e with
      | lc t it c e =>
        unfold mtE at h2
        split at h2
        · rename_i heq
          cases heq
          obtain ⟨g1, g2, g3, g4, g5, g6, g7⟩ := an7 h2
          have ok := blkOk_by g4
          rw [← o.o.hN, ← o.o.hsc] at ok
          have hl : X.env.kindOf x = some .local := by
            have := (an4 hb).2.1
            simpa using this
          have hp := ps_setLc (spos := pos) (py := p) o.o.calm nd q1 hl (by rw [swp_lc, hb]) ((snd ls it).sI o.o g2 (tgE_of g5)) ok (fun s H C cl' fp => o.o.pgB g5) (fun s H C cl' fp => (snd ls c).sC (o.o.blk s H scope C cl' fp) g6) (fun s H C cl' fp => (snd ls e).sE (o.o.blk s H scope C cl' fp) g7) (noset_fold g3)
          rw [ownOf_snd] at hp
          refine PS.imp hp fun D σ H h => lc_imp g1 σ H _ ?_
          have h := hi D σ H h
          rcases hte with rfl | rfl
          · exact ofF_imp lc_list' h
          · exact h
        · cases h2
      | lc2 t it t2 it2 c e =>
        unfold mtE at h2
        split at h2
        · rename_i heq
          cases heq
          obtain ⟨g1, g2, g3, g4, g5, g6, g7⟩ := an7 h2
          have ok := blkOk_by g3
          rw [← o.o.hN, ← o.o.hsc] at ok
          have hl : X.env.kindOf x = some .local := by
            have := (an4 hb).2.1
            simpa using this
          have ho : (ownOf X.N t ++ ownOf X.N t2).map (·.2) = slots t ++ slots t2 := by rw [List.map_append, ownOf_snd, ownOf_snd]
          have hp := ps_setLc2 (spos := pos) (py := p) (vs1 := slots t2) o.o.calm nd q1 hl (by rw [swp_lc, hb]) ((snd ls it).sI o.o (an2 g2).1 (tgE_of (an2 g4).1)) ok (fun i hi' => by rw [ho]; exact List.mem_append_right _ hi') (fun s H C cl' fp => o.o.pgB (an2 g4).1) (fun s H C cl' fp => pts_tt (F := F) (K := K) (cl := cl) (W := W0)) (fun s H C cl' fp => (snd ls it2).sI (o.o.blk s H scope C cl' fp) (an2 g5).1 (tgE_of (an2 g4).2)) (fun s H C cl' fp => o.o.pgB (an2 g4).2)
            (fun s H C cl' fp => (snd ls c).sC (o.o.blk s H scope C cl' fp) g6) (fun s H C cl' fp => (snd ls e).sE (o.o.blk s H scope C cl' fp) g7) (noset_fold (an2 g2).2) (fun env => noset_fold (an2 g5).2)
          rw [ho] at hp
          refine PS.imp hp fun D σ H h => lc2_imp (an2 g1).1 (an2 g1).2 σ H _ ?_
          have h := hi D σ H h
          rcases hte with rfl | rfl
          · exact ofF_imp lc2_list' h
          · exact h
        · cases h2
      | lcv t s c e => exact absurd h4 (by simp [notLcv])
      | _ =>
        first
        | (exact absurd h2 (by unfold mtE; first | (simp; done) | (simp; split <;> simp; done) | (simp; split <;> first | (simp; done) | (split <;> simp))))
    · exact PS.imp (ps_set nd q1 q2 hE (by rw [swp_lc, Bool.eq_false_iff.mpr hb]) (.inl (o.fn x))) hi
  | _ => exact PS.imp (ps_set nd q1 q2 hE (swaps_no h3) (.inl (o.fn x))) hi
end
end Ft
/-! FtMs2: the induction over statements; defs. -/
namespace Ft
open PySem PySem.Spec PyProof.Rows L2 RZ
section
variable {T : Sig} {U : SigX} {F : Fns} {fuel : Nat} {K : PySem.W.Frag} {cl : Str → Addr} {k : Nat} {N : List Str} {W : WX} {E : XK} {sc scope : Scope} {X : Cx} {x y : Str} {i j : Nat} {pos p p2 px py pt pt2 : Pos} {kt k2 : Nat} {ea eb : Expr}
theorem st_no {e : Expr} (h : nostar e = true) : ¬ ((match e with | .Starred .. => true | _ => false) = true) := by
  cases e <;> first | (intro hh; cases hh; done) | (cases h; done)
theorem sw_some {env : PySem.Env} (hk : env.scope.kind = .function) (h : swY env.scope x y px py ea eb = true) (h1 : nostar ea = true) (h2 : nostar eb = true) :
    swappedStores [.Tuple [.Name x px, .Name y py] kt pt] (.Tuple [ea, eb] k2 pt2) env = pure (some [x, y]) := by
  obtain ⟨g1, g2, g3, g4, g5, g6⟩ := an6 h
  have hx : env.kindOf x = some .local := of_decide_eq_true g1
  have hy : env.kindOf y = some .local := of_decide_eq_true g2
  have hb : env.blockKind = .function := by unfold Env.blockKind; rw [hk]; rfl
  have hnd : [x, y].eraseDups.length = 2 := by
    have hn : (y == x) = false := by
      rw [Bool.not_eq_true'] at g4
      cases hq : y == x with
      | false => rfl
      | true =>
        have e := eq_of_beq hq
        subst e
        rw [beq_self_eq_true] at g4
        cases g4
    simp [List.eraseDups_cons, hn]
  rw [Bool.not_eq_true'] at g5 g6
  unfold swappedStores
  simp only [hb, hx, hy, g3, g5, g6, hnd, Expr.pos, List.filterMap, List.length_cons, List.length_nil, List.head?_cons, Option.map_some, Option.getD_some, beq_self_eq_true, bne_self_eq_false, Bool.true_and, Bool.and_self, if_true, Bool.or_false, Bool.not_true, Bool.false_or, Bool.false_eq_true, if_false, pure_bind]
  simp
  exact fun hh => hh.elim (fun q => by cases ea <;> first | (cases q; done) | (cases h1; done)) (fun q => by cases eb <;> first | (cases q; done) | (cases h2; done))
theorem sw_none {env : PySem.Env} (hk : env.scope.kind = .function) (h : swN env.scope x y = true) (h1 : nostar ea = true) (h2 : nostar eb = true) :
    swappedStores [.Tuple [.Name x px, .Name y py] kt pt] (.Tuple [ea, eb] k2 pt2) env = pure none := by
  have hb : env.blockKind = .function := by unfold Env.blockKind; rw [hk]; rfl
  unfold swN at h
  rw [Bool.or_eq_true, Bool.not_eq_true', Bool.not_eq_true'] at h
  unfold swappedStores
  simp only [hb]
  rcases h with h | h
  · have hx : ¬ env.kindOf x = some .local := of_decide_eq_false h
    simp
    intro _ _ hlen
    exfalso
    by_cases hq : (env.kindOf y = some .local ∧ py.line = px.line) <;> simp [List.filterMap_cons, hx, hq, Expr.pos] at hlen
  · have hx : ¬ env.kindOf y = some .local := of_decide_eq_false h
    simp
    intro _ _ hlen
    exfalso
    by_cases hq : (env.kindOf x = some .local) <;> simp [List.filterMap_cons, hx, hq, Expr.pos] at hlen
theorem sw_fold {env : PySem.Env} (h : [ea, eb].all (foldedForSure 8) = true) : swappedStores [.Tuple [.Name x px, .Name y py] kt pt] (.Tuple [ea, eb] k2 pt2) env = pure none := by
  unfold swappedStores
  simp only [h, if_true]
  split
  · rfl
  · split
    · rfl
    · split <;> rfl
structure SndS (T : Sig) (U : SigX) (F : Fns) (fuel : Nat) (K : PySem.W.Frag) (cl : Str → Addr) (k : Nat) (N : List Str) (s : S) : Prop where
  sS : ∀ {E : XK} {sc : Scope} {X : Cx} {st : Stmt}, OkS T U F K cl k N E sc X → mtS T U N sc s st = true → PS X st (rdS F fuel K cl E s)
  sL : ∀ {E : XK} {sc : Scope} {X : Cx} {sts : List Stmt}, OkS T U F K cl k N E sc X → mtL T U N sc s sts = true → PSs X sts (rdS F fuel K cl E s)
theorem rdX_ok (ls : LsOk) {fr : Bool} {e : Ft.E} {ex : Expr} (o : Okk T F K cl k N W sc X) (h : mtE T N e sc ex = true) (hf : (!fr || freshE e) = true) : PE X ex (rdX F K cl W fr e) := by
  cases fr with
  | false => exact (snd ls e).sE o h
  | true => exact sndF ls o h hf
theorem augO_ok {op : Operator} {q : Bi} (h : augO op q = true) : ipOf X op q := by
  unfold augO at h
  split at h
  · exact ip_add'
  · exact ip_sub'
  · exact ip_mul'
  · exact ip_bor'
  · cases h
theorem mtH_ok (o : OkS T U F K cl k N E sc X) : ∀ {hs : List (Str × Str)} {hds : List ExceptHandler}, mtH hs sc hds = true → (hs.all fun q => U.xs.contains q.1) = true → HdsT X cl hds hs
  | [], hds, h, _ => by
    cases hds with
    | nil => exact .nil
    | cons _ _ => cases h
  | (x, t) :: r, hds, h, hx => by
    unfold mtH at h
    split at h
    · obtain ⟨h1, h2, h3, h4⟩ := an4 h
      obtain rfl := of_decide_eq_true h1
      obtain rfl := of_decide_eq_true h2
      rw [List.all_cons] at hx
      obtain ⟨g1, g2, _⟩ := o.o.gl h3
      exact .cons ⟨g1, g2, .inl (o.xs _ (an2 hx).1).g⟩ (mtH_ok o h4 (an2 hx).2)
    · cases h
theorem Okk.tr (o : Okk T F K cl k N W sc X) {W' : WX} {pn : List (Addr × Obj)} {xe : Value → Shared → Prop} (tk : Takes (X.tr pn xe) W') : Okk T F K cl k N W' sc (X.tr pn xe) where
  hK := o.hK
  hN := o.hN
  nd := o.nd
  hsc := o.hsc
  calm := o.calm
  tk := tk
  rm := o.rm
  fs := fun x n h => ⟨(o.fs x n h).ex⟩
  gs := fun x n h => ⟨(o.gs x n h).ex⟩
  bs := o.bs
theorem an11 {a b c d e f g i j l m : Bool} (h : (a && b && c && d && e && f && g && i && j && l && m) = true) : a = true ∧ b = true ∧ c = true ∧ d = true ∧ e = true ∧ f = true ∧ g = true ∧ i = true ∧ j = true ∧ l = true ∧ m = true := by simpa [and_assoc] using h
theorem an10 {a b c d e f g i j l : Bool} (h : (a && b && c && d && e && f && g && i && j && l) = true) : a = true ∧ b = true ∧ c = true ∧ d = true ∧ e = true ∧ f = true ∧ g = true ∧ i = true ∧ j = true ∧ l = true := by simpa [and_assoc] using h
theorem swp_dc {kx vx : Expr} {gs : List Comprehension} {l : Nat} {env : PySem.Env} (h : ¬ env.kindOf x = some .local) : swapsWith (.DictComp kx vx gs scope pos) (some (.Name x p)) l env = pure false := by
  have e : swapsWith (.DictComp kx vx gs scope pos) (some (.Name x p)) l env = pure (env.blockKind == .function && env.kindOf x == some .local && p.line == pos.line && !(scope.names.any fun (n, k) => n == x && (k == .local || k == .cell))) := rfl
  rw [e]
  have : (env.kindOf x == some NameKind.local) = false := by
    cases hq : env.kindOf x == some NameKind.local with
    | false => rfl
    | true => exact absurd (eq_of_beq hq) h
  rw [this, Bool.and_false, Bool.false_and, Bool.false_and]
theorem tup_sw {ts : List Expr} {ee : Expr} {env : PySem.Env} (h : isTup ee = false) : swappedStores [.Tuple ts kt pt] ee env = pure none := by
  cases ee <;> first | rfl | cases h
theorem notComp_sole {t ee : Expr} {l : Nat} {env : PySem.Env} (h : notComp ee = true) : swapsWithSole [t] ee l env = pure false := swaps_no h
theorem fresh_list {e : Ft.E} (h : freshE e = true) (h2 : (!isAdd e) = true) {ρ ρ' : Env} {d : D} (he : evE F e ρ = .ok (d, ρ')) : ∃ ds, d = .list ds := by
  cases e with
  | lst as => exact lst_list he
  | lc t it c e => exact lc_list' he
  | lc2 t it t2 it2 c e => exact lc2_list' he
  | lrng a => exact lrng_list he
  | lzip a b => exact lzip_list he
  | rep as k => exact rep_list he
  | bin q a b => cases h2
  | prim q a =>
    cases q with
    | list =>
      unfold evE at he
      obtain ⟨q, _, he⟩ := bindR_ok_inv he
      dsimp only at he
      cases hz : primD .list q.1 with
      | error er => rw [hz] at he; cases he
      | ok z =>
        rw [hz] at he
        cases he
        cases hq : q.1 with
        | list xs => rw [hq] at hz; cases hz; exact ⟨_, rfl⟩
        | tuple xs => rw [hq] at hz; cases hz; exact ⟨_, rfl⟩
        | _ => rw [hq] at hz; cases hz
    | _ => cases h
  | _ => cases h
theorem mtDx_ok (ls : LsOk) {e : Ft.E} {ex : Expr} (o : Okk T F K cl k N W sc X) (h : mtDx T N e sc ex = true) : PE X ex (rdD F K cl W e) := by
  cases e with
  | dzip a b =>
    dsimp only [mtDx] at h
    split at h
    · obtain ⟨h1, h2, h3, h4, h5, h6, h7, h8⟩ := an8 h
      obtain rfl := of_decide_eq_true h1
      obtain rfl := of_decide_eq_true h2
      obtain ⟨b1, b2, _⟩ := o.bl h3
      obtain ⟨c1, c2, _⟩ := o.bl h4
      exact s_dzip o.hK o.calm b1 b2 c1 c2 ((snd ls a).sE o h5) ((snd ls b).sE o h6) h7 h8
    · cases h
  | dlst a =>
    dsimp only [mtDx] at h
    split at h
    · obtain ⟨h1, h2, h3, h4⟩ := an4 h
      obtain rfl := of_decide_eq_true h1
      obtain ⟨b1, b2, _⟩ := o.bl h2
      exact s_dlst o.hK o.calm b1 b2 ((snd ls a).sE o h3) h4
    · cases h
  | _ => cases h
theorem mtM_ok (ls : LsOk) {m : Md} {e : Ft.E} {ex : Expr} (o : Okk T F K cl k N W sc X) (h : mtM T N m e sc ex = true) : PE X ex (rdM F K cl W m e) := by
  cases m with
  | im => exact (snd ls e).sE o h
  | mu => exact sndF ls o (an2 h).1 (an2 h).2
  | di => exact mtDx_ok ls o h
theorem mtNs_ok (o : OkS T U F K cl k N E sc X) : ∀ {is : List (Nat × Md)} {ts : List Expr}, mtNs N sc is ts = true → Nms X is ts
  | [], ts, h => by
    cases ts with
    | nil => exact .nil
    | cons _ _ => cases h
  | q :: qs, ts, h => by
    unfold mtNs at h
    split at h
    · exact .cons (o.pgS (an2 h).1) (mtNs_ok o (an2 h).2)
    · cases h
theorem mtPs_ok (ls : LsOk) (o : Okk T F K cl k N W sc X) : ∀ {is : List (Nat × Md)} {es : Ft.E} {vs : List Expr}, mtPs T N sc is es vs = true → Exs X F K cl W is es vs
  | [], es, vs, h => by
    cases es with
    | nil =>
      unfold mtPs at h
      cases vs with
      | nil => exact .nil
      | cons _ _ => cases h
    | _ => cases h
  | q :: qs, es, vs, h => by
    cases es with
    | cons e es =>
      unfold mtPs at h
      split at h
      · obtain ⟨h1, h2, h3⟩ := an3 h
        exact .cons (mtM_ok ls o h1) h2 (mtPs_ok ls o h3)
      · cases h
    | _ => cases h
theorem swF_len {sc : Scope} {ts vs : List Expr} {r : List Str} (h : swF sc ts vs = some (some r)) : ts.length = 2 ∨ ts.length = 3 := by
  unfold swF at h
  split at h
  · cases h
  · rename_i c1
    simp at c1
    by_cases q : ts.length = 2
    · exact .inl q
    · exact .inr (c1.1 q)
theorem mtNs_cons {q : Nat × Md} {qs : List (Nat × Md)} {ts : List Expr} (h : mtNs N sc (q :: qs) ts = true) : ∃ x p r, ts = .Name x p :: r ∧ chkS N sc q.1 x = true ∧ mtNs N sc qs r = true := by
  unfold mtNs at h
  split at h
  · exact ⟨_, _, _, rfl, (an2 h).1, (an2 h).2⟩
  · cases h
theorem mtNs_nil {ts : List Expr} (h : mtNs N sc [] ts = true) : ts = [] := by
  unfold mtNs at h
  cases ts with
  | nil => rfl
  | cons _ _ => cases h
theorem swF_names {sc : Scope} {ts vs : List Expr} {r : List Str} (h : swF sc ts vs = some (some r)) : r.length = ts.length ∧ r = ts.filterMap fun t => match t with | .Name id pos => if (sc.names.lookup id == some .local && pos.line == (ts.head?.map (·.pos.line)).getD 0) = true then some id else none | _ => none := by
  unfold swF at h
  split at h
  · cases h
  · split at h
    · cases h
    · dsimp only at h
      split at h
      · cases h
      · rename_i c3
        split at h
        · cases h
        · split at h
          · cases h
          · cases h
            exact ⟨Classical.not_not.mp fun hne => c3 (by rw [Bool.or_eq_true]; exact .inl (bne_iff_ne.mpr hne)), rfl⟩
theorem par_sw (o : OkS T U F K cl k N E sc X) {is : List (Nat × Md)} {es : Ft.E} {ts vs : List Expr} {r : List Str} (h1 : mtNs N sc is ts = true) (he : Exs X F K cl (WEx E) is es vs) (hd : (is.map (·.1)).Nodup) (nd : X.N.Nodup) (hl : locsB X.env.scope ts = true)
    (hw : swappedStores [.Tuple ts kt pt] (.Tuple vs k2 pt2) X.env = pure (some r)) (hsw : swF X.env.scope ts vs = some (some r)) : PS X (.Assign [.Tuple ts kt pt] (.Tuple vs k2 pt2) pos) (rdS F fuel K cl E (.par is es)) := by
  obtain ⟨hlen, hr⟩ := swF_names hsw
  match is, h1, he, hd with
  | [], h1, _, _ =>
    obtain rfl := mtNs_nil h1
    rcases swF_len hsw with q | q <;> cases q
  | [q1], h1, _, _ =>
    obtain ⟨x1, p1, r1, rfl, n1, h1⟩ := mtNs_cons h1
    obtain rfl := mtNs_nil h1
    rcases swF_len hsw with q | q <;> cases q
  | [q1, q2], h1, he, hd =>
    obtain ⟨x1, p1, r1, rfl, n1, h1⟩ := mtNs_cons h1
    obtain ⟨x2, p2, r2, rfl, n2, h1⟩ := mtNs_cons h1
    obtain rfl := mtNs_nil h1
    obtain ⟨l1, l2, _⟩ : _ ∧ _ ∧ True := ⟨(an2 hl).1, (an2 (an2 hl).2).1, trivial⟩
    have er : r = [x1, x2] := by
      rw [hr]
      have hf := hlen
      rw [hr] at hf
      revert hf
      simp only [List.filterMap_cons, List.filterMap_nil]
      split <;> split <;> simp_all
    subst er
    have hne : q1.1 ≠ q2.1 := by simpa using hd
    exact p_parS2 o.o.calm nd (chk_of o.o n1).1 (chk_of o.o n2).1 hne (of_decide_eq_true l1) (of_decide_eq_true l2) he hw
  | [q1, q2, q3], h1, he, hd =>
    obtain ⟨x1, p1, r1, rfl, n1, h1⟩ := mtNs_cons h1
    obtain ⟨x2, p2, r2, rfl, n2, h1⟩ := mtNs_cons h1
    obtain ⟨x3, p3, r3, rfl, n3, h1⟩ := mtNs_cons h1
    obtain rfl := mtNs_nil h1
    obtain ⟨l1, l2, l3⟩ : _ ∧ _ ∧ _ := ⟨(an2 hl).1, (an2 (an2 hl).2).1, (an2 (an2 (an2 hl).2).2).1⟩
    have er : r = [x1, x2, x3] := by
      rw [hr]
      have hf := hlen
      rw [hr] at hf
      revert hf
      simp only [List.filterMap_cons, List.filterMap_nil]
      split <;> split <;> split <;> simp_all
    subst er
    have hne : (q1.1 ≠ q2.1 ∧ q1.1 ≠ q3.1) ∧ q2.1 ≠ q3.1 := by simpa using hd
    exact p_parS3 o.o.calm nd (chk_of o.o n1).1 (chk_of o.o n2).1 (chk_of o.o n3).1 hne.1.1 hne.1.2 hne.2 (of_decide_eq_true l1) (of_decide_eq_true l2) (of_decide_eq_true l3) he hw
  | q1 :: q2 :: q3 :: q4 :: qs, h1, _, _ =>
    obtain ⟨x1, p1, r1, rfl, n1, h1⟩ := mtNs_cons h1
    obtain ⟨x2, p2, r2, rfl, n2, h1⟩ := mtNs_cons h1
    obtain ⟨x3, p3, r3, rfl, n3, h1⟩ := mtNs_cons h1
    obtain ⟨x4, p4, r4, rfl, n4, h1⟩ := mtNs_cons h1
    rcases swF_len hsw with q | q <;> simp at q
theorem sndS (ls : LsOk) : ∀ s : S, SndS T U F fuel K cl k N s := by
  intro s
  induction s with
  | skip =>
    refine ⟨fun o h => (by cases h), fun {E sc X sts} o h => ?_⟩
    unfold mtL at h
    cases sts with
    | nil => exact p_skip
    | cons _ _ => cases h
  | seq a b iha ihb =>
    refine ⟨fun o h => (by cases h), fun {E sc X sts} o h => ?_⟩
    unfold mtL at h
    split at h
    · exact p_seq (iha.sS o (an2 h).1) (ihb.sL o (an2 h).2)
    · cases h
  | asg i e =>
    refine ⟨fun {E sc X st} o h => ?_, fun o h => (by cases h)⟩
    unfold mtS at h
    split at h
    · obtain ⟨h1, h2, h3, h5⟩ := an4 h
      exact o.asg ls (.inl rfl) ((snd ls e).sE o.o h2) asg_imp h1 h2 h3 h5
    · cases h
  | asgF i e =>
    refine ⟨fun {E sc X st} o h => ?_, fun o h => (by cases h)⟩
    unfold mtS at h
    split at h
    · obtain ⟨h1, h2, h4, h3, h5⟩ := an5 h
      exact o.asg ls (.inr rfl) (sndF ls o.o h2 h4) asgF_imp h1 h2 h3 h5
    · cases h
  | par2 i j fi fj a b =>
    refine ⟨fun {E sc X st} o h => ?_, fun o h => (by cases h)⟩
    unfold mtS at h
    split at h
    · obtain ⟨h1, h2, h3, h4, h5, h6, h7, h8, h9, h10, h11⟩ := an11 h
      rw [Bool.not_eq_true'] at h1
      have hij := of_decide_eq_false h1
      have hk : X.env.scope.kind = .function := by rw [o.o.hsc]; exact of_decide_eq_true h10
      have nd : X.N.Nodup := by rw [o.o.hN]; exact o.o.nd
      rw [Bool.or_eq_true, Bool.or_eq_true] at h11
      rcases h11 with (hs | hn) | hfold
      · have hs' := hs
        rw [← o.o.hsc] at hs'
        obtain ⟨g1, g2, _⟩ := an6 hs'
        exact p_par o.o.calm nd (chk_of o.o h2).1 (chk_of o.o h3).1 hij (of_decide_eq_true g1) (of_decide_eq_true g2) (rdX_ok ls o.o h4 h8) (rdX_ok ls o.o h5 h9) h6 h7 (sw_some hk hs' h6 h7)
      · rw [← o.o.hsc] at hn
        exact p_parT o.o.hK o.o.calm nd (o.pgS h2) (o.pgS h3) (rdX_ok ls o.o h4 h8) (rdX_ok ls o.o h5 h9) h6 h7 (sw_none hk hn h6 h7)
      · exact p_parT o.o.hK o.o.calm nd (o.pgS h2) (o.pgS h3) (rdX_ok ls o.o h4 h8) (rdX_ok ls o.o h5 h9) h6 h7 (sw_fold hfold)
    · cases h
  | par is es =>
    refine ⟨fun {E sc X st} o h => ?_, fun o h => (by cases h)⟩
    unfold mtS at h
    split at h
    · obtain ⟨h1, h2, h3, h4, h5, h6⟩ := an6 h
      have hk : X.env.scope.kind = .function := by rw [o.o.hsc]; exact of_decide_eq_true h5
      have nd : X.N.Nodup := by rw [o.o.hN]; exact o.o.nd
      have hns := mtNs_ok o h1
      have hes := mtPs_ok ls o.o h2
      split at h6
      · rename_i hsw
        rw [← o.o.hsc] at hsw
        exact p_parN o.o.hK o.o.calm (of_decide_eq_true h3) hns hes (swF_ok hk hsw)
      · rename_i hsw
        rw [← o.o.hsc] at hsw h6
        exact par_sw o h1 hes (of_decide_eq_true h4) nd h6 (swF_ok hk hsw) hsw
      · cases h6
    · cases h
  | asgZ i e =>
    refine ⟨fun {E sc X st} o h => ?_, fun o h => (by cases h)⟩
    unfold mtS at h
    split at h
    · obtain ⟨h1, h2, h3⟩ := an3 h
      obtain ⟨q1, q2⟩ := chk_of o.o h1
      exact p_asgZ (by rw [o.o.hN]; exact o.o.nd) q1 q2 (mtDx_ok ls o.o h2) (swaps_no h3) (.inl (o.fn _))
    · cases h
  | unp i j e =>
    refine ⟨fun {E sc X st} o h => ?_, fun o h => (by cases h)⟩
    unfold mtS at h
    split at h
    · obtain ⟨h1, h2, h3, h4, h5⟩ := an5 h
      rw [Bool.not_eq_true'] at h5
      exact p_unp o.o.hK o.o.calm (o.pgS h1) (o.pgS h2) ((snd ls e).sE o.o h3) (notComp_sole h4) (tup_sw h5)
    · cases h
  | aug i q e =>
    refine ⟨fun {E sc X st} o h => ?_, fun o h => (by cases h)⟩
    unfold mtS at h
    split at h
    · obtain ⟨h1, h2, h3⟩ := an3 h
      obtain ⟨g1, g2⟩ := chk_of o.o h2
      exact p_aug (augO_ok h1) (by rw [o.o.hN]; exact o.o.nd) g1 g2 ((snd ls e).sE o.o h3) (.inl (o.fn _))
    · cases h
  | setx s ix e =>
    refine ⟨fun {E sc X st} o h => ?_, fun o h => (by cases h)⟩
    unfold mtS at h
    split at h
    · obtain ⟨h1, h2, h3, h4, h5⟩ := an5 h
      obtain ⟨v1, v2, v3, v4⟩ := o.o.var h1
      exact p_setx v1 v2 v3 v4 ((snd ls e).sE o.o h3) ((snd ls ix).sE o.o h2) h4 (notComp_sole h5)
    · cases h
  | augx s q ix e =>
    refine ⟨fun {E sc X st} o h => ?_, fun o h => (by cases h)⟩
    unfold mtS at h
    split at h
    · obtain ⟨h1, h2, h3, h4, h5⟩ := an5 h
      obtain ⟨v1, v2, v3, v4⟩ := o.o.var h2
      exact p_augx o.o.hK (augO_ok h1) v1 v2 v3 v4 ((snd ls ix).sE o.o h3) ((snd ls e).sE o.o h4) h5
    · cases h
  | asgD i t it c ek ev =>
    refine ⟨fun {E sc X st} o h => ?_, fun o h => (by cases h)⟩
    unfold mtS at h
    split at h
    · obtain ⟨h1, h2, h3, h4, h5, h6, h7, h8, h9, h10⟩ := an10 h
      have ok := blkOk_by h6
      rw [← o.o.hN, ← o.o.hsc] at ok
      obtain ⟨q1, q2⟩ := chk_of o.o h1
      rw [Bool.not_eq_true'] at h2
      have hnl := of_decide_eq_false h2
      refine p_asgD h3 o.o.calm (by rw [o.o.hN]; exact o.o.nd) ((snd ls it).sI o.o h4 (tgE_of h7)) ok (ownOf_snd t) (fun s H C cl' fp => o.o.pgB h7) (fun s H C cl' fp => (snd ls c).sC (o.o.blk s H _ C cl' fp) h8)
        (fun s H C cl' fp => (snd ls ek).sE (o.o.blk s H _ C cl' fp) h9) (fun s H C cl' fp => (snd ls ev).sE (o.o.blk s H _ C cl' fp) h10) (noset_fold h5) q1 q2 ?_ (.inl (o.fn _))
      refine swp_dc ?_
      show ¬ X.env.scope.names.lookup _ = some .local
      rw [o.o.hsc]
      exact hnl
    · cases h
  | app s e =>
    refine ⟨fun {E sc X st} o h => ?_, fun o h => (by cases h)⟩
    unfold mtS at h
    split at h
    · obtain ⟨h1, h2, h3, h4, h5⟩ := an5 h
      obtain rfl := of_decide_eq_true h1
      obtain ⟨v1, v2, v3, v4⟩ := o.o.var h2
      exact p_app v1 v2 v3 v4 ((snd ls e).sE o.o h3) h4 h5
    · cases h
  | ext s e =>
    refine ⟨fun {E sc X st} o h => ?_, fun o h => (by cases h)⟩
    unfold mtS at h
    split at h
    · obtain ⟨h1, h2, h3, h4, h5, h6⟩ := an6 h
      obtain rfl := of_decide_eq_true h1
      obtain ⟨v1, v2, v3, v4⟩ := o.o.var h2
      exact p_ext o.o.hK v1 v2 v3 v4 (sndF ls o.o h3 (an2 h6).1) (fresh_list (an2 h6).1 (an2 h6).2) h4 h5
    · cases h
  | extT s e =>
    refine ⟨fun {E sc X st} o h => ?_, fun o h => (by cases h)⟩
    unfold mtS at h
    split at h
    · obtain ⟨h1, h2, h3, h4, h5⟩ := an5 h
      obtain rfl := of_decide_eq_true h1
      obtain ⟨v1, v2, v3, v4⟩ := o.o.var h2
      exact p_extT o.o.hK v1 v2 v3 v4 ((snd ls e).sE o.o h3) h4 h5
    · cases h
  | ex e =>
    refine ⟨fun {E sc X st} o h => ?_, fun o h => (by cases h)⟩
    unfold mtS at h
    split at h
    · exact p_ex ((snd ls e).sE o.o (an2 h).1) (an2 h).2
    · cases h
  | ret e =>
    refine ⟨fun {E sc X st} o h => ?_, fun o h => (by cases h)⟩
    unfold mtS at h
    split at h
    · exact p_ret ((snd ls e).sE o.o h)
    · cases h
  | ite t a b iha ihb =>
    refine ⟨fun {E sc X st} o h => ?_, fun o h => (by cases h)⟩
    unfold mtS at h
    split at h
    · obtain ⟨h1, h2, h3⟩ := an3 h
      exact p_ite ((snd ls t).sT o.o h1) (iha.sL o h2) (ihb.sL o h3)
    · cases h
  | for_ t it b ihb =>
    refine ⟨fun {E sc X st} o h => ?_, fun o h => (by cases h)⟩
    unfold mtS at h
    split at h
    · obtain ⟨h1, h2, h3, h4⟩ := an4 h
      exact p_for o.po o.o.calm ((snd ls it).sI o.o h2 (tgE_of h1)) (o.pgT h1) (ihb.sL o h4) (noset_fold h3)
    · cases h
  | while_ t b ihb =>
    refine ⟨fun {E sc X st} o h => ?_, fun o h => (by cases h)⟩
    unfold mtS at h
    split at h
    · obtain ⟨h1, h2⟩ := an2 h
      exact p_while o.po ((snd ls t).sT o.o h1) (ihb.sL o h2)
    · cases h
  | raise n =>
    refine ⟨fun {E sc X st} o h => ?_, fun o h => (by cases h)⟩
    unfold mtS at h
    split at h
    · obtain ⟨h1, h2, h3⟩ := an3 h
      obtain rfl := of_decide_eq_true h1
      obtain ⟨g1, g2, _⟩ := o.o.gl h3
      exact p_raise o.o.calm o.o.tk (o.xs _ h2) g1 g2
    · cases h
  | tryr e hs ks =>
    refine ⟨fun {E sc X st} o h => ?_, fun o h => (by cases h)⟩
    unfold mtS at h
    split at h
    · obtain ⟨h1, h2, h3, h4⟩ := an4 h
      refine p_tryr o.o.hK o.hst o.hf o.o.tk (fun W pn xe tk => (snd ls e).sE (o.o.tr tk) h1) (mtH_ok o h2 h3) fun n hn q hq => o.em n q.1 ?_
      rw [List.all_eq_true] at h4
      have h5 := h4 n hn
      rw [List.all_eq_true] at h5
      exact h5 q hq
    · cases h
end
end Ft
/-! FtFun: defs, one behind another. -/
namespace Ft
open PySem PySem.Spec PyProof.Rows L2 RZ
structure ExF (K : PySem.W.Frag) (mg : Str → Option Value) (cl : Str → Addr) (x : Str) : Prop where
  g : mg x = some (.ref (cl x))
  xi : PySem.W.excIn K (cl x) He.veBase "ValueError.__new__" = true
  k : PySem.W.keepIn K (.ref (cl x)) = true
  s : PySem.W.subIn K (.ref (cl x)) (.type "BaseException") = some true
  t : PySem.W.typeIn K (.ref (cl x)) = some (.type "type")
structure FnF (P : Program) (w : World) (K : PySem.W.Frag) (mg : Str → Option Value) (base : Heap) (x : Str) (k : Nat) (sp : Sp) : Prop where
  ex : ∃ (f : Addr) (fd : FuncData) (ps : List Str), FnOk P w K mg base (L2.CX P w) k f fd ps sp ∧ mg x = some (.ref f) ∧ PySem.W.keepIn K (.ref f) = true ∧ Binds K fd ps []
theorem FnF.up {P : Program} {w : World} {K : PySem.W.Frag} {mg : Str → Option Value} {base : Heap} {x : Str} {j k : Nat} {sp : Sp} (h : FnF P w K mg base x j sp) (hj : j ≤ k) : FnF P w K mg base x k sp := by
  obtain ⟨f, fd, ps, h1, h2⟩ := h.ex
  exact ⟨f, fd, ps, h1.mono hj, h2⟩
theorem FnF.imp {P : Program} {w : World} {K : PySem.W.Frag} {mg : Str → Option Value} {base : Heap} {x : Str} {k : Nat} {sp sp' : Sp} (h : FnF P w K mg base x k sp) (hj : ∀ vs H Q E, sp' vs H Q E → sp vs H Q E) : FnF P w K mg base x k sp' := by
  obtain ⟨f, fd, ps, h1, h2⟩ := h.ex
  exact ⟨f, fd, ps, h1.imp hj, h2⟩
structure TabOk (T : Sig) (U : SigX) (F : Fns) (P : Program) (w : World) (K : PySem.W.Frag) (mg : Str → Option Value) (base : Heap) (cl : Str → Addr) (k : Nat) : Prop where
  fs : ∀ x n, T.fs.lookup x = some n → FnF P w K mg base x k (spF K cl n (F.f x))
  gs : ∀ x n, T.gs.lookup x = some n → FnF P w K mg base x k (spG K n (F.g x))
  bs : ∀ b, T.bs.contains b = true → mg b = none
  xs : ∀ x, U.xs.contains x = true → ExF K mg cl x
  em : ∀ n q, U.em.contains (n, q) = true → PySem.W.exmOne K (.ref (cl n)) (.ref (cl q)) = some (decide (q = n))
section
variable {T : Sig} {U : SigX} {F : Fns} {fuel : Nat} {P : Program} {w : World} {K : PySem.W.Frag} {mg : Str → Option Value} {base : Heap} {cl : Str → Addr} {k : Nat} {N ps : List Str} {x qual : Str} {params : Arguments} {body : List Stmt} {scope : Scope} {f : Addr} {fd : FuncData} {d : Def}
theorem TabOk.okS (t : TabOk T U F P w K mg base cl k) (S : FnScope N ps scope) {cdv : Value} {A : Around} {outer : List PySem.Env} {s : Shared} {H : Hp} {E : XK} (hr : Room k (A.deeper (envOfC qual scope s.heap.objs.size f cdv))) :
    OkS T U F K cl k N E scope (cxOf (L2.CX P w) P w K mg base N qual scope f cdv A outer s H E) where
  o := { hK := rfl, hN := rfl, nd := S.nd, hsc := rfl, calm := rfl, tk := takes_of rfl rfl rfl rfl, rm := hr, fs := fun x n h => ⟨(t.fs x n h).ex⟩, gs := fun x n h => ⟨(t.gs x n h).ex⟩, bs := t.bs }
  fn := fun _ => rfl
  po := passes_of rfl
  hst := rfl
  hf := rfl
  xs := fun x h => ⟨(t.xs x h).g, (t.xs x h).xi, (t.xs x h).k, (t.xs x h).s, (t.xs x h).t⟩
  em := t.em
theorem start_get {ds : List D} {vs : List V} {n i : Nat} {c : Cell} {o : Option V} (hl : vs.length = ds.length) (h1 : (startE n ds)[i]? = some c) (h2 : (start N vs)[i]? = some o) : (∃ v d, ds[i]? = some d ∧ vs[i]? = some v ∧ c = .im d ∧ o = some v) ∨ c = .no := by
  unfold startE at h1
  unfold L2.start at h2
  by_cases hi : i < ds.length
  · rw [List.getElem?_append_left (by simpa using hi), List.getElem?_map] at h1
    rw [List.getElem?_append_left (by simp; omega), List.getElem?_map] at h2
    cases hd : ds[i]? with
    | none => rw [hd] at h1; cases h1
    | some d =>
      rw [hd] at h1
      cases hv : vs[i]? with
      | none => rw [hv] at h2; cases h2
      | some v =>
        rw [hv] at h2
        cases h1
        cases h2
        exact .inl ⟨v, d, rfl, rfl, rfl, rfl⟩
  · rw [List.getElem?_append_right (by simpa using hi), List.getElem?_replicate] at h1
    split at h1
    · cases h1; exact .inr rfl
    · cases h1
theorem run_plain (hn : d.n = N.length) (hp : d.ps ≤ N.length) {vs : List V} {H : Hp} {Q : VK} {E : XK} (h : spF K cl d.ps (evF F fuel d) vs H Q E) : rdS F fuel K cl E d.b { nx := fun _ H' => Q .non H', rt := Q } (start N vs) H := by
  obtain ⟨G, ds, hG, hd, hl, h⟩ := h
  have hlen := dps_len hd
  refine ⟨⟨H, G, 0⟩, G, startE d.n ds, ⟨hG, Same.refl _, Same.refl _, hG, fun _ _ h => h, ?_, fun i c o h1 h2 => ?_, fun i j p _ m1 _ => ?_⟩, ?_⟩
  · unfold startE L2.start
    simp
    omega
  · rcases start_get hlen h1 h2 with ⟨v, d', q1, q2, rfl, rfl⟩ | rfl
    · obtain ⟨v', w1, w2⟩ := dps_get hd q1
      rw [q2] at w1
      cases w1
      exact ⟨v, rfl, w2⟩
    · trivial
  · obtain ⟨c, es, m1, m2, m3⟩ := m1
    rcases start_get hlen m1 m3 with ⟨v, d', q1, q2, rfl, _⟩ | rfl <;> cases m2
  · unfold evF at h
    rw [if_pos hl] at h
    cases hv : evS F fuel d.b (startE d.n ds) with
    | error e =>
      rw [hv] at h
      cases e with
      | stuck => exact h
      | exc m => exact fun H' q => h H' q
    | ok q =>
      obtain ⟨r, ρ'⟩ := q
      rw [hv] at h
      cases r with
      | nx =>
        intro σ' G' H' e1 r1
        exact h G' _ H' e1 r1.exG r1.exP (fun a h1 h2 => by
          cases hq : H a with
          | none => rfl
          | some o => exact absurd (r1.frG a (by show H a ≠ none; rw [hq]; simp) h2) h1) .non
      | rt x =>
        intro σ' G' v H' r1 d1
        exact h G' v H' r1.ex0 r1.exG r1.exP (fun a h1 h2 => by
          cases hq : H a with
          | none => rfl
          | some o => exact absurd (r1.frG a (by show H a ≠ none; rw [hq]; simp) h2) h1) d1
/-- a plain def -/
theorem TabOk.plain (ls : LsOk) (t : TabOk T U F P w K mg base cl k) (Fd : FunD K x qual params body scope [] [] f fd) (S : FnScope N ps scope) (hp : d.ps = ps.length) (hn : d.n = N.length) (hm : mtL T U N scope d.b body = true) (hg : mg x = some (.ref f)) (hb : Binds K fd ps []) :
    FnF P w K mg base x (k + 1) (spF K cl d.ps (evF F fuel d)) := by
  have hpl : ps.length ≤ N.length := by have := congrArg List.length S.pre; rw [List.length_take] at this; omega
  refine ⟨f, fd, ps, Fd.ok S (fun vs H Q E h => ?_) (fun cdv A outer s H vs Q E hr h => ⟨_, (sndS ls d.b).sL (t.okS S hr) hm, run_plain hn (by omega) h⟩), hg, Fd.kp, hb⟩
  rw [spF_len h, hp]
theorem startG_get {d0 : D} {ds ss : List D} {v0 : V} {vr : List V} {p : Addr} {n i : Nat} {c : Cell} {o : Option V} (hl : vr.length = ds.length) (h1 : (startG n ss (d0 :: ds))[i]? = some c) (h2 : (start N (v0 :: .ref p :: vr))[i]? = some o) :
    (i = 0 ∧ c = .im d0 ∧ o = some v0) ∨ (i = 1 ∧ c = .rf ss ∧ o = some (.ref p)) ∨ (∃ v d j, i = j + 2 ∧ ds[j]? = some d ∧ vr[j]? = some v ∧ c = .im d ∧ o = some v) ∨ c = .no := by
  unfold startG at h1
  unfold L2.start at h2
  match i, h1, h2 with
  | 0, h1, h2 => cases h1; cases h2; exact .inl ⟨rfl, rfl, rfl⟩
  | 1, h1, h2 => cases h1; cases h2; exact .inr (.inl ⟨rfl, rfl, rfl⟩)
  | j + 2, h1, h2 =>
    refine .inr (.inr ?_)
    rw [List.getElem?_cons_succ, List.getElem?_cons_succ] at h1
    rw [List.map_cons, List.map_cons, List.cons_append, List.cons_append, List.getElem?_cons_succ, List.getElem?_cons_succ] at h2
    by_cases hi : j < ds.length
    · rw [List.getElem?_append_left (by simpa using hi), List.getElem?_map] at h1
      rw [List.getElem?_append_left (by simp; omega), List.getElem?_map] at h2
      cases hd : ds[j]? with
      | none => rw [hd] at h1; cases h1
      | some d =>
        rw [hd] at h1
        cases hv : vr[j]? with
        | none => rw [hv] at h2; cases h2
        | some v =>
          rw [hv] at h2
          cases h1
          cases h2
          exact .inl ⟨v, d, j, rfl, hd, hv, rfl, rfl⟩
    · rw [List.getElem?_append_right (by simpa using hi), List.getElem?_replicate] at h1
      split at h1
      · cases h1; exact .inr rfl
      · cases h1
theorem run_state (hn : d.n = N.length) (hp : d.ps ≤ N.length) {vs : List V} {H : Hp} {Q : VK} {E : XK} (h : spG K d.ps (evG F fuel d) vs H Q E) : rdS F fuel K cl E d.b { nx := fun _ H' => Q .non H', rt := Q } (start N vs) H := by
  obtain ⟨G, dsA, ss, xs, p, v0, vr, rfl, hG, hd, hl, hH, hx, hnp, h⟩ := h
  obtain ⟨d0, ds, rfl, h0, hr⟩ : ∃ d0 ds', dsA = d0 :: ds' ∧ Dp K G v0 d0 ∧ DpAll K G vr ds' := by
    cases hd with
    | cons h0 hr => exact ⟨_, _, rfl, h0, hr⟩
  have hlen := dps_len hr
  have nG : ∀ a o, G a = some o → a ≠ p := fun a o e q => by rw [q, hnp] at e; cases e
  refine ⟨⟨fun a => if a = p then none else H a, G, p⟩, G, startG d.n ss (d0 :: ds), ⟨hG, fun a o e => ?_, Same.refl _, fun a o e => ?_, fun _ _ h => h, ?_, fun i c o h1 h2 => ?_, fun i j q hij m1 m2 => ?_⟩, ?_⟩
  · have e : (if a = p then none else H a) = some o := e
    split at e
    · cases e
    · exact e
  · show (if a = p then none else H a) = some o
    rw [if_neg (nG a o e)]
    exact hG a o e
  · unfold startG L2.start
    have : (v0 :: V.ref p :: vr).length = d.ps := by
      rw [List.length_cons] at hl
      simp
      omega
    simp at this ⊢
    omega
  · rcases startG_get hlen h1 h2 with ⟨_, rfl, rfl⟩ | ⟨_, rfl, rfl⟩ | ⟨v, d', j, _, q1, q2, rfl, rfl⟩ | rfl
    · exact ⟨v0, rfl, h0⟩
    · exact ⟨p, xs, rfl, hH, hx, hnp, if_pos rfl, rfl⟩
    · obtain ⟨v', w1, w2⟩ := dps_get hr q1
      rw [q2] at w1
      cases w1
      exact ⟨v, rfl, w2⟩
    · trivial
  · obtain ⟨c, es, a1, a2, a3⟩ := m1
    obtain ⟨c', es', b1, b2, b3⟩ := m2
    rcases startG_get hlen a1 a3 with ⟨_, rfl, _⟩ | ⟨ei, _, _⟩ | ⟨_, _, _, _, _, _, rfl, _⟩ | rfl
    · cases a2
    · rcases startG_get hlen b1 b3 with ⟨_, rfl, _⟩ | ⟨ej, _, _⟩ | ⟨_, _, _, _, _, _, rfl, _⟩ | rfl
      · cases b2
      · exact hij (by rw [ei, ej])
      · cases b2
      · cases b2
    · cases a2
    · cases a2
  · unfold evG at h
    rw [if_pos hl] at h
    cases hv : evS F fuel d.b (startG d.n ss (d0 :: ds)) with
    | error e =>
      rw [hv] at h
      exact h.elim
    | ok q =>
      obtain ⟨r, ρ'⟩ := q
      rw [hv] at h
      have fin : ∀ {σ' : L2.St} {G' : Hp} {v : V} {H' : Hp} {x : D}, Rel K ⟨fun a => if a = p then none else H a, G, p⟩ G' ρ' σ' H' → Dp K G' v x → (match finG (r, ρ') with
          | .ok (d, ss') => ∀ G' v H' xs', Same G G' → Same G' H' → (∀ a o, a ≠ p → H a = some o → H' a = some o) → H' p = some (.lst xs') → DpAll K G' xs' ss' → (∀ a, G' a ≠ none → G a = none → H a = none) → Dp K G' v d → Q v H'
          | .error _ => False) → (∀ ss', finG (r, ρ') = .ok (x, ss') ∨ ¬ ∃ y, finG (r, ρ') = .ok (y, ss')) → Q v H' := fun {σ' G' v H' x} r1 d1 h hx => by
        cases hf : finG (r, ρ') with
        | error e => rw [hf] at h; exact h.elim
        | ok z =>
          obtain ⟨y, ss'⟩ := z
          have hy : y = x := by
            rcases hx ss' with q | q
            · rw [hf] at q; cases q; rfl
            · exact absurd ⟨y, hf⟩ q
          subst hy
          rw [hf] at h
          have h1 : ρ'[(1 : Nat)]? = some (.rf ss') := by
            unfold finG at hf
            dsimp only at hf
            split at hf
            · cases hf; assumption
            · cases hf; assumption
            · cases hf
          have hσ := r1.rfAt h1
          obtain ⟨p', xs', e1, e2, e3, e4, e5⟩ := r1.muAt h1 rfl
          rw [hσ] at e1
          cases e1
          refine h G' v H' xs' r1.ex0 r1.exG (fun a o ha e => r1.exP a o ?_) e2 e3 (fun a h1 h2 => ?_) d1
          · show (if a = p then none else H a) = some o
            rw [if_neg ha]; exact e
          · by_cases ha : a = p
            · subst ha; exact absurd e4 h1
            · cases hq : H a with
              | none => rfl
              | some o =>
                refine absurd (r1.frG a ?_ h2) h1
                show (if a = p then none else H a) ≠ none
                rw [if_neg ha, hq]
                simp
      cases r with
      | nx =>
        intro σ' G' H' _ r1
        refine fin r1 .non h fun ss' => ?_
        unfold finG
        dsimp only
        cases ρ'[(1 : Nat)]? with
        | none => exact .inr fun ⟨y, z⟩ => by cases z
        | some c =>
          cases c with
          | rf s =>
            by_cases e : s = ss'
            · subst e; exact .inl rfl
            · refine .inr fun ⟨y, z⟩ => ?_
              cases z
              exact e rfl
          | _ =>
            refine .inr fun ⟨y, z⟩ => ?_
            cases z
      | rt x =>
        intro σ' G' v H' r1 d1
        refine fin r1 d1 h fun ss' => ?_
        unfold finG
        dsimp only
        cases ρ'[(1 : Nat)]? with
        | none => exact .inr fun ⟨y, z⟩ => by cases z
        | some c =>
          cases c with
          | rf s =>
            by_cases e : s = ss'
            · subst e; exact .inl rfl
            · refine .inr fun ⟨y, z⟩ => ?_
              cases z
              exact e rfl
          | _ =>
            refine .inr fun ⟨y, z⟩ => ?_
            cases z
/-- a def with `state` as its second argument -/
theorem TabOk.state (ls : LsOk) (t : TabOk T U F P w K mg base cl k) (Fd : FunD K x qual params body scope [] [] f fd) (S : FnScope N ps scope) (hp : d.ps = ps.length) (hn : d.n = N.length) (hm : mtL T U N scope d.b body = true) (hg : mg x = some (.ref f)) (hb : Binds K fd ps []) :
    FnF P w K mg base x (k + 1) (spG K d.ps (evG F fuel d)) := by
  have hpl : ps.length ≤ N.length := by have := congrArg List.length S.pre; rw [List.length_take] at this; omega
  refine ⟨f, fd, ps, Fd.ok S (fun vs H Q E h => ?_) (fun cdv A outer s H vs Q E hr h => ⟨_, (sndS ls d.b).sL (t.okS S hr) hm, run_state hn (by omega) h⟩), hg, Fd.kp, hb⟩
  rw [spG_len h, hp]
/-! ### tables -/
def addF (F : Fns) (x : Str) (f : List D → R D) : Fns := { F with f := fun y => if y = x then f else F.f y }
def addG (F : Fns) (x : Str) (g : List D → List D → R (D × List D)) : Fns := { F with g := fun y => if y = x then g else F.g y }
def sigF (T : Sig) (x : Str) (n : Nat) : Sig := { T with fs := (x, n) :: T.fs }
def sigG (T : Sig) (x : Str) (n : Nat) : Sig := { T with gs := (x, n) :: T.gs }
theorem lookup_cons_cases {x y : Str} {n m : Nat} {l : List (Str × Nat)} (h : ((x, n) :: l).lookup y = some m) : (y = x ∧ m = n) ∨ (y ≠ x ∧ l.lookup y = some m) := by
  rw [List.lookup_cons] at h
  cases hb : y == x with
  | true => rw [hb] at h; cases h; exact .inl ⟨eq_of_beq hb, rfl⟩
  | false =>
    rw [hb] at h
    exact .inr ⟨fun e => (by subst e; rw [beq_self_eq_true] at hb; cases hb), h⟩
theorem TabOk.addF (t : TabOk T U F P w K mg base cl k) {j n : Nat} {g : List D → R D} (h : FnF P w K mg base x j (spF K cl n g)) (hj : k ≤ j) : TabOk (sigF T x n) U (addF F x g) P w K mg base cl j where
  fs := fun y m hy => by
    rcases lookup_cons_cases hy with ⟨rfl, rfl⟩ | ⟨hne, hy⟩
    · show FnF _ _ _ _ _ _ _ (spF K cl _ (if y = y then g else F.f y))
      rw [if_pos rfl]; exact h
    · show FnF _ _ _ _ _ _ _ (spF K cl _ (if y = x then g else F.f y))
      rw [if_neg hne]; exact (t.fs y m hy).up hj
  gs := fun y m hy => (t.gs y m hy).up hj
  bs := t.bs
  xs := t.xs
  em := t.em
theorem TabOk.addG (t : TabOk T U F P w K mg base cl k) {j n : Nat} {g : List D → List D → R (D × List D)} (h : FnF P w K mg base x j (spG K n g)) (hj : k ≤ j) : TabOk (sigG T x n) U (addG F x g) P w K mg base cl j where
  fs := fun y m hy => (t.fs y m hy).up hj
  gs := fun y m hy => by
    rcases lookup_cons_cases hy with ⟨rfl, rfl⟩ | ⟨hne, hy⟩
    · show FnF _ _ _ _ _ _ _ (spG K _ (if y = y then g else F.g y))
      rw [if_pos rfl]; exact h
    · show FnF _ _ _ _ _ _ _ (spG K _ (if y = x then g else F.g y))
      rw [if_neg hne]; exact (t.gs y m hy).up hj
  bs := t.bs
  xs := t.xs
  em := t.em
/-- a def that calls itself, n deep -/
def recF (F : Fns) (fuel : Nat) (x : Str) (d : Def) : Nat → List D → R D
  | 0, _ => stk
  | n + 1, ds => evF (addF F x (recF F fuel x d n)) fuel d ds
theorem TabOk.rec_ (ls : LsOk) (t : TabOk T U F P w K mg base cl k) (Fd : FunD K x qual params body scope [] [] f fd) (S : FnScope N ps scope) (hp : d.ps = ps.length) (hn : d.n = N.length) (hm : mtL (sigF T x d.ps) U N scope d.b body = true) (hg : mg x = some (.ref f)) (hb : Binds K fd ps []) :
    ∀ n, FnF P w K mg base x (k + n) (spF K cl d.ps (recF F fuel x d n))
  | 0 => by
    have no : ∀ {vs : List V} {H : Hp} {Q : VK} {E : XK}, spF K cl d.ps (recF F fuel x d 0) vs H Q E → False := fun {vs H Q E} h => by
      obtain ⟨_, _, _, _, _, h⟩ := h
      exact h
    exact ⟨f, fd, ps, FnOk.mk (fun vs H Q E h => (no h).elim) (fun _ _ _ _ _ _ _ _ _ _ _ _ _ h => (no h).elim), hg, Fd.kp, hb⟩
  | n + 1 => TabOk.plain ls (t.addF (TabOk.rec_ ls t Fd S hp hn hm hg hb n) (Nat.le_add_right _ _)) Fd S hp hn hm hg hb
/-- one with `state` that calls itself -/
def recG (F : Fns) (fuel : Nat) (x : Str) (d : Def) : Nat → List D → List D → R (D × List D)
  | 0, _, _ => stk
  | n + 1, ds, ss => evG (addG F x (recG F fuel x d n)) fuel d ds ss
theorem TabOk.recG_ (ls : LsOk) (t : TabOk T U F P w K mg base cl k) (Fd : FunD K x qual params body scope [] [] f fd) (S : FnScope N ps scope) (hp : d.ps = ps.length) (hn : d.n = N.length) (hm : mtL (sigG T x d.ps) U N scope d.b body = true) (hg : mg x = some (.ref f)) (hb : Binds K fd ps []) :
    ∀ n, FnF P w K mg base x (k + n) (spG K d.ps (recG F fuel x d n))
  | 0 => by
    have no : ∀ {vs : List V} {H : Hp} {Q : VK} {E : XK}, spG K d.ps (recG F fuel x d 0) vs H Q E → False := fun {vs H Q E} h => by
      obtain ⟨_, _, _, _, _, _, _, _, _, _, _, _, _, _, h⟩ := h
      exact h
    exact ⟨f, fd, ps, FnOk.mk (fun vs H Q E h => (no h).elim) (fun _ _ _ _ _ _ _ _ _ _ _ _ _ h => (no h).elim), hg, Fd.kp, hb⟩
  | n + 1 => TabOk.state ls (t.addG (TabOk.recG_ ls t Fd S hp hn hm hg hb n) (Nat.le_add_right _ _)) Fd S hp hn hm hg hb
end
end Ft
/-! FtSet: len(set(t)) of a tuple of ints and texts. -/
namespace Ft
open PySem PySem.Spec PyProof.Rows L2
theorem memK_snoc (k y : Key) : ∀ l : List Key, memK k (l ++ [y]) = (memK k l || decide (k = y))
  | [] => by
    show (decide (y = k) || false) = (false || decide (k = y))
    rw [Bool.or_false, Bool.false_or]
    exact decide_eq_decide.mpr ⟨Eq.symm, Eq.symm⟩
  | x :: l => by
    show (decide (x = k) || memK k (l ++ [y])) = ((decide (x = k) || memK k l) || decide (k = y))
    rw [memK_snoc k y l, Bool.or_assoc]
theorem cntK_snoc (k : Key) : ∀ l : List Key, cntK (l ++ [k]) = if memK k l = true then cntK l else cntK l + 1
  | [] => rfl
  | x :: l => by
    show (if memK x (l ++ [k]) = true then cntK (l ++ [k]) else cntK (l ++ [k]) + 1) = if (decide (x = k) || memK k l) = true then (if memK x l = true then cntK l else cntK l + 1) else (if memK x l = true then cntK l else cntK l + 1) + 1
    rw [cntK_snoc k l, memK_snoc]
    by_cases e : x = k
    · subst e
      simp
    · by_cases h1 : memK x l = true <;> by_cases h2 : memK k l = true <;> simp [h1, h2, e]
theorem cntK_le : ∀ l : List Key, cntK l ≤ l.length
  | [] => Nat.le_refl _
  | x :: l => by
    have := cntK_le l
    unfold cntK
    rw [List.length_cons]
    split <;> omega
section
variable {prog : Program} {w : World} {A : Around} {R : Result → Shared → Prop} {I : Addr} {fp wr : List Addr} {G : Array GenState → Array GenState → Prop} {n : Nat} {P : Nat → Value → Prop} {St : Nat → Shared → Prop}
theorem loopK (W : WalksS prog w A.in1 I fp wr G n P St) (S : Addr) (hSf : S ∉ fp) (ks : List Key) (hsz : ks.length = n) (hn1 : n + 1 < scanBound)
    (hval : ∀ i v, P i v → ∃ k, ks[i]? = some k ∧ RelV (kV k) v) :
    ∀ (k i : Nat) (s : Shared), n - i = k → i ≤ n → St i s →
      s.heap.SetOf (mixKind prog w) S (fun k' => memK k' (ks.take i)) (cntK (ks.take i)) →
      (∀ s', Moved (S :: wr) G s s' → s'.heap.SetOf (mixKind prog w) S (fun k' => memK k' (ks.take n)) (cntK (ks.take n)) → R (.ok (.ret .none)) s') →
      codeAny (model prog w) A (.builtin "set.update.loop" ⟨[.ref S, .ref I], []⟩) R s := by
  have hSw : S ∉ wr := fun h => hSf (W.sub _ h)
  have hsub : ∀ b ∈ wr, b ∈ S :: wr := fun b hb => List.mem_cons_of_mem _ hb
  intro k
  induction k with
  | zero =>
    intro i s hk hi hst hS hR
    have hin : i = n := by omega
    subst hin
    refine codeAny_builtin PyProof.Rows.F.entry_set_update_loop ?_
    rw [Around.under_plainId PyProof.Rows.F.plain_set_update_loop _]
    show wpAny _ A.in1 (pyNext (.ref I) >>= _) _ _ s
    refine wpAny_bind (W.done s _ _ hst fun s' hm => ?_)
    show wpAny _ A.in1 (ret Value.none) _ _ s'
    exact wpAny_pure (hR s' (hm.mono hsub) (setOf_at hS fun o e => hm.heap S o hSw e))
  | succ k ih =>
    intro i s hk hi hst hS hR
    have hlt : i < n := by omega
    refine codeAny_builtin PyProof.Rows.F.entry_set_update_loop ?_
    rw [Around.under_plainId PyProof.Rows.F.plain_set_update_loop _]
    show wpAny _ A.in1 (pyNext (.ref I) >>= _) _ _ s
    refine wpAny_bind (W.item i s _ _ hlt hst fun v s' hP hst' hm => ?_)
    obtain ⟨ky, hky, rv⟩ := hval i v hP
    have hS' := setOf_at hS (h' := s'.heap) fun o e => hm.heap S o hSw e
    show wpAny _ A.in1 (holding [v] (setAdd S v) >>= _) _ _ s'
    refine wpAny_bind (wpAny_holding ?_)
    unfold setAdd
    refine wpAny_holding ?_
    refine wpAny_bind ((mixKind prog w).pyHash (k := ky) (kV_is rv) ?_)
    have hroom : cntK (ks.take i) + 1 < scanBound := by
      have := cntK_le (ks.take i)
      rw [List.length_take] at this
      omega
    refine wpAny_setAddHashed_of (knd := mixKind prog w) (s := { s' with toks := s'.toks + 1 }) (kV_is rv) (key_scan rv) hS' hroom fun h' hsb hS2 => ?_
    have htk : ks.take (i + 1) = ks.take i ++ [ky] := by
      rw [List.take_succ, hky]; rfl
    have hSi : h'.SetOf (mixKind prog w) S (fun k' => memK k' (ks.take (i + 1))) (cntK (ks.take (i + 1))) := by
      have e1 : (fun k' => memK k' (ks.take (i + 1))) = fun k' => memK k' (ks.take i) || decide (k' = ky) := funext fun k' => by rw [htk, memK_snoc]
      have e2 : cntK (ks.take (i + 1)) = if memK ky (ks.take i) = true then cntK (ks.take i) else cntK (ks.take i) + 1 := by rw [htk, cntK_snoc]
      rw [e1, e2]
      exact hS2
    refine wpAny_pure ⟨plainId_quiet PyProof.Rows.F.plain_set_update_loop _, ih (i + 1) _ (by omega) hlt (W.frame _ s' _ _ hst' (Nat.le_succ _) fun b hb o e => ?_) hSi fun s'' hm'' hS'' => ?_⟩
    · rw [hsb.2 b (fun h : b = S => hSf (by rw [← h]; exact hb))]; exact e
    · refine hR s'' (Moved.trans W.gtrans ((hm.mono hsub).then_heap (Nat.le_succ _) fun b o hb e => ?_) hm'') hS''
      rw [hsb.2 b (fun h : b = S => hb (by rw [h]; exact List.mem_cons_self))]; exact e
end
section
variable {prog : Program} {w : World} {A : Around} {E : Value → Shared → Prop} {s : Shared}
set_option maxHeartbeats 3200000 in
theorem call_set_tupleK {l : Addr} {items : Array Value} {ks : List Key} {Q : Value → Shared → Prop}
    (hh : A.handled = none) (hl : s.heap.IsTuple l items) (hi : Vals (ks.map kV) items.toList) (hn1 : ks.length + 1 < scanBound)
    (h : ∀ (h' : Heap) (tk : Nat), h'.SetOf (mixKind prog w) s.heap.objs.size (fun k' => memK k' ks) (cntK ks) →
      (∀ b o, b < s.heap.objs.size → s.heap.get? b = some o → h'.get? b = some o) → Q (.ref s.heap.objs.size) { s with heap := h', toks := tk }) :
    wpAny (model prog w) A (call (.type "set") [.ref l]) Q E s := by
  obtain ⟨c, tl, hmro⟩ := PySem.F.called_set.mro
  have hmade := PySem.F.called_set.made
  have hsub := PySem.F.called_set.sub
  refine wpAny_call (codeAny_of_tree ?_)
  show wpAny _ _ (callAny (.type "set") _) _ _ _
  refine wpAny_pure ⟨Code.quiet_builtin _ (by decide +kernel), codeAny_builtin PySem.F.entry_type_call ?_⟩
  rw [Around.under_plain (weight_type_call_type "set" [.ref l] []) rfl]
  have h1 := PySem.F.called_set.notType
  have h2 := PySem.F.called_set.canCreate
  have hct := PySem.F.typeCall_set_1 (.ref l)
  repeat (any_goals (first | assumption | wp_step))
  refine codeAny_mono (code_set_new_1 (.ref l) (E := E) (Q₁ := fun obj s₁ => ∃ led : Bool, obj = .ref s.heap.objs.size ∧ s₁ = { s with heap := s.heap.push { cls := .type "set", dict := none, data := .set #[] 0 (.fresh 0 0 led) } }) fun led => ⟨led, rfl, rfl⟩) fun r s₁ hr => ?_
  cases r with
  | error e => exact hr
  | ok fl =>
    cases fl with
    | ret obj =>
      obtain ⟨led, rfl, rfl⟩ := hr
      have hS : (s.heap.push { cls := .type "set", dict := none, data := .set #[] 0 (.fresh 0 0 led) }).get? s.heap.objs.size = some { cls := .type "set", dict := none, data := .set #[] 0 (.fresh 0 0 led) } := Heap.get?_push_size _ rfl
      have hT : Shared.TypeIs { s with heap := s.heap.push { cls := .type "set", dict := none, data := .set #[] 0 (.fresh 0 0 led) } } (.ref s.heap.objs.size) "set" := ⟨_, hS, rfl⟩
      have hli := PySem.F.called_set.init.lookup
      have hbi := PySem.F.called_set.init.bind (.ref s.heap.objs.size)
      repeat (any_goals (first | assumption | wp_step))
      refine codeAny_mono (codeAny_call_builtin (R := wants (fun r s₂ => r = .none ∧ ∃ h' tk, s₂ = { s with heap := h', toks := tk } ∧
          h'.SetOf (mixKind prog w) s.heap.objs.size (fun k' => memK k' ks) (cntK ks) ∧
          (∀ b o, b < s.heap.objs.size → s.heap.get? b = some o → h'.get? b = some o)) E) PySem.F.called_set.init.plain PySem.F.entry_set_init (check_set_init_1 hT ?_)) fun r₂ s₂ hr₂ => ?_
      · obtain ⟨ol, hol, hcl, nl, hdl⟩ := hl
        obtain ⟨ocls, odict, odata, oslots⟩ := ol
        simp only at hcl hdl
        subst hcl; subst hdl
        have hol' : (s.heap.push { cls := .type "set", dict := none, data := .set #[] 0 (.fresh 0 0 led) }).get? l = some { cls := .type "tuple", dict := odict, data := .seq items nl, slots := oslots } := Heap.get?_push_of_some _ hol
        have hsls := PySem.F.sub_tuple_set
        have hslf := PySem.F.sub_tuple_frozenset
        have hne : (Value.type "tuple" == Value.type "dict") = false := by decide
        have hl1 : (s.heap.push { cls := .type "set", dict := none, data := .set #[] 0 (.fresh 0 0 led) }).IsTuple l items := ⟨_, hol', rfl, nl, rfl⟩
        unfold Builtin.«set.__init__» noKeywords Builtin.Frozenset.updateFrom
        generalize hPI : pyIter = PI
        wp_walk
        subst hPI
        refine wpAny_pyIter_tuple hl1 ?_
        refine wpAny_bind (wpAny_runValue ?_)
        have hlS : l < s.heap.objs.size := Heap.lt_size hol
        have hh3 : A.in1.in1.in1.handled = none := by simp [hh]
        have hneI : l ≠ (s.heap.push { cls := .type "set", dict := none, data := .set #[] 0 (.fresh 0 0 led) }).objs.size := by
          rw [Heap.size_push]; exact Nat.ne_of_lt (Nat.lt_succ_of_lt hlS)
        have hSf : s.heap.objs.size ∉ [(s.heap.push { cls := .type "set", dict := none, data := .set #[] 0 (.fresh 0 0 led) }).objs.size, l] := by
          rw [Heap.size_push]; simp only [List.mem_cons, List.mem_singleton, List.not_mem_nil, or_false, not_or]
          exact ⟨Nat.ne_of_lt (Nat.lt_succ_self _), Nat.ne_of_gt hlS⟩
        have hsz : ks.length = items.size := by
          have := hi.length
          rw [List.length_map, Array.length_toList] at this
          exact this
        have hval : ∀ (i : Nat) (v : Value), items[i]? = some v → ∃ k, ks[i]? = some k ∧ RelV (kV k) v := fun i v hv => by
          have hlt : i < ks.length := by
            rw [hsz]
            exact (Array.getElem?_eq_some_iff.mp hv).1
          obtain ⟨u, hu, ru⟩ := hi.get (i := i) (x := kV ks[i]) (by rw [List.getElem?_map, List.getElem?_eq_getElem hlt]; rfl)
          rw [Array.getElem?_toList, hv] at hu
          cases hu
          exact ⟨ks[i], List.getElem?_eq_getElem hlt, ru⟩
        refine loopK ((Walks.tuple hh3 _ l hneI items).toS) s.heap.objs.size
          hSf ks hsz (by rw [← hsz]; exact hn1) hval (items.size - 0) 0 _ (by omega) (Nat.zero_le _)
          ⟨⟨_, Heap.get?_push_size _ rfl, rfl, rfl⟩, (hl1.push _)⟩ ?hS0 ?hR
        case hS0 =>
          have hget : ((s.heap.push { cls := .type "set", dict := none, data := .set #[] 0 (.fresh 0 0 led) }).push { cls := .type "tuple_iterator", data := .fields #[.ref l, .int 0 0] }).get? s.heap.objs.size
              = some { cls := .type "set", dict := none, data := .set #[] 0 (.fresh 0 0 led) } := Heap.get?_push_of_some _ hS
          exact ⟨_, #[], 0, _, hget, ⟨rfl, rfl, rfl⟩, rfl, (fun e he => by simp at he), (fun k => by simp [memK]), (by decide), (by rfl), rfl⟩
        case hR =>
          intro s' hm hS'
          obtain ⟨h', g', d', tk', os'⟩ := s'
          have eg : g' = s.gens := hm.gens
          have ed : d' = s.drawn := hm.drawn
          have eo : os' = s.os := hm.os
          subst eg; subst ed; subst eo
          rw [← hsz, List.take_length] at hS'
          show wpAny _ _ _ _ _ _
          refine wpAny_pure ?_
          show wpAny _ _ (ret Value.none) _ _ _
          refine wpAny_pure ⟨rfl, h', tk', rfl, hS', fun b o hb e => ?_⟩
          have hb1 : b ≠ s.heap.objs.size := Nat.ne_of_lt hb
          have hb2 : b ≠ (s.heap.push { cls := .type "set", dict := none, data := .set #[] 0 (.fresh 0 0 led) }).objs.size := by
            rw [Heap.size_push]; exact Nat.ne_of_lt (Nat.lt_succ_of_lt hb)
          exact hm.heap b o (by simp only [List.mem_cons, List.mem_singleton, List.not_mem_nil, or_false, not_or]; exact ⟨hb1, hb2⟩) (Heap.get?_push_of_some _ (Heap.get?_push_of_some _ e))
      · cases r₂ with
        | error e => exact hr₂
        | ok fl₂ =>
          cases fl₂ with
          | ret r =>
            obtain ⟨rfl, h', tk, rfl, hS', hk'⟩ := hr₂
            repeat (any_goals (first | assumption | wp_step))
            exact h _ _ hS' hk'
          | _ => exact hr₂.elim
    | _ => exact hr.elim
end
/-- len(set(t)) -/
def tLenK (K : PySem.W.Frag) (ta : TE) : TE := fun σ H Q => ta σ H fun x H1 => ∃ l, ∃ ks : List Key, x = .ref l ∧ SqT K H1 l (ks.map kV) ∧ ks.length ≤ 1000 ∧ Q (.int (cntK ks : Nat)) H1
theorem pe_lenK {X : Cx} {a : Expr} {ta : TE} {p p2 q pos : Pos} (hc : X.calm = true) (hg : Gl X "len") (hm : X.mg "len" = none) (hg2 : Gl X "set") (hm2 : X.mg "set" = none) (ha : PE X a ta)
    (na : starEach [a] X.env = (false, eval a X.env) :: starEach [] X.env) : PE X (.Call (.Name "len" p) [.Call (.Name "set" p2) [a] [] q] [] pos) (tLenK X.K ta) := by
  refine ⟨fun pins s σ H Q I h => ?_⟩
  refine Call_ (ld_blt I hg hm boot_len ?_)
  refine PyProof.Rows.callWith_builtin1 (PyProof.Rows.args_cons ?_ rfl) rfl rfl
  refine Call_ (ld_blt I hg2 hm2 boot_set ?_)
  refine PyProof.Rows.callWith_type1 (PyProof.Rows.args_cons (thn (ha.run pins s σ H _ I h) fun v s1 ⟨x, H1, I1, r1, q1⟩ => PyProof.Rows.args_nil ?_) na) na rfl
  obtain ⟨l, ks, rfl, hq, h1, q1⟩ := q1
  cases r1
  obtain ⟨its, r, pl, hz⟩ := I1.tuple hq
  refine call_set_tupleK (I1.ok.hd hc) pl (by simpa using r) (by unfold scanBound; omega) fun h' tk hS hk => ?_
  refine PyProof.Rows.args_nil ?_
  obtain ⟨o, es, ep, t, ho, hex, hd, _, _, _, hf, hn⟩ := hS
  have I2 : Inv X pins σ H1 { s1 with heap := h', toks := tk } := I1.kept fun b o e => hk b o (Heap.lt_size e) e
  have hle := cntK_le ks
  exact call_len_set ho hex hd hf (by rw [hn]; omega) ⟨.int (cntK ks : Nat), H1, I2.tok _, ⟨_, by rw [hn]⟩, q1⟩
theorem keys_of {K : PySem.W.Frag} {H : Hp} : ∀ {ds : List D} {xs : List V} {ks : List Key}, keysD ds = .ok ks → DpAll K H xs ds → xs = ks.map kV
  | [], _, _, h, .nil => by cases h; rfl
  | d :: ds, _, ks, h, .cons hd hs => by
    unfold keysD at h
    obtain ⟨k, hk, h⟩ := bindR_ok_inv h
    obtain ⟨ks', hks, h⟩ := bindR_ok_inv h
    cases h
    rw [List.map_cons, ← keys_of hks hs]
    congr 1
    cases hd <;> cases hk <;> rfl
end Ft
/-! FtSetL: set(xs) of a list of ints and texts. -/
namespace Ft
open PySem PySem.Spec PyProof.Rows L2
section
variable {prog : Program} {w : World} {A : Around} {E : Value → Shared → Prop} {s : Shared}
set_option maxHeartbeats 3200000 in
theorem call_set_listK {l : Addr} {items : Array Value} {ks : List Key} {Q : Value → Shared → Prop}
    (hh : A.handled = none) (hl : s.heap.IsList l items) (hi : Vals (ks.map kV) items.toList) (hn1 : ks.length + 1 < scanBound)
    (h : ∀ (h' : Heap) (tk : Nat), h'.SetOf (mixKind prog w) s.heap.objs.size (fun k' => memK k' ks) (cntK ks) →
      (∀ b o, b < s.heap.objs.size → s.heap.get? b = some o → h'.get? b = some o) → Q (.ref s.heap.objs.size) { s with heap := h', toks := tk }) :
    wpAny (model prog w) A (call (.type "set") [.ref l]) Q E s := by
  obtain ⟨c, tl, hmro⟩ := PySem.F.called_set.mro
  have hmade := PySem.F.called_set.made
  have hsub := PySem.F.called_set.sub
  refine wpAny_call (codeAny_of_tree ?_)
  show wpAny _ _ (callAny (.type "set") _) _ _ _
  refine wpAny_pure ⟨Code.quiet_builtin _ (by decide +kernel), codeAny_builtin PySem.F.entry_type_call ?_⟩
  rw [Around.under_plain (weight_type_call_type "set" [.ref l] []) rfl]
  have h1 := PySem.F.called_set.notType
  have h2 := PySem.F.called_set.canCreate
  have hct := PySem.F.typeCall_set_1 (.ref l)
  repeat (any_goals (first | assumption | wp_step))
  refine codeAny_mono (code_set_new_1 (.ref l) (E := E) (Q₁ := fun obj s₁ => ∃ led : Bool, obj = .ref s.heap.objs.size ∧ s₁ = { s with heap := s.heap.push { cls := .type "set", dict := none, data := .set #[] 0 (.fresh 0 0 led) } }) fun led => ⟨led, rfl, rfl⟩) fun r s₁ hr => ?_
  cases r with
  | error e => exact hr
  | ok fl =>
    cases fl with
    | ret obj =>
      obtain ⟨led, rfl, rfl⟩ := hr
      have hS : (s.heap.push { cls := .type "set", dict := none, data := .set #[] 0 (.fresh 0 0 led) }).get? s.heap.objs.size = some { cls := .type "set", dict := none, data := .set #[] 0 (.fresh 0 0 led) } := Heap.get?_push_size _ rfl
      have hT : Shared.TypeIs { s with heap := s.heap.push { cls := .type "set", dict := none, data := .set #[] 0 (.fresh 0 0 led) } } (.ref s.heap.objs.size) "set" := ⟨_, hS, rfl⟩
      have hli := PySem.F.called_set.init.lookup
      have hbi := PySem.F.called_set.init.bind (.ref s.heap.objs.size)
      repeat (any_goals (first | assumption | wp_step))
      refine codeAny_mono (codeAny_call_builtin (R := wants (fun r s₂ => r = .none ∧ ∃ h' tk, s₂ = { s with heap := h', toks := tk } ∧
          h'.SetOf (mixKind prog w) s.heap.objs.size (fun k' => memK k' ks) (cntK ks) ∧
          (∀ b o, b < s.heap.objs.size → s.heap.get? b = some o → h'.get? b = some o)) E) PySem.F.called_set.init.plain PySem.F.entry_set_init (check_set_init_1 hT ?_)) fun r₂ s₂ hr₂ => ?_
      · obtain ⟨ol, hol, hcl, nl, hdl⟩ := hl
        obtain ⟨ocls, odict, odata, oslots⟩ := ol
        simp only at hcl hdl
        subst hcl; subst hdl
        have hol' : (s.heap.push { cls := .type "set", dict := none, data := .set #[] 0 (.fresh 0 0 led) }).get? l = some { cls := .type "list", dict := odict, data := .seq items nl, slots := oslots } := Heap.get?_push_of_some _ hol
        have hsls := PySem.F.sub_list_set
        have hslf := PySem.F.sub_list_frozenset
        have hne : (Value.type "list" == Value.type "dict") = false := by decide
        have hl1 : (s.heap.push { cls := .type "set", dict := none, data := .set #[] 0 (.fresh 0 0 led) }).IsList l items := ⟨_, hol', rfl, nl, rfl⟩
        unfold Builtin.«set.__init__» noKeywords Builtin.Frozenset.updateFrom
        generalize hPI : pyIter = PI
        wp_walk
        subst hPI
        refine wpAny_pyIter_list hl1 ?_
        refine wpAny_bind (wpAny_runValue ?_)
        have hlS : l < s.heap.objs.size := Heap.lt_size hol
        have hh3 : A.in1.in1.in1.handled = none := by simp [hh]
        have hneI : l ≠ (s.heap.push { cls := .type "set", dict := none, data := .set #[] 0 (.fresh 0 0 led) }).objs.size := by
          rw [Heap.size_push]; exact Nat.ne_of_lt (Nat.lt_succ_of_lt hlS)
        have hSf : s.heap.objs.size ∉ [(s.heap.push { cls := .type "set", dict := none, data := .set #[] 0 (.fresh 0 0 led) }).objs.size, l] := by
          rw [Heap.size_push]; simp only [List.mem_cons, List.mem_singleton, List.not_mem_nil, or_false, not_or]
          exact ⟨Nat.ne_of_lt (Nat.lt_succ_self _), Nat.ne_of_gt hlS⟩
        have hsz : ks.length = items.size := by
          have := hi.length
          rw [List.length_map, Array.length_toList] at this
          exact this
        have hval : ∀ (i : Nat) (v : Value), items[i]? = some v → ∃ k, ks[i]? = some k ∧ RelV (kV k) v := fun i v hv => by
          have hlt : i < ks.length := by
            rw [hsz]
            exact (Array.getElem?_eq_some_iff.mp hv).1
          obtain ⟨u, hu, ru⟩ := hi.get (i := i) (x := kV ks[i]) (by rw [List.getElem?_map, List.getElem?_eq_getElem hlt]; rfl)
          rw [Array.getElem?_toList, hv] at hu
          cases hu
          exact ⟨ks[i], List.getElem?_eq_getElem hlt, ru⟩
        refine loopK ((Walks.list hh3 _ l hneI items).toS) s.heap.objs.size
          hSf ks hsz (by rw [← hsz]; exact hn1) hval (items.size - 0) 0 _ (by omega) (Nat.zero_le _)
          ⟨⟨_, Heap.get?_push_size _ rfl, rfl, rfl⟩, (hl1.push _)⟩ ?hS0 ?hR
        case hS0 =>
          have hget : ((s.heap.push { cls := .type "set", dict := none, data := .set #[] 0 (.fresh 0 0 led) }).push { cls := .type "list_iterator", data := .fields #[.ref l, .int 0 0] }).get? s.heap.objs.size
              = some { cls := .type "set", dict := none, data := .set #[] 0 (.fresh 0 0 led) } := Heap.get?_push_of_some _ hS
          exact ⟨_, #[], 0, _, hget, ⟨rfl, rfl, rfl⟩, rfl, (fun e he => by simp at he), (fun k => by simp [memK]), (by decide), (by rfl), rfl⟩
        case hR =>
          intro s' hm hS'
          obtain ⟨h', g', d', tk', os'⟩ := s'
          have eg : g' = s.gens := hm.gens
          have ed : d' = s.drawn := hm.drawn
          have eo : os' = s.os := hm.os
          subst eg; subst ed; subst eo
          rw [← hsz, List.take_length] at hS'
          show wpAny _ _ _ _ _ _
          refine wpAny_pure ?_
          show wpAny _ _ (ret Value.none) _ _ _
          refine wpAny_pure ⟨rfl, h', tk', rfl, hS', fun b o hb e => ?_⟩
          have hb1 : b ≠ s.heap.objs.size := Nat.ne_of_lt hb
          have hb2 : b ≠ (s.heap.push { cls := .type "set", dict := none, data := .set #[] 0 (.fresh 0 0 led) }).objs.size := by
            rw [Heap.size_push]; exact Nat.ne_of_lt (Nat.lt_succ_of_lt hb)
          exact hm.heap b o (by simp only [List.mem_cons, List.mem_singleton, List.not_mem_nil, or_false, not_or]; exact ⟨hb1, hb2⟩) (Heap.get?_push_of_some _ (Heap.get?_push_of_some _ e))
      · cases r₂ with
        | error e => exact hr₂
        | ok fl₂ =>
          cases fl₂ with
          | ret r =>
            obtain ⟨rfl, h', tk, rfl, hS', hk'⟩ := hr₂
            repeat (any_goals (first | assumption | wp_step))
            exact h _ _ hS' hk'
          | _ => exact hr₂.elim
    | _ => exact hr.elim
end
end Ft
/-! FtRows: len(set(rows)) of a list of tuples of texts (over HandS.TupSets' lemmas about tables of hashes). -/
namespace Ft
open PySem PySem.Spec PyProof.Rows L2
abbrev TxtAt (P : Program) (w : World) (h : Heap) (k : List Str) (b : Addr) : Prop := IsTupleKey (strKind P w) h k b
abbrev hTxt (P : Program) (w : World) (k : List Str) : Int := tupleKeyHash (strKind P w) k
section
variable {P : Program} {w : World} {A : Around} {E : Value → Shared → Prop} {s : Shared}
theorem items_txt {k : List Str} {us : List Value} (x : ItemsAre (strKind P w) k us) : ∀ u ∈ us, ∃ z y, u = Value.str z y := by
  induction x with
  | nil => exact fun _ m => by cases m
  | cons q _ ih =>
    intro u m
    rcases List.mem_cons.mp m with rfl | m
    · obtain ⟨y, e⟩ := Value.isStrOf_shape q
      exact ⟨_, y, e⟩
    · exact ih u m
theorem noClass_str (n : Nat) (z : Str) (y : Tok) : ofAClassStatement n (.str z y) = pure false := by cases n <;> rfl
theorem byVal_str (n : Nat) (z : Str) (y : Tok) : hashByValue n (.str z y) = pure false := by cases n <;> rfl
theorem noClass {k : List Str} {b : Addr} {Q : Bool → Shared → Prop} (x : TxtAt P w s.heap k b) (q : Q false s) : wpAny (model P w) A (ofAClassStatement 8 (.ref b)) Q E s := by
  have ty := x.typeIs
  obtain ⟨ob, its, m, hob, _, dat, ia⟩ := x
  unfold ofAClassStatement
  refine wpAny_bind (wpAny_typeOf ty ?_)
  dsimp only
  simp only [show (("tuple" : String) == "tuple") = true from by decide, if_true, Bool.not_true, Bool.false_eq_true, if_false]
  try refine wpAny_bind (wpAny_pure ?_)
  try simp only [Bool.not_true, Bool.false_eq_true, if_false]
  show wpAny _ _ (seqItems? (.ref b) >>= _) _ _ s
  refine wpAny_bind (wpAny_seqItems hob dat ?_)
  dsimp only
  refine wpAny_bind ?_
  show wpAny _ _ (forIn its _ _) _ _ s
  rw [← Array.forIn_toList]
  refine wpAny_forIn_list _ (fun left c t => c.1 = none ∧ t = s ∧ ∀ u ∈ left, ∃ z y, u = Value.str z y) _ ?_ ?_ _ _ ⟨rfl, rfl, items_txt ia⟩
  · rintro u left c t ⟨_, rfl, al⟩
    obtain ⟨z, y, rfl⟩ := al u List.mem_cons_self
    rw [noClass_str]
    refine wpAny_bind (wpAny_pure ?_)
    simp only [Bool.false_eq_true, if_false]
    exact wpAny_pure ⟨rfl, rfl, fun v m => al v (List.mem_cons_of_mem _ m)⟩
  · rintro ⟨c1, c2⟩ t ⟨e, rfl, _⟩
    simp only at e
    subst e
    exact wpAny_pure q
theorem byVal {k : List Str} {b : Addr} {Q : Bool → Shared → Prop} (x : TxtAt P w s.heap k b) (q : ∀ c, Q c s) : wpAny (model P w) A (hashByValue 8 (.ref b)) Q E s := by
  have ty := x.typeIs
  obtain ⟨ob, its, m, hob, _, dat, ia⟩ := x
  unfold hashByValue
  refine wpAny_bind (wpAny_specialOf ty PySem.F.slot_tuple_hash.lookup ?_)
  show wpAny _ _ (seqItems? (.ref b) >>= _) _ _ s
  refine wpAny_bind (wpAny_seqItems hob dat ?_)
  refine wpAny_bind ?_
  show wpAny _ _ (forIn its _ _) _ _ s
  rw [← Array.forIn_toList]
  refine wpAny_forIn_list _ (fun left c t => c.1 = none ∧ t = s ∧ ∀ u ∈ left, ∃ z y, u = Value.str z y) _ ?_ ?_ _ _ ⟨rfl, rfl, items_txt ia⟩
  · rintro u left c t ⟨_, rfl, al⟩
    obtain ⟨z, y, rfl⟩ := al u List.mem_cons_self
    rw [byVal_str]
    refine wpAny_bind (wpAny_pure ?_)
    simp only [Bool.not_false, if_true]
    exact wpAny_pure (wpAny_pure (q false))
  · rintro ⟨c1, c2⟩ t ⟨e, rfl, _⟩
    simp only at e
    subst e
    exact wpAny_pure (q true)
theorem tab_not {t : SetTable} {hs : List Int} (T : L2.TabOk t hs) (c : Bool) : L2.TabOk (if c then t else { t with plain := false }) hs := by
  cases c with
  | true => exact T
  | false => exact ⟨T.ris, T.dm, T.sz, T.mok, T.bd, T.reach⟩
theorem unseen {k : List Str} {b : Addr} {Q : Bool → Shared → Prop} (x : TxtAt P w s.heap k b) {vs : List Value} (y : ∀ v ∈ vs, ∃ k' c, v = Value.ref c ∧ TxtAt P w s.heap k' c) (q : Q false s) :
    wpAny (model P w) A (searchCouldBeSeen (.ref b) vs) Q E s := by
  unfold searchCouldBeSeen
  refine wpAny_bind ?_
  refine wpAny_forIn_list _ (fun left c t => c.1 = none ∧ t = s ∧ ∀ v ∈ left, ∃ k' c, v = Value.ref c ∧ TxtAt P w s.heap k' c) _ ?_ ?_ _ _ ⟨rfl, rfl, y⟩
  · rintro u left c t ⟨_, rfl, al⟩
    obtain ⟨k', d, rfl, xd⟩ := al u List.mem_cons_self
    have al' : ∀ v ∈ left, ∃ k' c, v = Value.ref c ∧ TxtAt P w t.heap k' c := fun v m => al v (List.mem_cons_of_mem _ m)
    dsimp only
    by_cases c0 : (b == d || (carriedByValue (.ref b) && carriedByValue (.ref d))) = true
    · exact wp_if_pos c0 (wpAny_pure ⟨rfl, rfl, al'⟩)
    · refine wp_if_neg c0 (wpAny_bind (wpAny_eqIsQuiet_tuple x ?_))
      simp only [Bool.not_true, Bool.false_eq_true, if_false]
      refine wpAny_bind (wpAny_eqIsQuiet_tuple xd ?_)
      simp only [Bool.not_true, Bool.false_eq_true, if_false]
      refine wpAny_bind (noClass x ?_)
      simp only [Bool.false_eq_true, if_false]
      refine wpAny_bind (noClass xd ?_)
      simp only [Bool.false_eq_true, if_false]
      exact wpAny_pure ⟨rfl, rfl, al'⟩
  · rintro ⟨c1, c2⟩ t ⟨e, rfl, _⟩
    simp only at e
    subst e
    exact wpAny_pure q
/-! ### the set -/
abbrev Row := Addr × List Str
def entL (P : Program) (w : World) (L : List Row) : List (Int × Value) := L.map fun p => (hTxt P w p.2, Value.ref p.1)
abbrev hshL (P : Program) (w : World) (L : List Row) : List Int := L.map fun p => hTxt P w p.2
structure RSet (P : Program) (w : World) (h : Heap) (a : Addr) (L : List Row) (es : Array (Int × Value)) (ep : Nat) (t : SetTable) : Prop where
  obj : ∃ o, h.get? a = some o ∧ o.ExactSet ∧ o.data = .set es ep t
  ent : es.toList = entL P w L
  tab : L2.TabOk t (hshL P w L)
  nodup : (L.map Prod.snd).Nodup
  rows : ∀ p ∈ L, TxtAt P w h p.2 p.1
  room : L.length * 5 < t.mask * 3
  few : L.length ≤ 76
theorem ent_len {L : List Row} {es : Array (Int × Value)} (e : es.toList = entL P w L) : es.size = L.length := by
  have q := congrArg List.length e
  unfold entL at q
  rw [List.length_map, Array.length_toList] at q
  exact q
theorem ent_at {L : List Row} {es : Array (Int × Value)} (e : es.toList = entL P w L) {i : Nat} {p : Row} (h : L[i]? = some p) : es[i]? = some (hTxt P w p.2, Value.ref p.1) := by
  rw [← Array.getElem?_toList, e]
  unfold entL
  rw [List.getElem?_map, h]
  rfl
variable {a : Addr} {L : List Row} {es : Array (Int × Value)} {ep : Nat} {t : SetTable}
theorem fits_of (d : t.dummies = #[]) (z : t.place.size = es.size) (m : es.size ≤ t.mask) : t.fits es.size = true := by
  unfold SetTable.fits SetTable.fill
  rw [d, Bool.and_eq_true, beq_iff_eq, decide_eq_true_eq]
  show t.place.size = es.size ∧ t.place.size + 0 ≤ t.mask
  omega
theorem RSet.fits (R : RSet P w s.heap a L es ep t) : t.fits es.size = true := by
  have e1 := R.tab.sz
  have e2 := ent_len R.ent
  have e3 := R.room
  rw [List.length_map] at e1
  exact fits_of R.tab.dm (by omega) (by omega)
theorem RSet.stays (R : RSet P w s.heap a L es ep t) : ¬ t.gaveWay = true := by
  unfold SetTable.gaveWay
  rw [mask_odd R.tab.mok]
  decide
abbrev prb (t : SetTable) (g : Int) (c : Nat) : SetTable.Probe := nth t.mask (runAt t.mask (SetTable.bits g % (t.mask + 1)) (SetTable.bits g)) c
theorem no_dummy (m : Nat) : ∀ (n : Nat) (p : SetTable.Probe), p.dummy = none → (nth m p n).dummy = none
  | 0, _, e => e
  | n + 1, p, e => no_dummy m n (adv m p) (by unfold adv; split <;> exact e)
theorem look_from (R : RSet P w s.heap a L es ep t) {x : Addr} {k : List Str} (hx : TxtAt P w s.heap k x) (ru : A.units < cLine) {N : Nat} (nf : N < 10 * SetTable.turns t.mask)
    (free : way t.mask (hTxt P w k) N ∉ t.place.toList) (used : ∀ c, c < N → way t.mask (hTxt P w k) c ∈ t.place.toList) {Q : SetFound → Shared → Prop}
    (old : k ∈ L.map Prod.snd → Q (.there none) s) (new : k ∉ L.map Prod.snd → Q (.free (way t.mask (hTxt P w k) N) false) s) :
    ∀ (f c : Nat) (st : Option SetTable.Probe), st.getD (t.probeStart (hTxt P w k)) = prb t (hTxt P w k) c → c ≤ N → N - c < f →
      (∀ (i : Nat) p, L[i]? = some p → p.2 = k → ∃ c', c ≤ c' ∧ c' < N ∧ t.place.toList[i]? = some (way t.mask (hTxt P w k) c')) →
      wpAny (model P w) A (setSearchFrom a (.ref x) (hTxt P w k) true f st) Q E s
  | 0, c, st, _, _, hf, _ => absurd hf (Nat.not_lt_zero _)
  | f + 1, c, st, est, hc, hf, ahead => by
    obtain ⟨o, ho, exa, dat⟩ := R.obj
    generalize hg : hTxt P w k = g at *
    have step : ∀ q, nth t.mask (prb t g c) q = prb t g (c + q) := fun q => (nth_add t.mask c _ q).symm
    have stepj : ∀ q, (nth t.mask (prb t g c) q).j = way t.mask g (c + q) := fun q => congrArg SetTable.Probe.j (step q)
    have spec := go_spec t R.tab.ris R.tab.dm (fun i => (es[i]?.map (·.1)).getD 0) g (10 * SetTable.turns t.mask) (N - c) (prb t g c) (no_dummy t.mask c _ rfl) (by omega)
      (fun q hq => by rw [stepj]; exact used (c + q) (by omega)) (by rw [stepj, show c + (N - c) = N by omega]; exact free)
    have hat : ∀ (i : Nat) p, L[i]? = some p → p.2 = k → (fun i => (es[i]?.map (·.1)).getD 0) i = g := fun i p hp e => by
      show (es[i]?.map (·.1)).getD 0 = g
      rw [ent_at R.ent hp, ← hg, ← e]
      rfl
    rw [setSearchFrom_succ]
    refine wpAny_bind (wpAny_setState_of ho dat R.fits ?_)
    dsimp only
    refine wp_if_neg R.stays ?_
    try refine wpAny_bind (wpAny_pure ?_)
    rcases spec with ⟨q, i, hq, hi, _, passed, pr⟩ | ⟨passed, pr⟩
    · have pr' : t.probe (fun i => (es[i]?.map (·.1)).getD 0) g (st.getD (t.probeStart g)) = some (.candidate (way t.mask g (c + q)) i (prb t g (c + (q + 1)))) := by
        rw [est, ← stepj, ← step]
        exact pr
      rw [pr']
      dsimp only
      rw [stepj] at hi
      have il : i < L.length := by
        have z1 := (List.getElem?_eq_some_iff.mp hi).1
        have z2 := R.tab.sz
        rw [List.length_map] at z2
        rw [Array.length_toList] at z1
        omega
      obtain ⟨p, hp⟩ : ∃ p, L[i]? = some p := ⟨_, List.getElem?_eq_getElem il⟩
      have pm : p ∈ L := List.mem_of_getElem? hp
      have live : t.slot (way t.mask g (c + q)) = .live i := slot_live R.tab.ris hi
      have go : wpAny (model P w) A (searchRest a (.ref x) g true f es t (way t.mask g (c + q)) i (prb t g (c + (q + 1)))) Q E s := by
        unfold searchRest
        rw [ent_at R.ent hp]
        dsimp only
        refine wpAny_bind (wpAny_holding (wpAny_eqBool_tuple ru (R.rows p pm) hx ?_))
        refine wpAny_bind (wpAny_setState_of ho dat R.fits ?_)
        dsimp only
        by_cases same : p.2 = k
        · exact wp_if_pos (by simp [same]) (wpAny_pure (old (List.mem_map.mpr ⟨p, pm, same⟩)))
        · refine wp_if_neg (by simp [same]) ?_
          try refine wpAny_bind (wpAny_pure ?_)
          rw [sameMem]
          dsimp only
          simp only [if_true, live, ent_at R.ent hp]
          refine wpAny_bind (wpAny_isSame_ref_self (wpAny_bind (wpAny_pure ?_)))
          simp only [if_true]
          refine wp_if_neg (by simp [same]) ?_
          have rec_ := look_from R hx ru nf (by rw [hg]; exact free) (by rw [hg]; exact used) old (by rw [hg]; exact new) f (c + (q + 1)) (some (prb t g (c + (q + 1)))) (by rw [hg]; rfl) (by omega) (by omega)
          rw [hg] at rec_
          refine rec_ fun i0 p0 h0 e0 => ?_
          obtain ⟨c', a1, a2, a3⟩ := ahead i0 p0 h0 e0
          refine ⟨c', ?_, a2, a3⟩
          rcases Nat.lt_trichotomy c' (c + q) with z | z | z
          · exact absurd (hat i0 p0 h0 e0) (passed (c' - c) i0 (by omega) (by rw [stepj, show c + (c' - c) = c' by omega]; exact a3))
          · exfalso
            rw [z] at a3
            have l2 := slot_live R.tab.ris a3
            rw [live] at l2
            injection l2 with l2
            rw [← l2, hp] at h0
            exact same ((congrArg Prod.snd (Option.some.inj h0)).trans e0)
          · omega
      by_cases ld : t.led = true
      · refine wp_if_neg (by simp [ld]) ?_
        try refine wpAny_bind (wpAny_pure ?_)
        exact go
      · refine wp_if_pos (by simp [ld]) (wpAny_bind (unseen hx (fun v hv => ?_) ?_))
        · obtain ⟨e, he, rfl⟩ := List.mem_map.mp hv
          have m1 : e ∈ es.toList := by
            have : e ∈ es ∧ e.1 = g := by simpa using he
            simpa using this.1
          rw [R.ent] at m1
          obtain ⟨p2, m2, rfl⟩ := List.mem_map.mp m1
          exact ⟨p2.2, p2.1, rfl, R.rows p2 m2⟩
        · refine wp_if_neg (by decide) ?_
          try refine wpAny_bind (wpAny_pure ?_)
          exact go
    · have pr' : t.probe (fun i => (es[i]?.map (·.1)).getD 0) g (st.getD (t.probeStart g)) = some (.empty (way t.mask g N) none) := by
        have e2 := stepj (N - c)
        rw [show c + (N - c) = N by omega] at e2
        rw [est, ← e2]
        exact pr
      rw [pr']
      dsimp only
      refine wpAny_pure (new fun m => ?_)
      obtain ⟨p0, m0, e0⟩ := List.mem_map.mp m
      obtain ⟨i0, l0, q0⟩ := List.getElem_of_mem m0
      have h0 : L[i0]? = some p0 := by rw [List.getElem?_eq_getElem l0, q0]
      obtain ⟨c', a1, a2, a3⟩ := ahead i0 p0 h0 e0
      exact passed (c' - c) i0 (by omega) (by rw [stepj, show c + (c' - c) = c' by omega]; exact a3) (hat i0 p0 h0 e0)
theorem look_at (R : RSet P w s.heap a L es ep t) {x : Addr} {k : List Str} (hx : TxtAt P w s.heap k x) (ru : A.units < cLine) {Q : SetFound → Shared → Prop} (old : k ∈ L.map Prod.snd → Q (.there none) s)
    (new : ∀ N, k ∉ L.map Prod.snd → way t.mask (hTxt P w k) N ∉ t.place.toList → (∀ c, c < N → way t.mask (hTxt P w k) c ∈ t.place.toList) → Q (.free (way t.mask (hTxt P w k) N) false) s) :
    wpAny (model P w) A (setSearch a (.ref x) (hTxt P w k) true) Q E s := by
  have rm := R.room
  obtain ⟨N, nf, free, used⟩ := R.tab.first (by rw [List.length_map]; omega) (hTxt P w k)
  have big : 10 * SetTable.turns t.mask ≤ 1420 := by
    unfold SetTable.turns
    rcases R.tab.mok with e | e | e <;> omega
  unfold setSearch
  refine look_from R hx ru nf free used old (fun n => new N n free used) 100000 0 none rfl (Nat.zero_le _) (by omega) fun i p hp e => ?_
  have hh : (hshL P w L)[i]? = some (hTxt P w k) := by
    rw [List.getElem?_map, hp, ← e]
    rfl
  have il : i < t.place.toList.length := by
    have z1 := (List.getElem?_eq_some_iff.mp hp).1
    have z2 := R.tab.sz
    rw [List.length_map] at z2
    rw [Array.length_toList]
    omega
  have hj := List.getElem?_eq_getElem il
  obtain ⟨c, lt, e3⟩ := R.tab.before free hh hj
  exact ⟨c, Nat.zero_le _, lt, by rw [hj, e3]⟩
/-! ### adding -/
theorem txt_other {h h' : Heap} {k : List Str} {b : Addr} {o : Obj} (x : TxtAt P w h k b) (ho : h.get? a = some o) (dat : o.data = .set es ep t) (sb : Heap.SameBut a h h') : TxtAt P w h' k b := by
  obtain ⟨ob, its, m, h1, h2, h3, h4⟩ := x
  refine ⟨ob, its, m, (sb.2 b ?_).trans h1, h2, h3, h4⟩
  rintro rfl
  cases Option.some.inj (h1.symm.trans ho)
  rw [dat] at h3
  cases h3
theorem ent_put (L : List Row) (n : Nat) (x : Addr) (k : List Str) : entL P w (L.take n ++ (x, k) :: L.drop n) = (entL P w L).take n ++ (hTxt P w k, Value.ref x) :: (entL P w L).drop n := by
  unfold entL
  rw [List.map_append, List.map_cons, List.map_take, List.map_drop]
theorem pick_range {α : Type} (L : List α) : (List.range L.length).filterMap (fun i => L[i]?) = L := by
  have key : ∀ n, n ≤ L.length → (List.range n).filterMap (fun i => L[i]?) = L.take n := by
    intro n
    induction n with
    | zero => exact fun _ => rfl
    | succ n ih =>
      intro hn
      have lt : n < L.length := hn
      rw [List.range_succ, List.filterMap_append, ih (Nat.le_of_lt lt), List.take_succ, List.getElem?_eq_getElem lt, List.filterMap_cons_some (List.getElem?_eq_getElem lt)]
      rfl
  rw [key _ (Nat.le_refl _), List.take_length]
theorem ent_pick (e : es.toList = entL P w L) : ∀ (ix : List Nat), (∀ i ∈ ix, i < L.length) → ix.filterMap (fun i => es[i]?) = entL P w (ix.filterMap fun i => L[i]?) ∧ hshL P w (ix.filterMap fun i => L[i]?) = ix.map fun i => (es.map (·.1)).getD i 0
  | [], _ => ⟨rfl, rfl⟩
  | i :: ix, h => by
    have il := h i List.mem_cons_self
    obtain ⟨h1, h2⟩ := ent_pick e ix fun j hj => h j (List.mem_cons_of_mem _ hj)
    have ea := ent_at e (List.getElem?_eq_getElem il)
    refine ⟨?_, ?_⟩
    · rw [List.filterMap_cons_some ea, List.filterMap_cons_some (List.getElem?_eq_getElem il), h1]
      rfl
    · rw [List.filterMap_cons_some (List.getElem?_eq_getElem il), List.map_cons, ← h2]
      show hTxt P w (L[i]).2 :: _ = _
      congr 1
      have e5 : (es.map (·.1))[i]? = some (hTxt P w (L[i]).2) := by
        rw [Array.getElem?_map, ea]
        rfl
      simp [Array.getD_eq_getD_getElem?, e5]
theorem grow_at {o : Obj} (ho : s.heap.get? a = some o) (exa : o.ExactSet) (dat : o.data = .set es ep t) (en : es.toList = entL P w L) (sz : t.place.size = es.size) (dm : t.dummies = #[]) (fl : es.size ≤ t.mask)
    (nd : (L.map Prod.snd).Nodup) (rows : ∀ p ∈ L, TxtAt P w s.heap p.2 p.1) (few : L.length ≤ 76) {want M : Nat}
    (hw : SetTable.sizeAbove want - 1 = M) (hM : MaskOk M) (h128 : SetTable.sizeAbove want ≤ 128) (rm : L.length * 5 < M * 3) {Q : Unit → Shared → Prop}
    (q : ∀ h' L' es' ep' t', Heap.SameBut a s.heap h' → RSet P w h' a L' es' ep' t' → L'.Perm L → Q () { s with heap := h' }) : wpAny (model P w) A (setRelay a want) Q E s := by
  have el := ent_len en
  obtain ⟨t', ix, e, pm, T, em, _, _, _⟩ := relaid_ok t (hs := es.map (·.1)) (wanted := want) hw hM (by rw [Array.size_map, el]; omega)
  rw [Array.size_map, el] at pm
  obtain ⟨g1, g2⟩ := ent_pick en ix.toList fun i hi => List.mem_range.mp (pm.mem_iff.mp hi)
  have pL : (ix.toList.filterMap fun i => L[i]?).Perm L := by
    have := pm.filterMap fun i => L[i]?
    rw [pick_range] at this
    exact this
  rw [← g2] at T
  generalize ix.toList.filterMap (fun i => L[i]?) = L2 at g1 g2 pL T
  have g1' : (ix.filterMap (es[·]?)).toList = entL P w L2 := by first | (rw [Array.toList_filterMap]; exact g1) | simpa using g1
  have s2 : (ix.filterMap (es[·]?)).size = es.size := by rw [ent_len g1', pL.length_eq, el]
  rw [setRelay_eq]
  refine wpAny_bind (wpAny_setState_of ho dat (fits_of dm sz fl) ?_)
  dsimp only
  refine wp_if_neg (by rw [sizeLine_eq]; omega) ?_
  try refine wpAny_bind (wpAny_pure ?_)
  rw [e]
  dsimp only
  refine wpAny_bind ?_
  refine wp_if_neg (by rw [s2]; simp) ?_
  try refine wpAny_bind (wpAny_pure ?_)
  refine wpAny_pure ?_
  dsimp only
  refine wpAny_storeSet_of ho dat ?_ (by rw [s2, el, sizeLine_eq]; omega)
  have sb : Heap.SameBut a s.heap (s.heap.update a (Obj.putSet (ix.filterMap (es[·]?)) t')) := Heap.SameBut.update ..
  exact q _ L2 _ (ep + 1) t' sb ⟨⟨_, store_at ho dat, ⟨exa.1, exa.2.1, exa.2.2⟩, rfl⟩, g1', T, (pL.map _).nodup_iff.mpr nd, fun p hp => txt_other (rows p (pL.mem_iff.mp hp)) ho dat sb, by rw [pL.length_eq, em]; exact rm, by rw [pL.length_eq]; exact few⟩ pL
/-- what follows when a row's place is known -/
theorem row_put (R : RSet P w s.heap a L es ep t) {o : Obj} (ho : s.heap.get? a = some o) (exa : o.ExactSet) (dat : o.data = .set es ep t) {x : Addr} {k : List Str} (hx : TxtAt P w s.heap k x) (few : L.length + 1 ≤ 76) (new : k ∉ L.map Prod.snd) {n : Nat} {t1 : SetTable}
    (v3 : L2.TabOk t1 ((hshL P w L).take n ++ hTxt P w k :: (hshL P w L).drop n)) (v4 : t1.mask = t.mask) (v9 : t1.fill = (hshL P w L).length + 1) {Q : Bool → Shared → Prop}
    (q : ∀ b h' L' es' ep' t', Heap.SameBut a s.heap h' → RSet P w h' a L' es' ep' t' → (k ∈ L.map Prod.snd → L' = L) → (k ∉ L.map Prod.snd → L'.Perm ((x, k) :: L)) → Q b { s with heap := h' }) :
    wpAny (model P w) A (do
      storeSet a (SetTable.insertAt es n (hTxt P w k, Value.ref x)) t1
      if !false && t1.tooFull then setRelay a (SetTable.grown (es.size + 1))
      return true) Q E s := by
  have el := ent_len R.ent
  have rm := R.room
  have en1 : (SetTable.insertAt es n (hTxt P w k, Value.ref x)).toList = entL P w (L.take n ++ (x, k) :: L.drop n) := by
    rw [SetTable.toList_insertAt, ent_put, R.ent]
  have hs1 : hshL P w (L.take n ++ (x, k) :: L.drop n) = (hshL P w L).take n ++ hTxt P w k :: (hshL P w L).drop n := by
    show List.map _ _ = _
    rw [List.map_append, List.map_cons, List.map_take, List.map_drop]
  rw [← hs1] at v3
  have pm := put_perm L n (x, k)
  have ln : (L.take n ++ (x, k) :: L.drop n).length = L.length + 1 := pm.length_eq
  have nd1 : ((L.take n ++ (x, k) :: L.drop n).map Prod.snd).Nodup := (pm.map _).nodup_iff.mpr (by rw [List.map_cons]; exact List.nodup_cons.mpr ⟨new, R.nodup⟩)
  have el1 := ent_len en1
  rw [ln] at el1
  generalize SetTable.insertAt es n (hTxt P w k, Value.ref x) = es1 at en1 el1 ⊢
  generalize L.take n ++ (x, k) :: L.drop n = L1 at pm ln v3 nd1 en1 hs1
  refine wpAny_bind (wpAny_storeSet_of ho dat ?_ (by rw [el1, sizeLine_eq]; omega))
  have sb : Heap.SameBut a s.heap (s.heap.update a (Obj.putSet es1 t1)) := Heap.SameBut.update ..
  have ho1 := store_at (es' := es1) (t' := t1) ho dat
  generalize s.heap.update a (Obj.putSet es1 t1) = h1 at sb ho1 ⊢
  have rows1 : ∀ p ∈ L1, TxtAt P w h1 p.2 p.1 := fun p hp => by
    rcases List.mem_cons.mp (pm.mem_iff.mp hp) with rfl | hp
    · exact txt_other hx ho dat sb
    · exact txt_other (R.rows p hp) ho dat sb
  have full_iff : t1.tooFull = true ↔ (L.length + 1) * 5 ≥ t1.mask * 3 := by
    unfold SetTable.tooFull
    rw [decide_eq_true_eq, v9, List.length_map]
  have sz1 : t1.place.size = es1.size := by
    have z := v3.sz
    rw [List.length_map, ln] at z
    omega
  by_cases full : t1.tooFull = true
  · first
      | (refine wpAny_bind ?_; refine wp_if_pos (by simp [full]) ?_)
      | (refine wp_if_pos (by simp [full]) ?_; refine wpAny_bind ?_)
    have ge := full_iff.mp full
    rw [v4] at ge
    rw [el]
    have go : ∀ M, SetTable.sizeAbove (SetTable.grown (L.length + 1)) - 1 = M → MaskOk M → SetTable.sizeAbove (SetTable.grown (L.length + 1)) ≤ 128 → (L.length + 1) * 5 < M * 3 → L.length + 1 ≤ t.mask →
        wpAny (model P w) A (setRelay a (SetTable.grown (L.length + 1))) (fun _ s' => wpAny (model P w) A (pure true) Q E s') E { s with heap := h1 } := fun M z1 z2 z3 z4 z5 =>
      grow_at (s := { s with heap := h1 }) ho1 ⟨exa.1, exa.2.1, exa.2.2⟩ rfl en1 sz1 v3.dm (by rw [el1, v4]; exact z5) nd1 rows1 (by rw [ln]; exact few) z1 z2 z3 (by rw [ln]; exact z4) fun h2 L2 es2 ep2 t2 sb2 R2 pm2 =>
        wpAny_pure (q true h2 L2 es2 ep2 t2 (sb.trans sb2) R2 (fun z => absurd z new) fun _ => pm2.trans pm)
    rcases R.tab.mok with e | e | e
    · rw [e] at ge rm
      have e4 : L.length = 4 := by omega
      exact go 31 (by rw [e4, size_20]) (.inr (.inl rfl)) (by rw [e4, size_20]; decide) (by omega) (by omega)
    · rw [e] at ge rm
      have e4 : L.length = 18 := by omega
      exact go 127 (by rw [e4, size_76]) (.inr (.inr rfl)) (by rw [e4, size_76]; decide) (by omega) (by omega)
    · rw [e] at ge
      omega
  · first
      | refine wp_if_neg (by simp [full]) ?_
      | (refine wpAny_bind ?_; refine wp_if_neg (by simp [full]) ?_; refine wpAny_pure ?_)
    refine wpAny_pure (q true h1 L1 es1 (ep + 1) t1 sb ⟨⟨_, ho1, ⟨exa.1, exa.2.1, exa.2.2⟩, rfl⟩, en1, v3, nd1, rows1, ?_, by rw [ln]; exact few⟩ (fun z => absurd z new) fun _ => pm)
    have := mt full_iff.mpr full
    rw [ln]
    omega
theorem row_add (R : RSet P w s.heap a L es ep t) {x : Addr} {k : List Str} (hx : TxtAt P w s.heap k x) (ru : A.units < cLine) (few : L.length + 1 ≤ 76) {Q : Bool → Shared → Prop}
    (q : ∀ b h' L' es' ep' t', Heap.SameBut a s.heap h' → RSet P w h' a L' es' ep' t' → (k ∈ L.map Prod.snd → L' = L) → (k ∉ L.map Prod.snd → L'.Perm ((x, k) :: L)) → Q b { s with heap := h' }) :
    wpAny (model P w) A (setAddHashed a (.ref x) (hTxt P w k)) Q E s := by
  obtain ⟨o, ho, exa, dat⟩ := R.obj
  unfold setAddHashed
  refine wpAny_holding ?_
  rw [show (100000 : Nat) = 99999 + 1 from rfl, setAddHashedIn_succ]
  refine wpAny_bind (wpAny_setState_of ho dat R.fits ?_)
  dsimp only
  refine wp_if_neg (by simp [byScan, Value.scannable]) ?_
  try refine wpAny_bind (wpAny_pure ?_)
  refine wpAny_bind (look_at R hx ru (fun old => ?_) fun N new free used => ?_)
  · dsimp only
    exact wpAny_pure (q false s.heap L es ep t (Heap.SameBut.refl a s.heap) R (fun _ => rfl) fun z => absurd old z)
  · dsimp only
    refine wpAny_bind (wpAny_setState_of ho dat R.fits ?_)
    dsimp only
    obtain ⟨u1, u2, u3, u4, _, _, _, _, u9⟩ := R.tab.put free used
    generalize hpt : t.put (way t.mask (hTxt P w k) N) = pt at u1 u3 u4 u9 ⊢
    obtain ⟨t0, n⟩ := pt
    dsimp only at u1 u3 u4 u9 ⊢
    subst u1
    have v4 : ∀ c : Bool, (if c = true then t0 else { t0 with plain := false }).mask = t.mask := fun c => by cases c <;> exact u4
    have v9 : ∀ c : Bool, (if c = true then t0 else { t0 with plain := false }).fill = (hshL P w L).length + 1 := fun c => by cases c <;> exact u9
    by_cases pl : t0.plain = true
    · first
        | refine wp_if_pos pl (wpAny_bind (byVal hx fun c => ?_))
        | (refine wpAny_bind ?_; refine wp_if_pos pl (byVal hx fun c => ?_))
      exact row_put R ho exa dat hx few new (tab_not u3 c) (v4 c) (v9 c) q
    · first
        | refine wp_if_neg pl (wpAny_bind (wpAny_pure ?_))
        | (refine wpAny_bind ?_; refine wp_if_neg pl (wpAny_pure ?_))
      exact row_put R ho exa dat hx few new (tab_not u3 true) (v4 true) (v9 true) q
end
end Ft
/-! FtRows2: set(rows) of a list of tuples of texts. -/
namespace Ft
open PySem PySem.Spec PyProof.Rows L2
/-- the set holds the keys of these rows, each once -/
structure Had (ks L : List Row) : Prop where
  sub : ∀ p ∈ L, p ∈ ks
  all : ∀ p ∈ ks, p.2 ∈ L.map Prod.snd
  len : L.length ≤ ks.length
theorem had_nil (ks : List Row) : Had (ks.take 0) [] := ⟨(fun _ m => by cases m), (fun _ m => by simp at m), by simp⟩
theorem take_one {α : Type} {l : List α} {i : Nat} {x : α} (h : l[i]? = some x) : l.take (i + 1) = l.take i ++ [x] := by rw [List.take_succ, h]; rfl
theorem Had.old {ks L : List Row} {i : Nat} {x : Row} (g : Had (ks.take i) L) (h : ks[i]? = some x) (m : x.2 ∈ L.map Prod.snd) : Had (ks.take (i + 1)) L := by
  rw [take_one h]
  refine ⟨fun p hp => List.mem_append_left _ (g.sub p hp), fun p hp => ?_, ?_⟩
  · rcases List.mem_append.mp hp with q | q
    · exact g.all p q
    · rw [List.mem_singleton.mp q]
      exact m
  · rw [List.length_append]
    exact Nat.le_trans g.len (Nat.le_add_right _ _)
theorem Had.new {ks L L' : List Row} {i : Nat} {x : Row} (g : Had (ks.take i) L) (h : ks[i]? = some x) (pm : L'.Perm (x :: L)) : Had (ks.take (i + 1)) L' := by
  rw [take_one h]
  refine ⟨fun p hp => ?_, fun p hp => ?_, ?_⟩
  · rcases List.mem_cons.mp (pm.mem_iff.mp hp) with rfl | q
    · exact List.mem_append_right _ List.mem_cons_self
    · exact List.mem_append_left _ (g.sub p q)
  · refine (pm.map Prod.snd).mem_iff.mpr ?_
    rw [List.map_cons]
    rcases List.mem_append.mp hp with q | q
    · exact List.mem_cons_of_mem _ (g.all p q)
    · rw [List.mem_singleton.mp q]
      exact List.mem_cons_self
  · rw [pm.length_eq, List.length_append, List.length_cons]
    exact Nat.succ_le_succ g.len
section
variable {prog : Program} {w : World} {A : Around} {E : Value → Shared → Prop} {s : Shared}
theorem txt_keep {h h' : Heap} {k : List Str} {b : Addr} (x : TxtAt prog w h k b) (kp : ∀ c o, h.get? c = some o → h'.get? c = some o) : TxtAt prog w h' k b := by
  obtain ⟨ob, its, m, h1, r⟩ := x
  exact ⟨ob, its, m, kp b ob h1, r⟩
theorem RSet.keep {h h' : Heap} {a : Addr} {L : List Row} {es : Array (Int × Value)} {ep : Nat} {t : SetTable} (R : RSet prog w h a L es ep t) (ka : ∀ o, h.get? a = some o → h'.get? a = some o) (kr : ∀ p ∈ L, TxtAt prog w h' p.2 p.1) : RSet prog w h' a L es ep t := by
  obtain ⟨o, ho, r⟩ := R.obj
  exact ⟨⟨o, ka o ho, r⟩, R.ent, R.tab, R.nodup, kr, R.room, R.few⟩
theorem rset_new {h : Heap} {a : Addr} {led : Bool} (ho : h.get? a = some { cls := .type "set", dict := none, data := .set #[] 0 (.fresh 0 0 led) }) : RSet prog w h a [] #[] 0 (.fresh 0 0 led) where
  obj := ⟨_, ho, ⟨rfl, rfl, rfl⟩, rfl⟩
  ent := rfl
  tab := ⟨List.Pairwise.nil, rfl, rfl, .inl rfl, (fun x m => by cases m), fun i g j e => by simp at e⟩
  nodup := List.nodup_nil
  rows := fun p m => by cases m
  room := by show 0 * 5 < 7 * 3; decide
  few := Nat.zero_le _
theorem rows_loop {R : Result → Shared → Prop} {I : Addr} {fp wr : List Addr} {G : Array GenState → Array GenState → Prop} {n : Nat} {Pv : Nat → Value → Prop} {St : Nat → Shared → Prop}
    (W : WalksS prog w A.in1 I fp wr G n Pv St) (S : Addr) (hSf : S ∉ fp) (ks : List Row) (hn : n = ks.length) (few : ks.length ≤ 75) (hval : ∀ i v, Pv i v → ∃ p, ks[i]? = some p ∧ v = .ref p.1)
    (h0 : Heap) (hk : ∀ p ∈ ks, TxtAt prog w h0 p.2 p.1) (hS0 : h0.get? S = none) (hw0 : ∀ b ∈ wr, h0.get? b = none) (ru : A.in1.units < cLine) :
    ∀ (d i : Nat) (s : Shared), n - i = d → i ≤ n → St i s → (∀ b o, h0.get? b = some o → s.heap.get? b = some o) → (∃ L es ep t, RSet prog w s.heap S L es ep t ∧ Had (ks.take i) L) →
      (∀ s' L es ep t, Moved (S :: wr) G s s' → RSet prog w s'.heap S L es ep t → Had (ks.take n) L → (∀ b o, h0.get? b = some o → s'.heap.get? b = some o) → R (.ok (.ret .none)) s') →
      codeAny (model prog w) A (.builtin "set.update.loop" ⟨[.ref S, .ref I], []⟩) R s := by
  have hSw : S ∉ wr := fun h => hSf (W.sub _ h)
  have wide : ∀ b ∈ wr, b ∈ S :: wr := fun b hb => List.mem_cons_of_mem _ hb
  have kept : ∀ {s s' : Shared}, Moved wr G s s' → (∀ b o, h0.get? b = some o → s.heap.get? b = some o) → ∀ b o, h0.get? b = some o → s'.heap.get? b = some o := fun mv kp b o e =>
    mv.heap b o (fun hb => by rw [hw0 b hb] at e; cases e) (kp b o e)
  intro d
  induction d with
  | zero =>
    intro i s hd hi hst kp ⟨L, es, ep, t, hS, g⟩ fin
    obtain rfl : i = n := by omega
    refine codeAny_builtin PyProof.Rows.F.entry_set_update_loop ?_
    rw [Around.under_plainId PyProof.Rows.F.plain_set_update_loop _]
    show wpAny _ A.in1 (pyNext (.ref I) >>= _) _ _ s
    refine wpAny_bind (W.done s _ _ hst fun s' mv => ?_)
    show wpAny _ A.in1 (ret Value.none) _ _ s'
    have kp' := kept mv kp
    exact wpAny_pure (fin s' L es ep t (mv.mono wide) (hS.keep (fun o e => mv.heap S o hSw e) fun p hp => txt_keep (hk p (List.mem_of_mem_take (g.sub p hp))) kp') g kp')
  | succ d ih =>
    intro i s hd hi hst kp ⟨L, es, ep, t, hS, g⟩ fin
    have lt : i < n := by omega
    refine codeAny_builtin PyProof.Rows.F.entry_set_update_loop ?_
    rw [Around.under_plainId PyProof.Rows.F.plain_set_update_loop _]
    show wpAny _ A.in1 (pyNext (.ref I) >>= _) _ _ s
    refine wpAny_bind (W.item i s _ _ lt hst fun v s' hP hst' mv => ?_)
    obtain ⟨p, hp, rfl⟩ := hval i v hP
    have kp' := kept mv kp
    have hS' : RSet prog w s'.heap S L es ep t := hS.keep (fun o e => mv.heap S o hSw e) fun q hq => txt_keep (hk q (List.mem_of_mem_take (g.sub q hq))) kp'
    have hx : TxtAt prog w s'.heap p.2 p.1 := txt_keep (hk p (List.mem_of_getElem? hp)) kp'
    show wpAny _ A.in1 (holding [Value.ref p.1] (setAdd S (.ref p.1)) >>= _) _ _ s'
    refine wpAny_bind (wpAny_holding ?_)
    unfold setAdd
    refine wpAny_holding ?_
    refine wpAny_bind (wpAny_pyHash_tuple ru hx ?_)
    refine row_add (s := { s' with toks := s'.toks + (p.2.length + 1) }) hS' hx ru (by
      have z := g.len
      rw [List.length_take] at z
      omega) fun b h' L' es' ep' t' sb hS2 c1 c2 => ?_
    have g' : Had (ks.take (i + 1)) L' := by
      by_cases c : p.2 ∈ L.map Prod.snd
      · rw [c1 c]
        exact g.old hp c
      · exact g.new hp (c2 c)
    have kp2 : ∀ b o, h0.get? b = some o → h'.get? b = some o := fun b o e => (sb.2 b (fun z => by rw [z, hS0] at e; cases e)).trans (kp' b o e)
    refine wpAny_pure ⟨plainId_quiet PyProof.Rows.F.plain_set_update_loop _, ih (i + 1) _ (by omega) lt (W.frame _ s' _ _ hst' (Nat.le_add_right _ _) fun b hb o e => ?_) kp2 ⟨L', es', ep', t', hS2, g'⟩ fun s'' L2 es2 ep2 t2 mv2 hS3 g2 kp3 => ?_⟩
    · rw [sb.2 b (fun z : b = S => hSf (by rw [← z]; exact hb))]
      exact e
    · refine fin s'' L2 es2 ep2 t2 (Moved.trans W.gtrans ((mv.mono wide).then_heap (Nat.le_add_right _ _) fun b o hb e => ?_) mv2) hS3 g2 kp3
      rw [sb.2 b (fun z : b = S => hb (by rw [z]; exact List.mem_cons_self))]
      exact e
set_option maxHeartbeats 3200000 in
theorem call_set_rows {l : Addr} {items : Array Value} (ks : List Row) {Q : Value → Shared → Prop}
    (hh : A.handled = none) (hl : s.heap.IsList l items) (hit : items.toList = ks.map fun p => Value.ref p.1) (hk : ∀ p ∈ ks, TxtAt prog w s.heap p.2 p.1) (few : ks.length ≤ 75) (ru : A.units + 3 < cLine)
    (h : ∀ (h' : Heap) (tk : Nat) (L : List Row) (es : Array (Int × Value)) (ep : Nat) (t : SetTable), RSet prog w h' s.heap.objs.size L es ep t → Had ks L →
      (∀ b o, b < s.heap.objs.size → s.heap.get? b = some o → h'.get? b = some o) → Q (.ref s.heap.objs.size) { s with heap := h', toks := tk }) :
    wpAny (model prog w) A (call (.type "set") [.ref l]) Q E s := by
  obtain ⟨c, tl, hmro⟩ := PySem.F.called_set.mro
  have hmade := PySem.F.called_set.made
  have hsub := PySem.F.called_set.sub
  refine wpAny_call (codeAny_of_tree ?_)
  show wpAny _ _ (callAny (.type "set") _) _ _ _
  refine wpAny_pure ⟨Code.quiet_builtin _ (by decide +kernel), codeAny_builtin PySem.F.entry_type_call ?_⟩
  rw [Around.under_plain (weight_type_call_type "set" [.ref l] []) rfl]
  have h1 := PySem.F.called_set.notType
  have h2 := PySem.F.called_set.canCreate
  have hct := PySem.F.typeCall_set_1 (.ref l)
  repeat (any_goals (first | assumption | wp_step))
  refine codeAny_mono (code_set_new_1 (.ref l) (E := E) (Q₁ := fun obj s₁ => ∃ led : Bool, obj = .ref s.heap.objs.size ∧ s₁ = { s with heap := s.heap.push { cls := .type "set", dict := none, data := .set #[] 0 (.fresh 0 0 led) } }) fun led => ⟨led, rfl, rfl⟩) fun r s₁ hr => ?_
  cases r with
  | error e => exact hr
  | ok fl =>
    cases fl with
    | ret obj =>
      obtain ⟨led, rfl, rfl⟩ := hr
      have hS : (s.heap.push { cls := .type "set", dict := none, data := .set #[] 0 (.fresh 0 0 led) }).get? s.heap.objs.size = some { cls := .type "set", dict := none, data := .set #[] 0 (.fresh 0 0 led) } := Heap.get?_push_size _ rfl
      have hT : Shared.TypeIs { s with heap := s.heap.push { cls := .type "set", dict := none, data := .set #[] 0 (.fresh 0 0 led) } } (.ref s.heap.objs.size) "set" := ⟨_, hS, rfl⟩
      have hli := PySem.F.called_set.init.lookup
      have hbi := PySem.F.called_set.init.bind (.ref s.heap.objs.size)
      repeat (any_goals (first | assumption | wp_step))
      refine codeAny_mono (codeAny_call_builtin (R := wants (fun r s₂ => r = .none ∧ ∃ h' tk L es ep t, s₂ = { s with heap := h', toks := tk } ∧ RSet prog w h' s.heap.objs.size L es ep t ∧ Had ks L ∧
          (∀ b o, b < s.heap.objs.size → s.heap.get? b = some o → h'.get? b = some o)) E) PySem.F.called_set.init.plain PySem.F.entry_set_init (check_set_init_1 hT ?_)) fun r₂ s₂ hr₂ => ?_
      · obtain ⟨ol, hol, hcl, nl, hdl⟩ := hl
        obtain ⟨ocls, odict, odata, oslots⟩ := ol
        simp only at hcl hdl
        subst hcl; subst hdl
        have hol' : (s.heap.push { cls := .type "set", dict := none, data := .set #[] 0 (.fresh 0 0 led) }).get? l = some { cls := .type "list", dict := odict, data := .seq items nl, slots := oslots } := Heap.get?_push_of_some _ hol
        have hsls := PySem.F.sub_list_set
        have hslf := PySem.F.sub_list_frozenset
        have hne : (Value.type "list" == Value.type "dict") = false := by decide
        have hl1 : (s.heap.push { cls := .type "set", dict := none, data := .set #[] 0 (.fresh 0 0 led) }).IsList l items := ⟨_, hol', rfl, nl, rfl⟩
        unfold Builtin.«set.__init__» noKeywords Builtin.Frozenset.updateFrom
        generalize hPI : pyIter = PI
        wp_walk
        subst hPI
        refine wpAny_pyIter_list hl1 ?_
        refine wpAny_bind (wpAny_runValue ?_)
        have hlS : l < s.heap.objs.size := Heap.lt_size hol
        have hh3 : A.in1.in1.in1.handled = none := by simp [hh]
        have hneI : l ≠ (s.heap.push { cls := .type "set", dict := none, data := .set #[] 0 (.fresh 0 0 led) }).objs.size := by
          rw [Heap.size_push]; exact Nat.ne_of_lt (Nat.lt_succ_of_lt hlS)
        have hSf : s.heap.objs.size ∉ [(s.heap.push { cls := .type "set", dict := none, data := .set #[] 0 (.fresh 0 0 led) }).objs.size, l] := by
          rw [Heap.size_push]; simp only [List.mem_cons, List.mem_singleton, List.not_mem_nil, or_false, not_or]
          exact ⟨Nat.ne_of_lt (Nat.lt_succ_self _), Nat.ne_of_gt hlS⟩
        have hsz : items.size = ks.length := by
          have z := congrArg List.length hit
          rw [Array.length_toList, List.length_map] at z
          exact z
        have hval : ∀ (i : Nat) (v : Value), items[i]? = some v → ∃ p, ks[i]? = some p ∧ v = .ref p.1 := fun i v hv => by
          rw [← Array.getElem?_toList, hit, List.getElem?_map] at hv
          obtain ⟨p, hp, e⟩ := Option.map_eq_some_iff.mp hv
          exact ⟨p, hp, e.symm⟩
        have gone : ∀ b, s.heap.objs.size ≤ b → s.heap.get? b = none := fun b hb => by
          cases z : s.heap.get? b with
          | none => rfl
          | some o => exact absurd (Heap.lt_size z) (Nat.not_lt.mpr hb)
        refine rows_loop ((Walks.list hh3 _ l hneI items).toS) s.heap.objs.size hSf ks hsz few hval s.heap hk (gone _ (Nat.le_refl _)) (fun b hb => gone b (by
            rw [List.mem_singleton.mp hb, Heap.size_push]
            exact Nat.le_succ _)) ru (items.size - 0) 0 _ (by omega) (Nat.zero_le _)
          ⟨⟨_, Heap.get?_push_size _ rfl, rfl, rfl⟩, (hl1.push _)⟩ (fun b o e => Heap.get?_push_of_some _ (Heap.get?_push_of_some _ e)) ?hS0 ?hR
        case hS0 =>
          have hget : ((s.heap.push { cls := .type "set", dict := none, data := .set #[] 0 (.fresh 0 0 led) }).push { cls := .type "list_iterator", data := .fields #[.ref l, .int 0 0] }).get? s.heap.objs.size
              = some { cls := .type "set", dict := none, data := .set #[] 0 (.fresh 0 0 led) } := Heap.get?_push_of_some _ hS
          exact ⟨[], #[], 0, _, rset_new hget, had_nil ks⟩
        case hR =>
          intro s' L es ep t hm hS' g2 _
          obtain ⟨h', g', d', tk', os'⟩ := s'
          have eg : g' = s.gens := hm.gens
          have ed : d' = s.drawn := hm.drawn
          have eo : os' = s.os := hm.os
          subst eg; subst ed; subst eo
          rw [hsz, List.take_length] at g2
          show wpAny _ _ _ _ _ _
          refine wpAny_pure ?_
          show wpAny _ _ (ret Value.none) _ _ _
          refine wpAny_pure ⟨rfl, h', tk', L, es, ep, t, rfl, hS', g2, fun b o hb e => ?_⟩
          have hb1 : b ≠ s.heap.objs.size := Nat.ne_of_lt hb
          have hb2 : b ≠ (s.heap.push { cls := .type "set", dict := none, data := .set #[] 0 (.fresh 0 0 led) }).objs.size := by
            rw [Heap.size_push]; exact Nat.ne_of_lt (Nat.lt_succ_of_lt hb)
          exact hm.heap b o (by simp only [List.mem_cons, List.mem_singleton, List.not_mem_nil, or_false, not_or]; exact ⟨hb1, hb2⟩) (Heap.get?_push_of_some _ (Heap.get?_push_of_some _ e))
      · cases r₂ with
        | error e => exact hr₂
        | ok fl₂ =>
          cases fl₂ with
          | ret r =>
            obtain ⟨rfl, h', tk, L, es, ep, t, rfl, hS', g2, hk'⟩ := hr₂
            repeat (any_goals (first | assumption | wp_step))
            exact h _ _ _ _ _ _ hS' g2 hk'
          | _ => exact hr₂.elim
    | _ => exact hr.elim
end
end Ft
/-! FtLenSet: len(set(x)) of a tuple or a list. -/
namespace Ft
open PySem PySem.Spec PyProof.Rows L2
/-! ### how many different rows -/
def dupR : List (List Str) → List (List Str)
  | [] => []
  | k :: r => if k ∈ r then dupR r else k :: dupR r
theorem dup_len : ∀ l : List (List Str), (dupR l).length = cntR l
  | [] => rfl
  | k :: r => by
    unfold dupR cntR
    by_cases h : k ∈ r
    · rw [if_pos h, if_pos h, dup_len r]
    · rw [if_neg h, if_neg h, List.length_cons, dup_len r]
theorem dup_mem : ∀ (l : List (List Str)) (x : List Str), x ∈ dupR l ↔ x ∈ l
  | [], x => Iff.rfl
  | k :: r, x => by
    unfold dupR
    by_cases h : k ∈ r
    · rw [if_pos h, dup_mem r x, List.mem_cons]
      exact ⟨.inr, fun z => z.elim (fun e => e ▸ h) id⟩
    · rw [if_neg h, List.mem_cons, List.mem_cons, dup_mem r x]
theorem dup_nodup : ∀ l : List (List Str), (dupR l).Nodup
  | [] => List.nodup_nil
  | k :: r => by
    unfold dupR
    by_cases h : k ∈ r
    · rw [if_pos h]
      exact dup_nodup r
    · rw [if_neg h]
      exact List.nodup_cons.mpr ⟨fun z => h ((dup_mem r k).mp z), dup_nodup r⟩
theorem cnt_le : ∀ l : List (List Str), cntR l ≤ l.length
  | [] => Nat.le_refl _
  | k :: r => by
    have := cnt_le r
    unfold cntR
    rw [List.length_cons]
    split <;> omega
theorem had_cnt {ks L : List Row} (g : Had ks L) (nd : (L.map Prod.snd).Nodup) : L.length = cntR (ks.map Prod.snd) := by
  have pm : (L.map Prod.snd).Perm (dupR (ks.map Prod.snd)) := (List.perm_ext_iff_of_nodup nd (dup_nodup _)).mpr fun x => by
    rw [dup_mem]
    constructor
    · intro h
      obtain ⟨p, hp, rfl⟩ := List.mem_map.mp h
      exact List.mem_map.mpr ⟨p, g.sub p hp, rfl⟩
    · intro h
      obtain ⟨p, hp, rfl⟩ := List.mem_map.mp h
      exact g.all p hp
  have := pm.length_eq
  rw [List.length_map, dup_len] at this
  exact this
/-! ### the rule -/
section
variable {X : Cx}
theorem strs_items {P : Program} {w : World} : ∀ {ss : List Str} {its : List Value}, Vals (ss.map V.str) its → ItemsAre (strKind P w) ss its
  | [], _, .nil => .nil
  | z :: ss, _, .cons r v => by
    obtain ⟨y, rfl⟩ := r
    exact .cons (strKind_is P w z y) (strs_items v)
theorem rows_at {pins : List (Addr × Obj)} {σ : L2.St} {H G : Hp} {s : Shared} (I : Inv X pins σ H s) (e : Same G H) : ∀ {xs : List V} {its : List Value} {ds : List D} {ks : List (List Str)}, Vals xs its → DpAll X.K G xs ds → rowsK ds = .ok ks →
    ∃ L : List Row, its = L.map (fun p => Value.ref p.1) ∧ L.map Prod.snd = ks ∧ ∀ p ∈ L, TxtAt X.prog X.w s.heap p.2 p.1
  | [], [], [], ks, .nil, .nil, h => by
    cases h
    exact ⟨[], rfl, rfl, fun p m => by cases m⟩
  | x :: xs, u :: us, d :: ds, ks, .cons r v, .cons hd hs, h => by
    unfold rowsK at h
    obtain ⟨k, h1, h⟩ := bindR_ok_inv h
    obtain ⟨ks', h2, h⟩ := bindR_ok_inv h
    cases h
    obtain ⟨L, a1, a2, a3⟩ := rows_at I e v hs h2
    cases d with
    | tuple ys =>
      have h1 : strsD ys = .ok k := h1
      cases hd with
      | tup q1 q2 =>
        rename_i p zs
        have ez := strs_of h1 q2
        subst ez
        obtain ⟨its, r2, pl, _⟩ := I.tuple (same_t e q1)
        cases r
        refine ⟨(p, k) :: L, by rw [a1]; rfl, by rw [← a2]; rfl, fun q m => ?_⟩
        rcases List.mem_cons.mp m with rfl | m
        · obtain ⟨o, ho, hc, n, hdat⟩ := pl
          exact ⟨o, its.toArray, n, ho, hc, hdat, by simpa using strs_items r2⟩
        · exact a3 q m
    | _ => cases h1
/-- len(set(x)) -/
def tLenA (K : PySem.W.Frag) (ta : TE) : TE := fun σ H Q => ta σ H fun x H1 => ∃ l, x = .ref l ∧
  ((∃ ks : List Key, (SqT K H1 l (ks.map kV) ∨ SqL K H1 l (ks.map kV)) ∧ ks.length ≤ 1000 ∧ Q (.int (cntK ks : Nat)) H1) ∨
   ∃ (xs : List V) (ds : List D) (ks : List (List Str)) (G : Hp), SqL K H1 l xs ∧ Same G H1 ∧ DpAll K G xs ds ∧ rowsK ds = .ok ks ∧ ks.length ≤ 75 ∧ Q (.int (cntR ks : Nat)) H1)
theorem pe_lenA {a : Expr} {ta : TE} {p p2 q pos : Pos} (hc : X.calm = true) (ru : X.A.units + 65 < cLine) (hg : Gl X "len") (hm : X.mg "len" = none) (hg2 : Gl X "set") (hm2 : X.mg "set" = none) (ha : PE X a ta)
    (na : starEach [a] X.env = (false, eval a X.env) :: starEach [] X.env) : PE X (.Call (.Name "len" p) [.Call (.Name "set" p2) [a] [] q] [] pos) (tLenA X.K ta) := by
  refine ⟨fun pins s σ H Q I h => ?_⟩
  refine Call_ (ld_blt I hg hm boot_len ?_)
  refine PyProof.Rows.callWith_builtin1 (PyProof.Rows.args_cons ?_ rfl) rfl rfl
  refine Call_ (ld_blt I hg2 hm2 boot_set ?_)
  refine PyProof.Rows.callWith_type1 (PyProof.Rows.args_cons (thn (ha.run pins s σ H _ I h) fun v s1 ⟨x, H1, I1, r1, q1⟩ => PyProof.Rows.args_nil ?_) na) na rfl
  obtain ⟨l, rfl, q1⟩ := q1
  cases r1
  rcases q1 with ⟨ks, hq, h1, q1⟩ | ⟨xs, ds, ks, G, hq, eG, hd, hk, h1, q1⟩
  · have hle := cntK_le ks
    rcases hq with hq | hq
    · obtain ⟨its, r, pl, hz⟩ := I1.tuple hq
      refine call_set_tupleK (I1.ok.hd hc) pl (by simpa using r) (by unfold scanBound; omega) fun h' tk hS hk => ?_
      refine PyProof.Rows.args_nil ?_
      obtain ⟨o, es, ep, t, ho, hex, hd, _, _, _, hf, hn⟩ := hS
      have I2 : Inv X pins σ H1 { s1 with heap := h', toks := tk } := I1.kept fun b o e => hk b o (Heap.lt_size e) e
      exact call_len_set ho hex hd hf (by rw [hn]; omega) ⟨.int (cntK ks : Nat), H1, I2.tok _, ⟨_, by rw [hn]⟩, q1⟩
    · obtain ⟨its, r, pl, hz⟩ := I1.list hq
      refine call_set_listK (I1.ok.hd hc) pl.isList (by simpa using r) (by unfold scanBound; omega) fun h' tk hS hk => ?_
      refine PyProof.Rows.args_nil ?_
      obtain ⟨o, es, ep, t, ho, hex, hd, _, _, _, hf, hn⟩ := hS
      have I2 : Inv X pins σ H1 { s1 with heap := h', toks := tk } := I1.kept fun b o e => hk b o (Heap.lt_size e) e
      exact call_len_set ho hex hd hf (by rw [hn]; omega) ⟨.int (cntK ks : Nat), H1, I2.tok _, ⟨_, by rw [hn]⟩, q1⟩
  · obtain ⟨its, r, pl, hz⟩ := I1.list hq
    obtain ⟨L0, a1, a2, a3⟩ := rows_at I1 eG r hd hk
    have ln : L0.length = ks.length := by rw [← a2, List.length_map]
    refine call_set_rows L0 (I1.ok.hd hc) pl.isList (by simpa using a1) a3 (by omega) (by omega) fun h' tk L es ep t hS g hk' => ?_
    refine PyProof.Rows.args_nil ?_
    have hn : es.size = cntR ks := by rw [ent_len hS.ent, had_cnt g hS.nodup, a2]
    have hle := cnt_le ks
    have hf : t.fits es.size = true := RSet.fits (s := { s1 with heap := h', toks := tk }) hS
    obtain ⟨o, ho, hex, hdat⟩ := hS.obj
    have I2 : Inv X pins σ H1 { s1 with heap := h', toks := tk } := I1.kept fun b o e => hk' b o (Heap.lt_size e) e
    exact call_len_set ho hex hdat hf (by rw [hn]; omega) ⟨.int (cntR ks : Nat), H1, I2.tok _, ⟨_, by rw [hn]⟩, q1⟩
end
theorem lsOk {F : Fns} {K : PySem.W.Frag} {cl : Str → Addr} {W : WX} {X : Cx} {a : E} {ea : Expr} {pos p p2 p3 : Pos} (hK : X.K = K) (hc : X.calm = true) (ru : X.A.units + 65 < cLine) (hg : Gl X "len") (hm : X.mg "len" = none) (hg2 : Gl X "set") (hm2 : X.mg "set" = none) (ha : PE X ea (rdP F K cl W a)) (hs : nostar ea = true) :
    PE X (.Call (.Name "len" p) [.Call (.Name "set" p2) [ea] [] p3] [] pos) (rdE F K cl W (.prim .lenset a)) := by
  refine PE.imp (pe_lenA hc ru hg hm hg2 hm2 ha (star_cons hs)) fun σ H Q ⟨C, G, ρ, r, h⟩ => ⟨C, G, ρ, r, ?_⟩
  unfold evE at h
  refine h.bind.mono fun x ρ1 _ h1 G1 v1 H1 e1 r1 d1 => ?_
  obtain ⟨z, hz, h2⟩ := Out.bindc h1
  cases x with
  | tuple xs =>
    have hz : bindR (keysD xs) (fun ks => if ks.length ≤ 1000 then .ok (.int (cntK ks : Nat)) else stk) = .ok z := hz
    obtain ⟨ks, hk, hz⟩ := bindR_ok_inv hz
    obtain ⟨hl, ez⟩ := if_ok hz
    subst ez
    cases d1.tup with
    | tup q1 q2 =>
      rw [hK]
      refine ⟨_, rfl, .inl ⟨ks, .inl ?_, hl, h2 G1 _ H1 e1 r1 (.int _)⟩⟩
      rw [← keys_of hk q2]
      exact same_t r1.exG q1
  | list xs =>
    have hz : lensetL xs = .ok z := hz
    unfold lensetL at hz
    obtain ⟨l, vs, rfl, q1, q2⟩ := d1.lst r1.exG
    rw [hK]
    cases hk : keysD xs with
    | ok ks =>
      rw [hk] at hz
      obtain ⟨hl, ez⟩ := if_ok (show (if ks.length ≤ 1000 then Except.ok (PyData.int (cntK ks : Nat)) else (stk : R D)) = .ok z from hz)
      subst ez
      refine ⟨_, rfl, .inl ⟨ks, .inr ?_, hl, h2 G1 _ H1 e1 r1 (.int _)⟩⟩
      rw [← keys_of hk q2]
      exact q1
    | error er =>
      rw [hk] at hz
      obtain ⟨ks, hks, hz⟩ := bindR_ok_inv (show bindR (rowsK xs) (fun ks => if ks.length ≤ 75 then .ok (.int (cntR ks : Nat)) else stk) = .ok z from hz)
      obtain ⟨hl, ez⟩ := if_ok hz
      subst ez
      exact ⟨_, rfl, .inr ⟨vs, xs, ks, G1, q1, r1.exG, q2, hks, hl, h2 G1 _ H1 e1 r1 (.int _)⟩⟩
  | _ => cases hz
end Ft
/-! FtSetS: sorted(set(t)) of a tuple of texts. -/
namespace Ft
open PySem PySem.Spec PyProof.Rows L2
def keyX (e : Int × Value) : Str := match e.2 with | .str k _ => k | _ => ⟨#[]⟩
def GoodX (w : World) (e : Int × Value) : Prop := ∃ k t, e.2 = Value.str k t ∧ e.1 = hashStr w k
/-- the set of texts at a: S its members, n their number; its table rises and can be walked -/
def SetX (w : World) (h : Heap) (a : Addr) (S : Str → Bool) (n : Nat) : Prop :=
  ∃ o es ep t, h.get? a = some o ∧ o.ExactSet ∧ o.data = .set es ep t ∧ (∀ e ∈ es.toList, GoodX w e) ∧ (es.toList.map keyX).Nodup ∧ (∀ k, S k = true ↔ k ∈ es.toList.map keyX) ∧
    es.size < scanBound ∧ t.fits es.size = true ∧ es.size = n ∧ Ris t.place.toList ∧ (w.params.followText "set-order" = true ∨ t.led = true)
theorem strKind_is (P : Program) (w : World) (k : Str) (t : Tok) : (strKind P w).is k (.str k t) = true := by
  show Value.isStrOf k (.str k t) = true
  simp [Value.isStrOf]
section
variable {P : Program} {w : World} {h h' : Heap} {a : Addr} {S : Str → Bool} {n : Nat}
theorem SetX.at (R : SetX w h a S n) (k : ∀ o, h.get? a = some o → h'.get? a = some o) : SetX w h' a S n := by
  obtain ⟨o, es, ep, t, ho, r⟩ := R
  exact ⟨o, es, ep, t, k o ho, r⟩
theorem SetX.congr {S' : Str → Bool} (R : SetX w h a S n) (e : ∀ k, S' k = S k) : SetX w h a S' n := by
  have q : S' = S := funext e
  rw [q]; exact R
theorem goodX_elems {l : List (Int × Value)} (g : ∀ e ∈ l, GoodX w e) : ElemsOf (strKind P w) l := fun e he => by
  obtain ⟨k, t, h1, h2⟩ := g e he
  exact ⟨⟨k, by rw [h1]; exact strKind_is P w k t, h2⟩, by rw [h1] <;> rfl⟩
theorem goodX_is {e : Int × Value} (g : GoodX w e) (k : Str) : (strKind P w).is k e.2 = true ↔ keyX e = k := by
  obtain ⟨k0, t, h1, _⟩ := g
  unfold keyX
  rw [h1]
  constructor
  · intro z
    obtain ⟨t', e⟩ := Value.isStrOf_shape (x := k) (v := .str k0 t) z
    cases e
    rfl
  · rintro rfl
    exact strKind_is P w k0 t
theorem goodX_mem {l : List (Int × Value)} (g : ∀ e ∈ l, GoodX w e) (k : Str) : k ∈ l.map keyX ↔ ∃ e ∈ l, (strKind P w).is k e.2 = true := by
  rw [List.mem_map]
  constructor
  · rintro ⟨e, he, q⟩
    exact ⟨e, he, (goodX_is (g e he) k).2 q⟩
  · rintro ⟨e, he, q⟩
    exact ⟨e, he, (goodX_is (g e he) k).1 q⟩
end
section
variable {P : Program} {w : World} {A : Around} {E : Value → Shared → Prop} {s : Shared} {a : Addr} {S : Str → Bool} {n : Nat}
theorem setX_tail {g : Bool → Sem Unit} (hg : ∀ (b : Bool) (s₁ : Shared) (Q' : Unit → Shared → Prop), Q' () s₁ → wpAny (model P w) A (g b) Q' E s₁)
    {o : Obj} {es : Array (Int × Value)} {ep : Nat} {t : SetTable} (ho : s.heap.get? a = some o) (hex : o.ExactSet) (hd : o.data = .set es ep t)
    {es1 : Array (Int × Value)} {t2 : SetTable} {S' : Str → Bool} (g1 : ∀ e ∈ es1.toList, GoodX w e) (nd1 : (es1.toList.map keyX).Nodup) (m1 : ∀ k, S' k = true ↔ k ∈ es1.toList.map keyX)
    (hb1 : es1.size < scanBound) (hf2 : t2.fits es1.size = true) (hr : Ris t2.place.toList) (hl : w.params.followText "set-order" = true ∨ t2.led = true) {wasDummy : Bool} {R : Option Bool → Shared → Prop}
    (hR : ∀ h', Heap.SameBut a s.heap h' → SetX w h' a S' es1.size → R (some true) { s with heap := h' }) :
    wpAny (model P w) A (do
        storeSet a es1 t2
        if (!wasDummy && t2.tooFull) = true then do
            g (relayAll t2 es1 (SetTable.grown es1.size)).2.2
            storeSet a (relayAll t2 es1 (SetTable.grown es1.size)).1 (relayAll t2 es1 (SetTable.grown es1.size)).2.1
            pure (some true)
          else pure (some true)) R E s := by
  refine wpAny_bind (wpAny_storeSet_of ho hd ?_ (fits_of_scanBound hb1))
  have ho1 := PpSet.storeB_at (es' := es1) (t' := t2) ho hd
  have sb1 := Heap.SameBut.update s.heap a (Obj.putSet es1 t2)
  split
  · have pm := relayAll_perm t2 es1 (SetTable.grown es1.size)
    have hf3 := relayAll_fits t2 es1 (SetTable.grown es1.size)
    have hr3 := relayAll_ris t2 es1 (SetTable.grown es1.size)
    have hl3 := relayAll_led t2 es1 (SetTable.grown es1.size)
    generalize relayAll t2 es1 (SetTable.grown es1.size) = Z at pm hf3 hr3 hl3 ⊢
    obtain ⟨es2, t3, gave⟩ := Z
    dsimp only at pm hf3 hr3 hl3 ⊢
    have hsz : es2.size = es1.size := by rw [← Array.length_toList, pm.length_eq, Array.length_toList]
    have hb2 : es2.size < scanBound := by rw [hsz]; exact hb1
    refine wpAny_bind (hg _ _ _ ?_)
    refine wpAny_bind (wpAny_storeSet_of ho1 rfl ?_ (fits_of_scanBound hb2))
    have ho2 := PpSet.storeB_at (es' := es2) (t' := t3) ho1 rfl
    refine wpAny_pure (hR _ (sb1.trans (Heap.SameBut.update _ a _)) ?_)
    exact ⟨_, es2, _, t3, ho2, hex, rfl, fun e he => g1 e (pm.mem_iff.mp he), (pm.map keyX).nodup_iff.mpr nd1, fun k => (m1 k).trans (pm.map keyX).mem_iff.symm, hb2, hf3, hsz, hr3,
      hl.imp id fun z => by rw [hl3]; exact z⟩
  · exact wpAny_pure (hR _ sb1 ⟨_, es1, _, t2, ho1, hex, rfl, g1, nd1, m1, hb1, hf2, rfl, hr, hl⟩)
theorem setX_add {k : Str} {tk : Tok} {Q : Bool → Shared → Prop} (R : SetX w s.heap a S n) (room : n + 1 < scanBound)
    (hQ : ∀ h', Heap.SameBut a s.heap h' → SetX w h' a (fun j => S j || decide (j = k)) (if S k = true then n else n + 1) → Q (!S k) { s with heap := h' }) :
    wpAny (model P w) A (setAddHashed a (.str k tk) (hashStr w k)) Q E s := by
  obtain ⟨o, es, ep, t, ho, hex, hd, g, nd, hm, hb, hf, hn, hr, hl⟩ := R
  have hkey : (strKind P w).is k (.str k tk) = true := strKind_is P w k tk
  have hsc : (Value.str k tk).scannable = true := rfl
  have hel : ElemsOf (strKind P w) es.toList := goodX_elems g
  unfold setAddHashed setAddHashedIn
  refine wpAny_holding (wpAny_bind (wpAny_setState_of ho hd hf ?_))
  dsimp only
  rw [byScan_of hsc hb hel]
  simp only [↓reduceIte]
  unfold setAddByScan
  refine wpAny_bind ?_
  refine wpAny_bind (wpAny_rule ?_)
  refine wpAny_bind (wpAny_setScan_of hkey ho hd hf hel ?_)
  cases hfi : List.findIdx? (fun e => (strKind P w).is k e.2) es.toList with
  | some j =>
    dsimp only
    obtain ⟨hj, pj, _⟩ := List.findIdx?_eq_some_iff_getElem.mp hfi
    have hSk : S k = true := (hm k).2 ((goodX_mem (P := P) (w := w) g k).2 ⟨es.toList[j], List.getElem_mem hj, pj⟩)
    refine wpAny_pure (wpAny_pure ?_)
    have q := hQ s.heap (Heap.SameBut.refl a s.heap) ⟨o, es, ep, t, ho, hex, hd, g, nd, fun i => by
      rw [Bool.or_eq_true, decide_eq_true_eq, ← hm i]
      exact ⟨fun z => z.elim id (fun e => e ▸ hSk), .inl⟩, hb, hf, by rw [if_pos hSk]; exact hn, hr, hl⟩
    rw [hSk] at q
    exact q
  | none =>
    dsimp only
    have hnk : k ∉ es.toList.map keyX := fun z => by
      obtain ⟨e, he, q⟩ := (goodX_mem (P := P) (w := w) g k).1 z
      have c := List.findIdx?_eq_none_iff.mp hfi e he
      rw [q] at c
      cases c
    have hSk : S k = false := by
      cases q : S k with
      | false => rfl
      | true => exact absurd ((hm k).1 q) hnk
    have hgw : ∀ (b : Bool) {s₁ : Shared} {Q' : Unit → Shared → Prop}, Q' () s₁ → wpAny (model P w) A (match b with | true => rule "set.scan.the-table-gave-way" | false => pure ()) Q' E s₁ :=
      fun b s₁ Q' q => by cases b <;> first | exact wpAny_pure q | exact wpAny_rule q
    have pm := layNew_perm t es (hashStr w k) (.str k tk)
    have hf1 := layNew_fits t es (hashStr w k) (.str k tk)
    have hr1 := layNew_ris t es (hashStr w k) (.str k tk) hr
    have hl1 := layNew_led t es (hashStr w k) (.str k tk)
    generalize layNew t es (hashStr w k) (.str k tk) = Z at pm hf1 hr1 hl1 ⊢
    obtain ⟨es1, t1, wasDummy, gave⟩ := Z
    dsimp only at pm hf1 hr1 hl1 ⊢
    rw [Array.toList_push] at pm
    have pc : es1.toList.Perm ((hashStr w k, Value.str k tk) :: es.toList) := pm.trans (List.perm_append_singleton _ _)
    have pk : (es1.toList.map keyX).Perm (k :: es.toList.map keyX) := pc.map keyX
    have g1 : ∀ e ∈ es1.toList, GoodX w e := fun e he => by
      rcases List.mem_cons.mp (pc.mem_iff.mp he) with z | z
      · rw [z]; exact ⟨k, tk, rfl, rfl⟩
      · exact g e z
    have nd1 : (es1.toList.map keyX).Nodup := pk.nodup_iff.mpr (List.nodup_cons.mpr ⟨hnk, nd⟩)
    have m1 : ∀ i, (S i || decide (i = k)) = true ↔ i ∈ es1.toList.map keyX := fun i => by
      rw [Bool.or_eq_true, decide_eq_true_eq, hm i, pk.mem_iff, List.mem_cons]
      exact Or.comm
    have hsz : es1.size = n + 1 := by rw [← Array.length_toList, pc.length_eq, List.length_cons, Array.length_toList, hn]
    have hb1 : es1.size < scanBound := by rw [hsz]; exact room
    have hled : w.params.followText "set-order" = true ∨ t1.led = true := hl.imp id fun z => by rw [hl1]; exact z
    have fin : ∀ h', Heap.SameBut a s.heap h' → SetX w h' a (fun j => S j || decide (j = k)) es1.size → Q true { s with heap := h' } := fun h' sb r => by
      have q := hQ h' sb
      rw [hSk] at q
      rw [hsz] at r
      exact q r
    refine wpAny_bind (hgw _ ?_)
    split
    · refine wpAny_bind ?_
      rw [hashByValue_scannable 8 hsc]
      refine wpAny_pure ?_
      refine setX_tail ?_ ho hex hd g1 nd1 m1 hb1 ?_ ?_ ?_ ?_
      · intro b s₁ Q' q; cases b <;> first | exact wpAny_pure q | exact wpAny_rule q
      · first | (split <;> first | exact hf1 | exact SetTable.fits_plain_off hf1) | exact hf1
      · first | (split <;> exact hr1) | exact hr1
      · first | (split <;> exact hled) | exact hled
      · intro h' sb r; dsimp only; exact wpAny_pure (fin h' sb r)
    · refine wpAny_bind (wpAny_pure ?_)
      simp only [↓reduceIte]
      refine setX_tail ?_ ho hex hd g1 nd1 m1 hb1 hf1 hr1 hled ?_
      · intro b s₁ Q' q; cases b <;> first | exact wpAny_pure q | exact wpAny_rule q
      · intro h' sb r; dsimp only; exact wpAny_pure (fin h' sb r)
theorem setX_new {ks : List Str} {h : Heap} (ho : h.get? a = some { cls := .type "set", dict := none, data := .set #[] 0 (.fresh 0 0 (!w.params.followText "set-order")) }) : SetX w h a (fun j => decide (j ∈ ks.take 0)) 0 :=
  ⟨_, #[], 0, _, ho, ⟨rfl, rfl, rfl⟩, rfl, (fun e he => by simp at he), (by simp), (fun k => by simp), (by decide), (by rfl), rfl, List.Pairwise.nil, by
    show _ ∨ (!w.params.followText "set-order") = true
    cases w.params.followText "set-order"
    · exact .inr rfl
    · exact .inl rfl⟩
end
section
variable {P : Program} {w : World} {A : Around} {E : Value → Shared → Prop} {s : Shared}
theorem setX_loop {I : Addr} {fp wr : List Addr} {G : Array GenState → Array GenState → Prop} {n : Nat} {Pv : Nat → Value → Prop} {St : Nat → Shared → Prop} {R : Result → Shared → Prop}
    (W : WalksS P w A.in1 I fp wr G n Pv St) (S : Addr) (hSf : S ∉ fp) (ks : List Str) (hn : n = ks.length) (hb : ks.length + 1 < scanBound) (hval : ∀ i v, Pv i v → ∃ k t, ks[i]? = some k ∧ v = .str k t) :
    ∀ (k i : Nat) (s : Shared), n - i = k → i ≤ n → St i s → (∃ c, c ≤ i ∧ SetX w s.heap S (fun j => decide (j ∈ ks.take i)) c) →
      (∀ s' c, Moved (S :: wr) G s s' → c ≤ n → SetX w s'.heap S (fun j => decide (j ∈ ks)) c → R (.ok (.ret .none)) s') →
      codeAny (model P w) A (.builtin "set.update.loop" ⟨[.ref S, .ref I], []⟩) R s := by
  have hSw : S ∉ wr := fun h => hSf (W.sub _ h)
  have hsub : ∀ b ∈ wr, b ∈ S :: wr := fun b hb => List.mem_cons_of_mem _ hb
  intro k
  induction k with
  | zero =>
    intro i s hk' hi hst ⟨c, hc, hS⟩ hR
    have hin : i = n := by omega
    subst hin
    refine codeAny_builtin F.entry_set_update_loop ?_
    rw [Around.under_plainId F.plain_set_update_loop _]
    show wpAny _ A.in1 (pyNext (.ref I) >>= _) _ _ s
    refine wpAny_bind (W.done s _ _ hst fun s' hm => ?_)
    show wpAny _ A.in1 (ret Value.none) _ _ s'
    have e : ks.take i = ks := List.take_of_length_le (by omega)
    rw [e] at hS
    exact wpAny_pure (hR s' c (hm.mono hsub) hc (hS.at fun o e => hm.heap S o hSw e))
  | succ k ih =>
    intro i s hk' hi hst ⟨c, hc, hS⟩ hR
    have hlt : i < n := by omega
    refine codeAny_builtin F.entry_set_update_loop ?_
    rw [Around.under_plainId F.plain_set_update_loop _]
    show wpAny _ A.in1 (pyNext (.ref I) >>= _) _ _ s
    refine wpAny_bind (W.item i s _ _ hlt hst fun v s' hP hst' hm => ?_)
    obtain ⟨z, t, hz, rfl⟩ := hval i v hP
    have hS' : SetX w s'.heap S (fun j => decide (j ∈ ks.take i)) c := hS.at fun o e => hm.heap S o hSw e
    show wpAny _ A.in1 (holding [Value.str z t] (setAdd S (.str z t)) >>= _) _ _ s'
    refine wpAny_bind (wpAny_holding ?_)
    unfold setAdd
    refine wpAny_holding ?_
    refine wpAny_bind ((strKind P w).pyHash (k := z) (strKind_is _ _ _ _) ?_)
    refine setX_add (s := { s' with toks := s'.toks + 1 }) hS' (by omega) fun h' hsb hS2 => ?_
    have hS3 : SetX w h' S (fun j => decide (j ∈ ks.take (i + 1))) (if decide (z ∈ ks.take i) = true then c else c + 1) := hS2.congr fun j => by
      rw [List.take_add_one, hz]
      simp [List.mem_append]
    have hc3 : (if decide (z ∈ ks.take i) = true then c else c + 1) ≤ i + 1 := by
      split <;> omega
    refine wpAny_pure ⟨plainId_quiet F.plain_set_update_loop _, ih (i + 1) _ (by omega) hlt (W.frame _ s' _ _ hst' (Nat.le_succ _) fun b hb o e => ?_) ⟨_, hc3, hS3⟩ fun s'' c2 hm'' hc'' hS'' => ?_⟩
    · rw [hsb.2 b (fun h : b = S => hSf (by rw [← h]; exact hb))]; exact e
    · refine hR s'' c2 (Moved.trans W.gtrans ((hm.mono hsub).then_heap (Nat.le_succ _) fun b o hb e => ?_) hm'') hc'' hS''
      rw [hsb.2 b (fun h : b = S => hb (by rw [h]; exact List.mem_cons_self))]; exact e
set_option maxRecDepth 100000 in
set_option maxHeartbeats 3200000 in
theorem call_set_tupS {l : Addr} {items : Array Value} (ks : List Str) {Q : Value → Shared → Prop} (hh : A.handled = none) (hl : s.heap.IsTuple l items) (hit : StrsAre items.toList ks) (hb : ks.length + 1 < scanBound)
    (h : ∀ (h' : Heap) (tk c : Nat), SetX w h' s.heap.objs.size (fun j => decide (j ∈ ks)) c → c ≤ ks.length → (∀ b o, s.heap.get? b = some o → h'.get? b = some o) → Q (.ref s.heap.objs.size) { s with heap := h', toks := tk }) :
    wpAny (model P w) A (call (.type "set") [.ref l]) Q E s := by
  have hisz : items.size = ks.length := by
    have q := StrsAre.length hit
    rw [Array.length_toList] at q
    exact q
  obtain ⟨c, tl, hmro⟩ := F.called_set.mro
  have hmade := F.called_set.made
  have hsub := F.called_set.sub
  refine wpAny_call (codeAny_of_tree ?_)
  show wpAny _ _ (callAny (.type "set") _) _ _ _
  refine wpAny_pure ⟨Code.quiet_builtin _ (by decide +kernel), codeAny_builtin F.entry_type_call ?_⟩
  rw [Around.under_plain (weight_type_call_type "set" [.ref l] []) rfl]
  have h1 := F.called_set.notType
  have h2 := F.called_set.canCreate
  have hct := F.typeCall_set_1 (.ref l)
  repeat (any_goals (first | assumption | wp_step))
  refine codeAny_mono (code_set_led1 (.ref l) (E := E) (Q₁ := fun obj s₁ => obj = .ref s.heap.objs.size ∧ s₁ = { s with heap := s.heap.push { cls := .type "set", dict := none, data := .set #[] 0 (.fresh 0 0 (!w.params.followText "set-order")) } }) ⟨rfl, rfl⟩) fun r s₁ hr => ?_
  cases r with
  | error e => exact hr
  | ok fl =>
    cases fl with
    | ret obj =>
      obtain ⟨rfl, rfl⟩ := hr
      have hS : (s.heap.push { cls := .type "set", dict := none, data := .set #[] 0 (.fresh 0 0 (!w.params.followText "set-order")) }).get? s.heap.objs.size = some { cls := .type "set", dict := none, data := .set #[] 0 (.fresh 0 0 (!w.params.followText "set-order")) } := Heap.get?_push_size _ rfl
      have hT : Shared.TypeIs { s with heap := s.heap.push { cls := .type "set", dict := none, data := .set #[] 0 (.fresh 0 0 (!w.params.followText "set-order")) } } (.ref s.heap.objs.size) "set" := ⟨_, hS, rfl⟩
      have hli := F.called_set.init.lookup
      have hbi := F.called_set.init.bind (.ref s.heap.objs.size)
      repeat (any_goals (first | assumption | wp_step))
      refine codeAny_mono (codeAny_call_builtin (R := wants (fun r s₂ => r = .none ∧ ∃ h' tk c, s₂ = { s with heap := h', toks := tk } ∧ SetX w h' s.heap.objs.size (fun j => decide (j ∈ ks)) c ∧ c ≤ ks.length ∧
          (∀ b o, s.heap.get? b = some o → h'.get? b = some o)) E) F.called_set.init.plain F.entry_set_init (check_set_init_1 hT ?_)) fun r₂ s₂ hr₂ => ?_
      · obtain ⟨ol, hol, hcl, nl, hdl⟩ := hl
        obtain ⟨ocls, odict, odata, oslots⟩ := ol
        simp only at hcl hdl
        subst hcl; subst hdl
        have hol' : (s.heap.push { cls := .type "set", dict := none, data := .set #[] 0 (.fresh 0 0 (!w.params.followText "set-order")) }).get? l = some { cls := .type "tuple", dict := odict, data := .seq items nl, slots := oslots } := Heap.get?_push_of_some _ hol
        have hsls := F.sub_tuple_set
        have hslf := F.sub_tuple_frozenset
        have hne : (Value.type "tuple" == Value.type "dict") = false := by decide
        have hl1 : (s.heap.push { cls := .type "set", dict := none, data := .set #[] 0 (.fresh 0 0 (!w.params.followText "set-order")) }).IsTuple l items := ⟨_, hol', rfl, nl, rfl⟩
        unfold Builtin.«set.__init__» noKeywords Builtin.Frozenset.updateFrom
        generalize hPI : pyIter = PI
        wp_walk
        subst hPI
        refine wpAny_pyIter_tuple hl1 ?_
        refine wpAny_bind (wpAny_runValue ?_)
        have hlS : l < s.heap.objs.size := Heap.lt_size hol
        have hh3 : A.in1.in1.in1.handled = none := by simp [hh]
        have hneI : l ≠ (s.heap.push { cls := .type "set", dict := none, data := .set #[] 0 (.fresh 0 0 (!w.params.followText "set-order")) }).objs.size := by
          rw [Heap.size_push]; exact Nat.ne_of_lt (Nat.lt_succ_of_lt hlS)
        have hSf : s.heap.objs.size ∉ [(s.heap.push { cls := .type "set", dict := none, data := .set #[] 0 (.fresh 0 0 (!w.params.followText "set-order")) }).objs.size, l] := by
          rw [Heap.size_push]; simp only [List.mem_cons, List.mem_singleton, List.not_mem_nil, or_false, not_or]
          exact ⟨Nat.ne_of_lt (Nat.lt_succ_self _), Nat.ne_of_gt hlS⟩
        have hval : ∀ (i : Nat) (v : Value), items[i]? = some v → ∃ k t, ks[i]? = some k ∧ v = .str k t := fun i v hv => by
          have hi : i < ks.length := by rw [← hisz]; exact (Array.getElem?_eq_some_iff.mp hv).1
          obtain ⟨t, e⟩ := SS.strs_at hit i v (by rw [Array.getElem?_toList]; exact hv)
          refine ⟨ks[i], t, List.getElem?_eq_getElem hi, ?_⟩
          rw [e, List.getD_eq_getElem?_getD, List.getElem?_eq_getElem hi] <;> rfl
        refine setX_loop ((Walks.tuple hh3 _ l hneI items).toS) s.heap.objs.size
          hSf ks hisz hb hval (items.size - 0) 0 _ (by omega) (Nat.zero_le _)
          ⟨⟨_, Heap.get?_push_size _ rfl, rfl, rfl⟩, (hl1.push _)⟩ ?hS0 ?hR
        case hS0 =>
          have hget : ((s.heap.push { cls := .type "set", dict := none, data := .set #[] 0 (.fresh 0 0 (!w.params.followText "set-order")) }).push { cls := .type "tuple_iterator", data := .fields #[.ref l, .int 0 0] }).get? s.heap.objs.size
              = some { cls := .type "set", dict := none, data := .set #[] 0 (.fresh 0 0 (!w.params.followText "set-order")) } := Heap.get?_push_of_some _ hS
          exact ⟨0, Nat.le_refl 0, setX_new hget⟩
        case hR =>
          intro s' c' hm hc' hS'
          obtain ⟨h', g2, d', tk', os'⟩ := s'
          have eg : g2 = s.gens := hm.gens
          have ed : d' = s.drawn := hm.drawn
          have eo : os' = s.os := hm.os
          subst eg; subst ed; subst eo
          show wpAny _ _ _ _ _ _
          refine wpAny_pure ?_
          show wpAny _ _ (ret Value.none) _ _ _
          rw [hisz] at hc'
          refine wpAny_pure ⟨rfl, h', tk', c', rfl, hS', hc', fun b o e => ?_⟩
          have hb0 : b < s.heap.objs.size := Heap.lt_size e
          have hb1 : b ≠ s.heap.objs.size := Nat.ne_of_lt hb0
          have hb2 : b ≠ (s.heap.push { cls := .type "set", dict := none, data := .set #[] 0 (.fresh 0 0 (!w.params.followText "set-order")) }).objs.size := by
            rw [Heap.size_push]; exact Nat.ne_of_lt (Nat.lt_succ_of_lt hb0)
          exact hm.heap b o (by simp only [List.mem_cons, List.mem_singleton, List.not_mem_nil, or_false, not_or]; exact ⟨hb1, hb2⟩) (Heap.get?_push_of_some _ (Heap.get?_push_of_some _ e))
      · cases r₂ with
        | error e => exact hr₂
        | ok fl₂ =>
          cases fl₂ with
          | ret r =>
            obtain ⟨rfl, h', tk, c', rfl, hS', hc', hk'⟩ := hr₂
            repeat (any_goals (first | assumption | wp_step))
            exact h _ _ _ hS' hc' hk'
          | _ => exact hr₂.elim
    | _ => exact hr.elim
theorem strsAre_of : ∀ (vs : List Value), (∀ v ∈ vs, ∃ k t, v = Value.str k t) → StrsAre vs (vs.map fun v => keyX (0, v))
  | [], _ => .nil
  | v :: vs, h => by
    obtain ⟨k, t, rfl⟩ := h v List.mem_cons_self
    exact .cons k t (strsAre_of vs fun u hu => h u (List.mem_cons_of_mem _ hu))
theorem sorted_setX {a : Addr} {S : Str → Bool} {n : Nat} {Q : Value → Shared → Prop} (R : SetX w s.heap a S n) (hh : A.handled = none) (h64 : n < 64)
    (hQ : ∀ s' p (out : Array Value) (c : Nat) (ks : List Str), (∀ b o, s.heap.get? b = some o → s'.heap.get? b = some o) → s'.gens = s.gens → s'.os = s.os → s.heap.objs.size ≤ p →
      s'.heap.get? p = some (seqObj "list" out c) → StrsAre out.toList ks → sortedS ks = true → ks.Nodup → (∀ k, k ∈ ks ↔ S k = true) → ks.length = n → Q (.ref p) s') :
    wpAny (model P w) A (call (.builtin "sorted") [.ref a]) Q E s := by
  obtain ⟨o, es, ep, t, ho, hex, hd, g, nd, hm, hb, hf, hn, hr, hl⟩ := R
  refine Calls.call_function_entry kind_sorted plain_sorted entry_sorted (args_sorted1 _) ?_
  unfold Builtin.«sorted»
  refine wpAny_bind (m := checkCount "sorted" 1 1 _) (wpAny_pure ?_)
  refine wpAny_bind (collect_set (A := A.in1) hh ⟨o, ho, hex.1, hd⟩ hf hb hr hl fun s1 vs k1 hz g1 o1 pm => ?_)
  have hvl : vs.length = n := by rw [pm.length_eq, List.length_map, Array.length_toList]; exact hn
  have hI : StrsAre vs (vs.map fun v => keyX (0, v)) := strsAre_of vs fun v hv => by
    obtain ⟨e, he, q⟩ := List.mem_map.mp (pm.mem_iff.mp hv)
    obtain ⟨k, tk, h1, _⟩ := g e he
    exact ⟨k, tk, by rw [← q]; exact h1⟩
  have pk : (vs.map fun v => keyX (0, v)).Perm (es.toList.map keyX) := by
    have q := pm.map fun v => keyX (0, v)
    rw [List.map_map] at q
    exact q
  refine wpAny_bind (wpAny_newList ?_ (by rw [hvl, sizeLine_eq]; omega))
  have hoL : (s1.heap.push (seqObj "list" vs.toArray 0)).get? s1.heap.objs.size = some (seqObj "list" vs.toArray 0) := Heap.get?_push_size _ rfl
  refine wpAny_bind (wpAny_holding (wpAny_call_entry slot_list_sort ⟨_, hoL, rfl⟩ entry_list_sort (list_sort_treeK strKind_oneLt hoL hI.keysOf (fun v₁ v₂ rest e => keyKind_strs (by rw [← e]; exact hI)) (by rw [hvl]; exact h64) fun st' a1 a2 => ⟨_, rfl, ?_⟩) (args_list_sort _)))
  obtain ⟨ks, b1, b2, b3⟩ := sorted_out_str hI a1 a2
  obtain ⟨c, hc⟩ := sortedHeap_at (vs := vs) (out := _) hoL
  have pn : ks.Perm (es.toList.map keyX) := b2.trans pk
  refine wpAny_pure ⟨_, rfl, hQ _ s1.heap.objs.size _ c ks (fun b u e => ?_) g1 o1 hz hc b1 b3 (pn.nodup_iff.mpr nd) (fun k => by rw [pn.mem_iff, ← hm k]) (by rw [pn.length_eq, List.length_map, Array.length_toList]; exact hn)⟩
  have q := k1 b u e
  have hlt := Heap.lt_size q
  show (sortedHeap (s1.heap.push (seqObj "list" vs.toArray 0)) s1.heap.objs.size vs _).get? b = some u
  rw [sortedHeap_old (Nat.ne_of_lt hlt) (by rw [size_push']; exact Nat.lt_succ_of_lt hlt)]
  exact Heap.get?_push_of_some _ q
end
/-- sorted(set(t)) -/
def tSset (K : PySem.W.Frag) (ta : TE) : TE := fun σ H Q => ta σ H fun x H1 => ∃ l, ∃ ks : List Str, x = .ref l ∧ SqT K H1 l (ks.map V.str) ∧ ks.length < 64 ∧
  ∀ (ys : List Str) (p : Addr), sortedS ys = true → ys.Nodup → (∀ k, k ∈ ys ↔ k ∈ ks) → H1 p = none → Q (.ref p) (upd H1 p (.lst (ys.map V.str)))
theorem pe_sset {X : Cx} {a : Expr} {ta : TE} {p p2 q pos : Pos} (hc : X.calm = true) (hg : Gl X "sorted") (hm : X.mg "sorted" = none) (hg2 : Gl X "set") (hm2 : X.mg "set" = none) (ha : PE X a ta)
    (na : starEach [a] X.env = (false, eval a X.env) :: starEach [] X.env) : PE X (.Call (.Name "sorted" p) [.Call (.Name "set" p2) [a] [] q] [] pos) (tSset X.K ta) := by
  refine ⟨fun pins s σ H Q I h => ?_⟩
  refine Call_ (ld_blt I hg hm boot_sorted ?_)
  refine PyProof.Rows.callWith_builtin1 (PyProof.Rows.args_cons ?_ rfl) rfl rfl
  refine Call_ (ld_blt I hg2 hm2 boot_set ?_)
  refine PyProof.Rows.callWith_type1 (PyProof.Rows.args_cons (thn (ha.run pins s σ H _ I h) fun v s1 ⟨x, H1, I1, r1, q1⟩ => PyProof.Rows.args_nil ?_) na) na rfl
  obtain ⟨l, ks, rfl, hq, h1, q1⟩ := q1
  cases r1
  obtain ⟨its, r, pl, hz⟩ := I1.tuple hq
  refine call_set_tupS ks (I1.ok.hd hc) pl (by simpa using r.strs) (by unfold scanBound; omega) fun h' tk c hS hcl hk => ?_
  refine PyProof.Rows.args_nil ?_
  have I2 : Inv X pins σ H1 { s1 with heap := h', toks := tk } := I1.kept hk
  refine sorted_setX (s := { s1 with heap := h', toks := tk }) hS (I1.ok.hd hc) (by omega) fun s' pp out c' ys k g o hp hg' hout hso hnd hmem hyl => ?_
  have hlen : (ys.map V.str).length ≤ sizeLine := by rw [List.length_map, sizeLine_eq]; omega
  have hn : H1 pp = none := I2.hok.fresh hp
  have J : Inv X pins σ (upd H1 pp (.lst (ys.map V.str))) { ({ s1 with heap := h', toks := tk } : Shared) with heap := s'.heap, gens := s'.gens, drawn := s'.drawn, toks := s'.toks } :=
    I2.call (ch := []) (Un.laid k hp hn) (I2.hok.laid k hp ⟨hlen, out.toList, c', vals_of_strs hout, hg'⟩) (by rw [g]; exact I2.bare) (fun _ z => nomatch z)
  have e : s' = { s1 with heap := s'.heap, gens := s'.gens, drawn := s'.drawn, toks := s'.toks } := by
    cases s'
    cases s1
    cases o
    rfl
  rw [e]
  exact ⟨.ref pp, _, J, rfl, q1 ys pp hso hnd (fun k => by rw [hmem k, decide_eq_true_eq]) hn⟩
end Ft
/-! FtVals: sorted(d.values()) of a dict whose values are texts. -/
namespace Ft
open PySem PySem.Spec PyProof.Rows L2
def tSVals (td : TE) : TE := fun σ H Q => td σ H fun x H1 => ∃ a kvs is, x = V.ref a ∧ H1 a = some (.dK kvs) ∧ kvs.map (·.2) = is.map V.str ∧ is.length < 64 ∧
  ∀ (ys : List Str) (p : Addr), ys.Perm is → sortedS ys = true → H1 p = none → Q (.ref p) (upd H1 p (.lst (ys.map V.str)))
section
variable {X : Cx} {o : Expr} {p pos apos mpos : Pos} {td : TE}
theorem pe_svals (hc : X.calm = true) (hg : Gl X "sorted") (hm : X.mg "sorted" = none) (hd : PE X o td) (hbase : attributeBase o "values" X.env (eval o X.env) = eval o X.env) (hline : (apos.endLine == mpos.line) = true)
    (hse : starEach [Expr.Call (.Attribute o "values" apos) [] [] mpos] X.env = [(false, eval (Expr.Call (.Attribute o "values" apos) [] [] mpos) X.env)] := by rfl) :
    PE X (.Call (.Name "sorted" p) [.Call (.Attribute o "values" apos) [] [] mpos] [] pos) (tSVals td) := by
  refine ⟨fun pins s σ H Q I h => ?_⟩
  refine wpAny_Call_Name_kw (ld_blt I hg hm (u := .builtin "sorted") (by first | rfl | decide +kernel) ?_ (by first | decide +kernel | decide) (by first | decide +kernel | decide))
  rw [hse]
  refine PySem.callWith_builtin1 (wpAny_Call_method0_late hbase hline (thn (hd.run pins s σ H _ I h) fun v s1 ⟨x, H1, I1, r1, a, kvs, is, ex, ha, hv, h64, q⟩ => ?_))
  subst ex
  obtain rfl : v = Value.ref a := r1
  obtain ⟨_, hsys, vs, rel, dof⟩ := dk_of I1.hok ha
  obtain ⟨ep, dat⟩ := dof.dictAt
  have dat' := dat
  obtain ⟨ob, es, ho, ex, hdat, hko, hpr, hnd⟩ := dat'
  refine ⟨"dict", "dict.values", F.plainAttrs_dict, F.slot_dict_values, F.type_dict_values, ⟨ob, ho, ex.1⟩, fun b e => ?_, Calls.callWith_builtin rfl (PySem.evalArgs_none ?_)⟩
  · cases e
    exact ⟨ob, ho, ex.2.1⟩
  refine call_meetsIn F.slot_dict_values ⟨ob, ho, ex.1⟩ F.entry_dict_values (F.args_dict_values_1 _) (meets_dict_values (mixKind X.prog X.w) a hsys) ⟨⟨vs, dof⟩, ?_⟩
  have k1 : ∀ b u, s1.heap.get? b = some u → (s1.heap.push { cls := .type "dict_values", data := .fields #[.ref a] }).get? b = some u := fun b u e => Heap.get?_push_of_some _ e
  have dat1 : (s1.heap.push { cls := .type "dict_values", data := .fields #[.ref a] }).DictAt (mixKind X.prog X.w) a vs ep := dat.keep k1
  have I2 : Inv X pins σ H1 { s1 with heap := s1.heap.push { cls := .type "dict_values", data := .fields #[.ref a] } } := I1.kept (t' := s1.toks) k1
  have hlv : vs.length = is.length := by
    have e1 := congrArg List.length hv
    rw [List.length_map, List.length_map] at e1
    rw [← e1]
    exact (KV.length rel).symm
  have h16 : vs.length ≤ sizeLine := by rw [hlv, sizeLine_eq]; omega
  refine Calls.call_function_entry PyProof.Rows.kind_sorted PyProof.Rows.plain_sorted PyProof.Rows.entry_sorted (PyProof.Rows.args_sorted1 _) ?_
  unfold Builtin.«sorted»
  refine wpAny_bind (m := checkCount "sorted" 1 1 _) (wpAny_pure ?_)
  refine wpAny_bind (PySem.W.kdu_collect (A := X.A.in1) (s := { s1 with heap := s1.heap.push { cls := .type "dict_values", data := .fields #[.ref a] } }) (PySem.W.kdl_values (knd := mixKind X.prog X.w) (r := s1.heap.objs.size) (d := a) (kvs := vs) (ep := ep)) (I1.ok.hd hc) ⟨⟨_, Heap.get?_push_size _ rfl, rfl, rfl⟩, dat1⟩ h16 fun h' tk acc hk hacc => ?_)
  have hal : acc.toList.length = is.length := by rw [Array.length_toList, hacc.1, hlv]
  have hS : StrsAre acc.toList is := strs_at hal fun j v e => by
    obtain ⟨k, e1⟩ := hacc.2 j v (by rw [← Array.getElem?_toList]; exact e)
    obtain ⟨x, h1, h2⟩ := KV.at' rel e1
    have e2 : (kvs.map (·.2))[j]? = some x := by rw [List.getElem?_map, h1] <;> rfl
    rw [hv, List.getElem?_map] at e2
    obtain ⟨z, hz, e3⟩ := Option.map_eq_some_iff.mp e2
    subst e3
    obtain ⟨t, e4⟩ := h2
    exact ⟨z, t, hz, e4⟩
  have I3 : Inv X pins σ H1 { s1 with heap := h', toks := tk } := I2.kept (t' := tk) hk
  refine wpAny_bind (wpAny_newList ?_ (by rw [hal, sizeLine_eq]; omega))
  have hoL : (h'.push (seqObj "list" acc.toList.toArray 0)).get? h'.objs.size = some (seqObj "list" acc.toList.toArray 0) := Heap.get?_push_size _ rfl
  show wpAny _ _ _ _ _ { s1 with heap := h'.push (seqObj "list" acc.toList.toArray 0), toks := tk }
  refine wpAny_bind (wpAny_holding (wpAny_call_entry PyProof.Rows.slot_list_sort ⟨_, hoL, rfl⟩ PyProof.Rows.entry_list_sort
    (list_sort_treeK strKind_oneLt (s := { s1 with heap := h'.push (seqObj "list" acc.toList.toArray 0), toks := tk }) hoL hS.keysOf (fun v₁ v₂ rest e => keyKind_strs (by rw [← e]; exact hS)) (by rw [hal]; exact h64) fun st' hp hs => ⟨_, rfl, ?_⟩)
    (PyProof.Rows.args_list_sort _)))
  obtain ⟨ys, g1, g2, g3⟩ := sorted_out_str hS hp hs
  obtain ⟨e', he'⟩ := PyProof.Rows.sortedHeap_at (vs := acc.toList) (out := (arrOf st').map (·.2)) hoL
  have hlen : (ys.map V.str).length ≤ sizeLine := by
    rw [List.length_map, g2.length_eq]
    exact Nat.le_trans (Nat.le_of_lt h64) (by decide)
  refine wpAny_pure ⟨_, rfl, .ref h'.objs.size, upd H1 h'.objs.size (.lst (ys.map V.str)), I3.laid (t' := tk) (fun b u e => ?_) (Nat.le_refl _)
    (show ObjOk X.prog X.w _ _ _ (.lst (ys.map V.str)) from ⟨hlen, ((arrOf st').map (·.2)).toList, e', vals_of_strs g1, by rw [Array.toArray_toList]; exact he'⟩), rfl, q ys _ g2 g3 (I3.hok.fresh (Nat.le_refl _))⟩
  have hb : b < h'.objs.size := Heap.lt_size e
  rw [PyProof.Rows.sortedHeap_old (Nat.ne_of_lt hb) (by rw [size_push']; exact Nat.lt_succ_of_lt hb)]
  exact Heap.get?_push_of_some _ e
end
end Ft
/-! FtSetE: sorted(set(t)), sorted(d.values()): the readings by the evaluator. -/
namespace Ft
open PySem PySem.Spec PyProof.Rows L2
theorem mem_dedS {x : Str} : ∀ {l : List Str}, x ∈ dedS l ↔ x ∈ l
  | [] => Iff.rfl
  | y :: l => by
    unfold dedS
    split
    · rename_i h
      rw [mem_dedS, List.mem_cons]
      exact ⟨.inr, fun q => q.elim (fun e => e ▸ h) id⟩
    · rw [List.mem_cons, List.mem_cons, mem_dedS]
theorem dedS_nodup : ∀ l : List Str, (dedS l).Nodup
  | [] => List.nodup_nil
  | y :: l => by
    unfold dedS
    split
    · exact dedS_nodup l
    · rename_i h
      exact List.nodup_cons.mpr ⟨fun q => h (mem_dedS.mp q), dedS_nodup l⟩
section
variable {F : Fns} {K : PySem.W.Frag} {cl : Str → Addr} {W : WX} {X : Cx} {a : Ft.E} {ea : Expr} {pos p p2 p3 apos : Pos} {x : Str} {s : Nat}
theorem ssOk (hK : X.K = K) (hc : X.calm = true) (hg : Gl X "sorted") (hm : X.mg "sorted" = none) (hg2 : Gl X "set") (hm2 : X.mg "set" = none) (ha : PE X ea (rdE F K cl W a)) (hs : nostar ea = true) :
    PE X (.Call (.Name "sorted" p) [.Call (.Name "set" p2) [ea] [] p3] [] pos) (rdE F K cl W (.sset a)) := by
  refine PE.imp (pe_sset hc hg hm hg2 hm2 ha (star_cons hs)) fun σ H Q ⟨C, G, ρ, r, h⟩ => ⟨C, G, ρ, r, ?_⟩
  unfold evE at h
  refine h.bind.mono fun x ρ1 _ h1 G1 v1 H1 e1 r1 d1 => ?_
  obtain ⟨z, hz, h2⟩ := Out.bindc h1
  cases d1 with
  | tup q1 q2 =>
    obtain ⟨ys, g1, g2⟩ := bindR_ok_inv (show bindR (strsD _) (fun ys => if ys.length < 64 then Except.ok (PyData.list ((sortS (dedS ys)).map .str)) else stk) = Except.ok z from hz)
    obtain ⟨hl, ez⟩ := if_ok g2
    subst ez
    have ev := strs_of g1 q2
    subst ev
    rw [hK]
    refine ⟨_, ys, rfl, same_t r1.exG q1, hl, fun zs q hso hnd hmem hq => ?_⟩
    have e : zs = sortS (dedS ys) := rise_unique (rise_of_sortedS hso) (sortS_rise _) (by
      refine List.Perm.trans ?_ (sortS_perm _).symm
      rw [List.perm_ext_iff_of_nodup hnd (dedS_nodup ys)]
      intro k
      rw [hmem, mem_dedS])
    subst e
    have nG := r1.nG hq
    exact h2 _ _ _ (e1.trans (same_new nG)) (r1.know hq) (.lst (SqL.of upd_same) (dps_strs _ _))
  | _ => cases hz
theorem kvd_strs : ∀ {rs : List (Key × V)} {kvs : List (Key × D)} {is : List Str} {G : Hp}, KvD K G rs kvs → strsD (kvs.map (·.2)) = .ok is → rs.map (·.2) = is.map V.str
  | _, _, is, _, .nil, h => by
    cases h
    rfl
  | _, _, is, _, .cons hd a, h => by
    rw [List.map_cons] at h
    unfold strsD at h
    split at h
    · rename_i e
      cases e
    · rename_i b r e
      injection e with e1 e2
      subst e2
      have e1 : _ = PyData.str b := e1
      dsimp only at e1
      subst e1
      obtain ⟨bs, g1, g2⟩ := bindR_ok_inv h
      cases g2
      cases hd
      rw [List.map_cons, kvd_strs a g1]
      rfl
    · cases h
theorem s_dvals (hK : X.K = K) (hc0 : X.calm = true) (hg : Gl X "sorted") (hm : X.mg "sorted" = none) (hN : X.N[s]? = some x) (hv : Vis X.env.scope x) (hd : (x == ("__debug__" : Str)) = false) (hc : (x == ("__classdict__" : Str)) = false) (hline : (apos.endLine == p3.line) = true) :
    PE X (.Call (.Name "sorted" p) [.Call (.Attribute (.Name x p2) "values" apos) [] [] p3] [] pos) (rdE F K cl W (.dvals s)) := by
  refine PE.imp (pe_svals hc0 hg hm (pe_var hN hv hd hc) rfl hline) fun σ H Q ⟨C, G, ρ, r, h⟩ => ?_
  unfold evE at h
  obtain ⟨kvs, hk, h⟩ := Out.bindc h
  obtain ⟨is, hi, h⟩ := Out.bindc h
  obtain ⟨pp, rs, hp, g0, hkv⟩ := r.diAt (dicAt_inv hk)
  have h : Out C cl W σ (if is.length < 64 then Except.ok (PyData.list ((sortS is).map .str), ρ) else stk) _ := h
  split at h
  · rename_i hl
    refine ⟨.ref pp, hp, pp, rs, is, rfl, r.exG _ _ g0, kvd_strs hkv hi, hl, fun ys q hpm hso hq => ?_⟩
    have e : ys = sortS is := rise_unique (rise_of_sortedS hso) (sortS_rise _) (hpm.trans (sortS_perm _).symm)
    subst e
    have nG := r.nG hq
    exact h _ _ _ (same_new nG) (r.know hq) (.lst (SqL.of upd_same) (dps_strs _ _))
  · exact h.elim
end
end Ft
/-! FtEnd: facts by membership; the law's def. -/
namespace Ft
open PySem PySem.Spec PyProof.Rows L2
theorem ls0 : LsOk := ⟨lsOk, ssOk, s_dvals⟩
def isFree (b : Str) : He.Fa → Bool
  | .free x => decide (x = b)
  | _ => false
def isGlo (b : Str) : He.Fa → Bool
  | .glo x => decide (x = b)
  | _ => false
def isExc (b : Str) : He.Fa → Bool
  | .exc x => decide (x = b)
  | _ => false
def isExm (n q : Str) : He.Fa → Bool
  | .exm x y b => decide (x = n) && decide (y = q) && (b == decide (q = n))
  | _ => false
theorem mem_contains {l : List Str} {b : Str} (h : l.contains b = true) : b ∈ l := by simpa using h
theorem freeIn (fa : List He.Fa) (l : List Str) (h : (l.all fun b => fa.any (isFree b)) = true) (b : Str) (hb : l.contains b = true) : He.Fa.free b ∈ fa := by
  have h1 := List.all_eq_true.mp h b (mem_contains hb)
  obtain ⟨f, hf, e⟩ := List.any_eq_true.mp h1
  cases f <;> first | (cases e; done) | skip
  have e := of_decide_eq_true e
  subst e
  exact hf
theorem gloIn (fa : List He.Fa) (l : List Str) (h : (l.all fun b => fa.any (isGlo b)) = true) (b : Str) (hb : l.contains b = true) : He.Fa.glo b ∈ fa := by
  have h1 := List.all_eq_true.mp h b (mem_contains hb)
  obtain ⟨f, hf, e⟩ := List.any_eq_true.mp h1
  cases f <;> first | (cases e; done) | skip
  have e := of_decide_eq_true e
  subst e
  exact hf
theorem excIn1 (fa : List He.Fa) (l : List Str) (h : (l.all fun b => fa.any (isExc b)) = true) (b : Str) (hb : l.contains b = true) : He.Fa.exc b ∈ fa := by
  have h1 := List.all_eq_true.mp h b (mem_contains hb)
  obtain ⟨f, hf, e⟩ := List.any_eq_true.mp h1
  cases f <;> first | (cases e; done) | skip
  have e := of_decide_eq_true e
  subst e
  exact hf
theorem excIn2 (fa : List He.Fa) (l : List Str) (h : ((l.all fun b => fa.any (isGlo b)) && (l.all fun b => fa.any (isExc b))) = true) (b : Str) (hb : l.contains b = true) : He.Fa.glo b ∈ fa ∧ He.Fa.exc b ∈ fa := by
  rw [Bool.and_eq_true] at h
  exact ⟨gloIn fa l h.1 b hb, excIn1 fa l h.2 b hb⟩
theorem exmIn (fa : List He.Fa) (l : List (Str × Str)) (h : (l.all fun p => fa.any (isExm p.1 p.2)) = true) (n q : Str) (hb : l.contains (n, q) = true) : He.Fa.exm n q (decide (q = n)) ∈ fa := by
  have hm : (n, q) ∈ l := by simpa using hb
  have h1 := List.all_eq_true.mp h (n, q) hm
  obtain ⟨f, hf, e⟩ := List.any_eq_true.mp h1
  cases f <;> first | (cases e; done) | skip
  unfold isExm at e
  rw [Bool.and_eq_true, Bool.and_eq_true] at e
  obtain ⟨⟨e1, e2⟩, e3⟩ := e
  have e1 := of_decide_eq_true e1
  have e2 := of_decide_eq_true e2
  have e3 := eq_of_beq e3
  subst e1; subst e2; subst e3
  exact hf
section
variable {T : Sig} {U : SigX} {F : Fns} {fuel : Nat} {P : Program} {w : World} {K : PySem.W.Frag} {mg : Str → Option Value} {base : Heap} {cl : Str → Addr} {k : Nat} {N ps : List Str} {x qual : Str} {params : Arguments} {body : List Stmt} {scope : Scope} {f : Addr} {fd : FuncData} {d : Def}
theorem TabOk.plainOk (ls : LsOk) (t : TabOk T U F P w K mg base cl k) (Fd : FunD K x qual params body scope [] [] f fd) (S : FnScope N ps scope) (hp : d.ps = ps.length) (hn : d.n = N.length) (hm : mtL T U N scope d.b body = true) :
    FnOk P w K mg base (L2.CX P w) (k + 1) f fd ps (spF K cl d.ps (evF F fuel d)) := by
  have hpl : ps.length ≤ N.length := by have := congrArg List.length S.pre; rw [List.length_take] at this; omega
  refine Fd.ok S (fun vs H Q E h => ?_) (fun cdv A outer s H vs Q E hr h => ⟨_, (sndS ls d.b).sL (t.okS S hr) hm, run_plain hn (by omega) h⟩)
  rw [spF_len h, hp]
/-- nothing is let out -/
theorem toCX0 {sp : Sp} (F : FnOk P w K mg base (L2.CX P w) k f fd ps sp) : FnOk P w K mg base L2.CX0 k f fd ps (fun vs H Q _ => sp vs H Q fun _ _ _ => False) :=
  ⟨fun vs H Q E h => F.len _ _ _ _ h, fun A outer s H args us vs Q E hr e0 hb hv hs => codeAny_mono (F.run A outer s H args us vs Q _ hr e0 hb hv hs) fun r s' h => by
    cases r with
    | error e =>
      obtain ⟨_, _, _, _, _, _, _, _, _, _, _, _, h⟩ := h
      exact h.elim
    | ok fl => cases fl <;> exact h⟩
theorem ints_dps {H : Hp} : ∀ ns : List Int, DpAll K H (ns.map V.int) (ns.map PyData.int)
  | [] => .nil
  | n :: ns => .cons (.int n) (ints_dps ns)
theorem law_sp {g : List D → R D} {H : Hp} {a : Addr} {ns : List Int} (hp : g [.list (ns.map .int)] = .ok (.bool true)) (hS : SqL K H a (ns.map V.int)) : spF K cl 1 g [.ref a] H (fun v _ => v = .bl true) (fun _ _ _ => False) := by
  refine ⟨H, [.list (ns.map .int)], Same.refl _, .cons (.lst hS (ints_dps ns)) .nil, rfl, ?_⟩
  rw [hp]
  intro G' v H' _ _ _ _ d
  cases d
  rfl
end
end Ft
namespace FtLaw
open PySem Ft
abbrev FU : Nat := 20000
def T0 : Sig := ⟨[], [], ["len", "isinstance", "all", "any", "zip", "set", "enumerate", "tuple", "list", "range", "sorted", "max", "abs", "min", "str", "sum", "int", "bool", "dict"]⟩
def F0 : Fns := ⟨fun _ _ => stk, fun _ _ _ => stk⟩
def U : SigX := ⟨["InvalidParts"], [("InvalidParts", "InvalidParts")]⟩
def n_law_draw : List Str := ["script", "state", "many", "k", "cell", "digits", "number", "more"]
def b_law_draw : Def := ⟨3, 8, (.seq (.ite (.not (.tr (.loc 1))) (.seq (.app 1 (.prim .max (.bin .add (.lc (.one 4) (.sq (.loc 0)) .tt (.prim .abs (.loc 4))) (.lst (.cons (.int 0) .nil))))) .skip) .skip) (.seq (.app 1 (.int 0)) (.seq (.asg 3 (.prim .len (.loc 1))) (.seq (.asg 4 (.ife (.tr (.loc 0)) (.ix (.loc 0) (.bin .mod (.loc 3) (.prim .len (.loc 0)))) (.int 0))) (.seq (.asg 5 (.bin .mod (.ixv 1 (.int 0)) (.int 65536))) (.seq (.setx 1 (.int 0) (.bin .fdiv (.ixv 1 (.int 0)) (.int 65536))) (.seq (.asg 6 (.bin .mod (.bin .add (.bin .add (.loc 4) (.bin .mul (.int 40503) (.loc 5))) (.bin .mul (.int 104729) (.loc 3))) (.int 4294967291))) (.seq (.asg 6 (.bin .mod (.bin .mul (.bin .mod (.bin .mul (.loc 6) (.loc 6)) (.int 4294967279)) (.int 48271)) (.int 4294967291))) (.seq (.asg 7 (.bin .mod (.bin .mul (.bin .mod (.bin .mul (.loc 6) (.loc 6)) (.int 4294967279)) (.int 69621)) (.int 4294967291))) (.seq (.ret (.bin .mod (.bin .add (.bin .mul (.bin .fdiv (.loc 6) (.int 64)) (.int 67108864)) (.bin .fdiv (.loc 7) (.int 64))) (.loc 2))) .skip))))))))))⟩
abbrev FT_law_draw : Fns := F0
def f_law_draw : List D → List D → R (D × List D) := evG F0 FU b_law_draw
def T1 : Sig := sigG T0 "_law_draw" 3
def F1 : Fns := addG F0 "_law_draw" f_law_draw
def n_law_pick : List Str := ["script", "state", "some"]
def b_law_pick : Def := ⟨3, 3, (.seq (.ret (.ix (.loc 2) (.callS "_law_draw" 1 (.loc 0) (.cons (.prim .len (.loc 2)) .nil)))) .skip)⟩
abbrev FT_law_pick : Fns := F1
def f_law_pick : List D → List D → R (D × List D) := evG F1 FU b_law_pick
def T2 : Sig := sigG T1 "_law_pick" 3
def F2 : Fns := addG F1 "_law_pick" f_law_pick
def n_law_bent : List Str := ["script", "state", "thing", "at", "some"]
def b_law_bent : Def := ⟨3, 5, (.seq (.ite (.or (.not (.tr (.isi (.loc 2) .tuple))) (.or (.not (.tr (.loc 2))) (.tr (.cmp .eq (.callS "_law_draw" 1 (.loc 0) (.cons (.int 4) .nil)) (.int 0))))) (.seq (.asg 4 (.lst (.cons .non (.cons (.bl true) (.cons (.bl false) (.cons (.int 0) (.cons (.int 1) (.cons (.neg (.int 1)) (.cons (.int 3) (.cons (.int 10) (.cons (.str "a") (.cons (.str "b") (.cons (.str "") (.cons (.str "A") (.cons (.str "abcd") (.cons (.tup .nil) (.cons (.lst .nil) .nil))))))))))))))))) (.seq (.asg 4 (.bin .add (.loc 4) (.lst (.cons (.tup (.cons (.str "a") .nil)) (.cons (.tup (.cons (.str "b") (.cons (.str "a") .nil))) (.cons (.tup (.cons (.int 1) (.cons (.int 2) .nil))) (.cons (.tup (.cons (.int 1) (.cons (.tup (.cons (.str "a") (.cons (.str "b") .nil))) .nil))) .nil))))))) (.seq (.ite (.tr (.isi (.loc 2) .tuple)) (.seq (.asg 4 (.bin .add (.loc 4) (.lst (.cons (.prim .list (.loc 2)) (.cons (.slc (.loc 2) .nil (.tr (.neg (.int 1)))) (.cons (.bin .add (.loc 2) (.slc (.loc 2) (.tr (.neg (.int 1))) .nil)) (.cons (.slc (.loc 2) (.tr (.int 1)) .nil) (.cons (.rev (.loc 2)) (.cons (.bin .add (.loc 2) (.tup (.cons .non .nil))) .nil))))))))) .skip) .skip) (.seq (.ite (.tr (.isi (.loc 2) .int)) (.seq (.asg 4 (.bin .add (.loc 4) (.rep (.cons (.bin .add (.loc 2) (.int 1)) (.cons (.bin .sub (.loc 2) (.int 1)) (.cons (.not (.loc 2)) (.cons (.tup (.cons (.loc 2) .nil)) (.cons (.prim .str (.loc 2)) .nil))))) (.int 2)))) .skip) .skip) (.seq (.ret (.callS "_law_pick" 1 (.loc 0) (.cons (.loc 4) .nil))) .skip))))) .skip) (.seq (.asg 3 (.callS "_law_draw" 1 (.loc 0) (.cons (.prim .len (.loc 2)) .nil))) (.seq (.ret (.bin .add (.bin .add (.slc (.loc 2) .nil (.tr (.loc 3))) (.tup (.cons (.callS "_law_bent" 1 (.loc 0) (.cons (.ix (.loc 2) (.loc 3)) .nil)) .nil))) (.slc (.loc 2) (.tr (.bin .add (.loc 3) (.int 1))) .nil))) .skip)))⟩
abbrev FT_law_bent : Fns := F2
def f_law_bent : List D → List D → R (D × List D) := recG F2 FU "_law_bent" b_law_bent 9
def T3 : Sig := sigG T2 "_law_bent" 3
def F3 : Fns := addG F2 "_law_bent" f_law_bent
def n_law_drawn_list : List Str := ["script", "state", "parts", "most", "found", "step", "row", "part"]
def b_law_drawn_list : Def := ⟨4, 8, (.seq (.asg 4 (.lst .nil)) (.seq (.for_ (.one 5) (.rng1 (.bin .add (.int 1) (.callS "_law_draw" 1 (.loc 0) (.cons (.loc 3) .nil)))) (.seq (.asg 6 (.prim .tuple (.lc (.one 7) (.sq (.loc 2)) (.tr (.cmp .eq (.callS "_law_draw" 1 (.loc 0) (.cons (.int 2) .nil)) (.int 0))) (.loc 7)))) (.seq (.asg 4 (.bin .add (.loc 4) (.rep (.cons (.loc 6) .nil) (.prim .int (.and (.cmp .ne (.loc 6) (.tup .nil)) (.cmp .notin (.loc 6) (.loc 4))))))) .skip))) (.seq (.ret (.ife (.tr (.loc 4)) (.loc 4) (.lst (.cons (.loc 2) .nil)))) .skip)))⟩
abbrev FT_law_drawn_list : Fns := F3
def f_law_drawn_list : List D → List D → R (D × List D) := evG F3 FU b_law_drawn_list
def T4 : Sig := sigG T3 "_law_drawn_list" 4
def F4 : Fns := addG F3 "_law_drawn_list" f_law_drawn_list
def n_law_is_list : List Str := ["parts", "thing", "row", "one"]
def b_law_is_list : Def := ⟨2, 4, (.seq (.ite (.or (.not (.tr (.isi (.loc 1) .list))) (.tr (.cmp .eq (.loc 1) (.lst .nil)))) (.seq (.ret (.bl false)) .skip) .skip) (.seq (.for_ (.one 2) (.sq (.loc 1)) (.seq (.ite (.or (.not (.tr (.isi (.loc 2) .tuple))) (.tr (.cmp .eq (.loc 2) (.tup .nil)))) (.seq (.ret (.bl false)) .skip) .skip) (.seq (.ite (.tr (.lc (.one 3) (.sq (.loc 2)) (.or (.not (.tr (.isi (.loc 3) .str))) (.tr (.cmp .notin (.loc 3) (.loc 0)))) (.loc 3))) (.seq (.ret (.bl false)) .skip) .skip) (.seq (.ite (.tr (.cmp .ne (.prim .list (.loc 2)) (.sset (.loc 2)))) (.seq (.ret (.bl false)) .skip) .skip) .skip)))) (.seq (.ret (.cmp .eq (.prim .lenset (.loc 1)) (.prim .len (.loc 1)))) .skip)))⟩
abbrev FT_law_is_list : Fns := F4
def f_law_is_list : List D → R D := evF F4 FU b_law_is_list
def T5 : Sig := sigF T4 "_law_is_list" 2
def F5 : Fns := addF F4 "_law_is_list" f_law_is_list
def n_is_ascending : List Str := ["row", "one", "other"]
def b_is_ascending : Def := ⟨1, 3, (.seq (.ret (.prim .all (.lc (.two 1 2) (.zip (.loc 0) (.slc (.loc 0) (.tr (.int 1)) .nil)) .tt (.cmp .lt (.loc 1) (.loc 2))))) .skip)⟩
abbrev FT_is_ascending : Fns := F5
def f_is_ascending : List D → R D := evF F5 FU b_is_ascending
def T6 : Sig := sigF T5 "is_ascending" 1
def F6 : Fns := addF F5 "is_ascending" f_is_ascending
def n_is_set : List Str := ["parts", "candidate", "one"]
def b_is_set : Def := ⟨2, 3, (.seq (.ite (.or (.not (.tr (.isi (.loc 1) .tuple))) (.not (.tr (.prim .all (.lc (.one 2) (.sq (.loc 1)) .tt (.and (.isi (.loc 2) .str) (.cmp .isin (.loc 2) (.loc 0)))))))) (.seq (.ret (.bl false)) .skip) .skip) (.seq (.ret (.call "is_ascending" (.cons (.loc 1) .nil))) .skip))⟩
abbrev FT_is_set : Fns := F6
def f_is_set : List D → R D := evF F6 FU b_is_set
def T7 : Sig := sigF T6 "is_set" 2
def F7 : Fns := addF F6 "is_set" f_is_set
def n_is_valid_list : List Str := ["parts", "candidate", "one"]
def b_is_valid_list : Def := ⟨2, 3, (.seq (.ite (.or (.not (.tr (.isi (.loc 1) .list))) (.tr (.cmp .eq (.loc 1) (.lst .nil)))) (.seq (.ret (.bl false)) .skip) .skip) (.seq (.ite (.not (.tr (.prim .all (.lc (.one 2) (.sq (.loc 1)) .tt (.and (.call "is_set" (.cons (.loc 0) (.cons (.loc 2) .nil))) (.cmp .ne (.loc 2) (.tup .nil))))))) (.seq (.ret (.bl false)) .skip) .skip) (.seq (.ret (.cmp .eq (.prim .lenset (.loc 1)) (.prim .len (.loc 1)))) .skip)))⟩
abbrev FT_is_valid_list : Fns := F7
def f_is_valid_list : List D → R D := evF F7 FU b_is_valid_list
def T8 : Sig := sigF T7 "is_valid_list" 2
def F8 : Fns := addF F7 "is_valid_list" f_is_valid_list
def n_is_word : List Str := ["candidate", "sign"]
def b_is_word : Def := ⟨1, 2, (.seq (.ite (.or (.not (.tr (.isi (.loc 0) .str))) (.not (.tr (.chain .le .le (.int 1) (.prim .len (.loc 0)) (.int 4))))) (.seq (.ret (.bl false)) .skip) .skip) (.seq (.ret (.prim .all (.lc (.one 1) (.sq (.loc 0)) .tt (.chain .le .le (.str "a") (.loc 1) (.str "z"))))) .skip))⟩
abbrev FT_is_word : Fns := F8
def f_is_word : List D → R D := evF F8 FU b_is_word
def T9 : Sig := sigF T8 "is_word" 1
def F9 : Fns := addF F8 "is_word" f_is_word
def n_are_words : List Str := ["candidate", "one"]
def b_are_words : Def := ⟨1, 2, (.seq (.ite (.or (.not (.tr (.isi (.loc 0) .tuple))) (.not (.tr (.chain .le .le (.int 1) (.prim .len (.loc 0)) (.int 8))))) (.seq (.ret (.bl false)) .skip) .skip) (.seq (.ret (.and (.prim .all (.lc (.one 1) (.sq (.loc 0)) .tt (.call "is_word" (.cons (.loc 1) .nil)))) (.call "is_ascending" (.cons (.loc 0) .nil)))) .skip))⟩
abbrev FT_are_words : Fns := F9
def f_are_words : List D → R D := evF F9 FU b_are_words
def T10 : Sig := sigF T9 "are_words" 1
def F10 : Fns := addF F9 "are_words" f_are_words
def n_require_words : List Str := ["parts"]
def b_require_words : Def := ⟨1, 1, (.seq (.ite (.not (.tr (.call "are_words" (.cons (.loc 0) .nil)))) (.seq (.raise "InvalidParts") .skip) .skip) .skip)⟩
abbrev FT_require_words : Fns := F10
def f_require_words : List D → R D := evF F10 FU b_require_words
def T11 : Sig := sigF T10 "require_words" 1
def F11 : Fns := addF F10 "require_words" f_require_words
def n_is_list : List Str := ["parts", "candidate"]
def b_is_list : Def := ⟨2, 2, (.seq (.ex (.call "require_words" (.cons (.loc 0) .nil))) (.seq (.ret (.call "is_valid_list" (.cons (.loc 0) (.cons (.loc 1) .nil)))) .skip))⟩
abbrev FT_is_list : Fns := F11
def f_is_list : List D → R D := evF F11 FU b_is_list
def T12 : Sig := sigF T11 "is_list" 2
def F12 : Fns := addF F11 "is_list" f_is_list
def n_law_is_list_or : List Str := ["parts", "thing"]
def b_law_is_list_or : Def := ⟨2, 2, (.seq (.tryr (.call "is_list" (.cons (.loc 0) (.cons (.loc 1) .nil))) [("InvalidParts", "InvalidParts")] ["InvalidParts"]) .skip)⟩
abbrev FT_law_is_list_or : Fns := F12
def f_law_is_list_or : List D → R D := evF F12 FU b_law_is_list_or
def T13 : Sig := sigF T12 "_law_is_list_or" 2
def F13 : Fns := addF F12 "_law_is_list_or" f_law_is_list_or
def n_law_shuffled : List Str := ["script", "state", "things", "rest", "found"]
def b_law_shuffled : Def := ⟨3, 5, (.seq (.par2 3 4 true true (.prim .list (.loc 2)) (.lst .nil)) (.seq (.while_ (.tr (.loc 3)) (.seq (.app 4 (.pop 3 (.callS "_law_draw" 1 (.loc 0) (.cons (.prim .len (.loc 3)) .nil)))) .skip)) (.seq (.ret (.loc 4)) .skip)))⟩
abbrev FT_law_shuffled : Fns := F13
def f_law_shuffled : List D → List D → R (D × List D) := evG F13 FU b_law_shuffled
def T14 : Sig := sigG T13 "_law_shuffled" 3
def F14 : Fns := addG F13 "_law_shuffled" f_law_shuffled
def n_law_system : List Str := ["script", "state", "most", "names", "gates", "number", "pool", "inputs"]
def b_law_system : Def := ⟨3, 8, (.seq (.asg 3 (.callS "_law_shuffled" 1 (.loc 0) (.cons (.lst (.cons (.str "a") (.cons (.str "b") (.cons (.str "c") (.cons (.str "d") (.cons (.str "x") (.cons (.str "y") (.cons (.str "ab") (.cons (.str "zz") .nil))))))))) .nil))) (.seq (.asg 3 (.slc (.loc 3) .nil (.tr (.bin .add (.int 1) (.callS "_law_draw" 1 (.loc 0) (.cons (.loc 2) .nil)))))) (.seq (.asgF 4 (.lst .nil)) (.seq (.for_ (.one 5) (.rng1 (.bin .add (.int 1) (.callS "_law_draw" 1 (.loc 0) (.cons (.int 6) .nil)))) (.seq (.asg 6 (.callS "_law_shuffled" 1 (.loc 0) (.cons (.bin .add (.prim .list (.loc 3)) (.lrng (.loc 5))) .nil))) (.seq (.asg 7 (.slc (.loc 6) .nil (.tr (.bin .add (.int 1) (.callS "_law_draw" 1 (.loc 0) (.cons (.prim2 .min (.int 4) (.prim .len (.loc 6))) .nil)))))) (.seq (.ite (.and (.tr (.cmp .gt (.loc 5) (.int 0))) (.and (.tr (.cmp .notin (.bin .sub (.loc 5) (.int 1)) (.loc 7))) (.tr (.cmp .gt (.callS "_law_draw" 1 (.loc 0) (.cons (.int 3) .nil)) (.int 0))))) (.seq (.asg 7 (.bin .add (.loc 7) (.lst (.cons (.bin .sub (.loc 5) (.int 1)) .nil)))) .skip) .skip) (.seq (.app 4 (.tup (.cons (.bin .add (.int 1) (.callS "_law_draw" 1 (.loc 0) (.cons (.prim .len (.loc 7)) .nil))) (.cons (.prim .tuple (.loc 7)) .nil)))) .skip))))) (.seq (.ret (.tup (.cons (.prim .tuple (.prim .sorted (.loc 3))) (.cons (.prim .tuple (.loc 4)) .nil)))) .skip)))))⟩
abbrev FT_law_system : Fns := F14
def f_law_system : List D → List D → R (D × List D) := evG F14 FU b_law_system
def T15 : Sig := sigG T14 "_law_system" 3
def F15 : Fns := addG F14 "_law_system" f_law_system
def n_law : List Str := ["script", "state", "k", "parts", "sets", "things", "thing", "wrong", "row"]
def b_law : Def := ⟨1, 9, (.seq (.asgF 1 (.lst .nil)) (.seq (.for_ (.one 2) (.rng1 (.int 9)) (.seq (.asg 3 (.ix (.callS "_law_system" 1 (.loc 0) (.cons (.int 8) .nil)) (.int 0))) (.seq (.asg 4 (.callS "_law_drawn_list" 1 (.loc 0) (.cons (.loc 3) (.cons (.int 6) .nil)))) (.seq (.asgF 5 (.lst (.cons (.loc 4) (.cons (.prim .tuple (.loc 4)) (.cons (.lst .nil) (.cons (.bin .add (.loc 4) (.slc (.loc 4) .nil (.tr (.int 1)))) (.cons (.bin .add (.loc 4) (.lst (.cons (.tup .nil) .nil))) (.cons (.bin .add (.loc 4) (.lst (.cons (.tup (.cons (.str "q") .nil)) .nil))) .nil)))))))) (.seq (.asgF 5 (.bin .add (.loc 5) (.lst (.cons .non (.cons (.rev (.loc 4)) (.cons (.lst (.cons (.bin .add (.loc 3) (.loc 3)) .nil)) .nil)))))) (.seq (.asgF 5 (.bin .add (.loc 5) (.lst (.cons (.lst (.cons (.prim .list (.loc 3)) .nil)) (.cons (.lst (.cons (.rev (.loc 3)) .nil)) (.cons (.loc 3) (.cons (.lst (.cons (.int 1) .nil)) (.cons (.slc (.loc 4) (.tr (.int 1)) .nil) .nil)))))))) (.seq (.app 5 (.lc (.one 8) (.sq (.loc 4)) .tt (.callS "_law_bent" 1 (.loc 0) (.cons (.loc 8) .nil)))) (.seq (.for_ (.one 6) (.sq (.loc 5)) (.seq (.ite (.tr (.cmp .ne (.call "is_list" (.cons (.loc 3) (.cons (.loc 6) .nil))) (.call "_law_is_list" (.cons (.loc 3) (.cons (.loc 6) .nil))))) (.seq (.ret (.bl false)) .skip) .skip) .skip)) (.seq (.for_ (.one 7) (.sq (.lst (.cons (.tup .nil) (.cons (.prim .list (.loc 3)) (.cons (.bin .add (.loc 3) (.slc (.loc 3) .nil (.tr (.int 1)))) (.cons .non (.cons (.tup (.cons (.str "A") .nil)) (.cons (.tup (.cons (.str "abcde") .nil)) (.cons (.prim .tuple (.str "abcdefghi")) (.cons (.tup (.cons (.int 1) .nil)) .nil)))))))))) (.seq (.ite (.tr (.cmp .ne (.call "_law_is_list_or" (.cons (.loc 7) (.cons (.loc 4) .nil))) (.str "InvalidParts"))) (.seq (.ret (.bl false)) .skip) .skip) .skip)) .skip))))))))) (.seq (.ret (.bl true)) .skip)))⟩
abbrev FT_law : Fns := F15
def f_law : List D → R D := evF F15 FU b_law
def T16 : Sig := sigF T15 "law" 1
def F16 : Fns := addF F15 "law" f_law
theorem lk_law_pick__law_draw : FT_law_pick.g "_law_draw" = f_law_draw := by kernel_rfl
theorem lk_law_bent__law_draw : FT_law_bent.g "_law_draw" = f_law_draw := by kernel_rfl
theorem lk_law_bent__law_pick : FT_law_bent.g "_law_pick" = f_law_pick := by kernel_rfl
theorem lk_law_drawn_list__law_draw : FT_law_drawn_list.g "_law_draw" = f_law_draw := by kernel_rfl
theorem lk_is_set__is_ascending : FT_is_set.f "is_ascending" = f_is_ascending := by kernel_rfl
theorem lk_is_valid_list__is_set : FT_is_valid_list.f "is_set" = f_is_set := by kernel_rfl
theorem lk_are_words__is_ascending : FT_are_words.f "is_ascending" = f_is_ascending := by kernel_rfl
theorem lk_are_words__is_word : FT_are_words.f "is_word" = f_is_word := by kernel_rfl
theorem lk_require_words__are_words : FT_require_words.f "are_words" = f_are_words := by kernel_rfl
theorem lk_is_list__is_valid_list : FT_is_list.f "is_valid_list" = f_is_valid_list := by kernel_rfl
theorem lk_is_list__require_words : FT_is_list.f "require_words" = f_require_words := by kernel_rfl
theorem lk_law_is_list_or__is_list : FT_law_is_list_or.f "is_list" = f_is_list := by kernel_rfl
theorem lk_law_shuffled__law_draw : FT_law_shuffled.g "_law_draw" = f_law_draw := by kernel_rfl
theorem lk_law_system__law_draw : FT_law_system.g "_law_draw" = f_law_draw := by kernel_rfl
theorem lk_law_system__law_shuffled : FT_law_system.g "_law_shuffled" = f_law_shuffled := by kernel_rfl
theorem lk_law__law_bent : FT_law.g "_law_bent" = f_law_bent := by kernel_rfl
theorem lk_law__law_drawn_list : FT_law.g "_law_drawn_list" = f_law_drawn_list := by kernel_rfl
theorem lk_law__law_is_list : FT_law.f "_law_is_list" = f_law_is_list := by kernel_rfl
theorem lk_law__law_is_list_or : FT_law.f "_law_is_list_or" = f_law_is_list_or := by kernel_rfl
theorem lk_law__law_system : FT_law.g "_law_system" = f_law_system := by kernel_rfl
theorem lk_law__is_list : FT_law.f "is_list" = f_is_list := by kernel_rfl
end FtLaw
namespace FtHead
open PySem PySem.Spec PyProof.Rows L2 Ft FtLaw
def top (i : Nat) : Stmt := PySem.Challenge.pw_faulttrees_k08_lists_recognized.main.body.getD i (.Pass ⟨0, 0, 0, 0⟩)
def d_law_draw : He.DefD := ⟨("_law_draw", none), "_law_draw", "_law_draw", defArgs (top 13), defBody (top 13), defScope (top 13), [], []⟩
def d_law_pick : He.DefD := ⟨("_law_pick", none), "_law_pick", "_law_pick", defArgs (top 14), defBody (top 14), defScope (top 14), [], []⟩
def d_law_bent : He.DefD := ⟨("_law_bent", none), "_law_bent", "_law_bent", defArgs (top 16), defBody (top 16), defScope (top 16), [], []⟩
def d_law_drawn_list : He.DefD := ⟨("_law_drawn_list", none), "_law_drawn_list", "_law_drawn_list", defArgs (top 18), defBody (top 18), defScope (top 18), [], []⟩
def d_law_is_list : He.DefD := ⟨("_law_is_list", none), "_law_is_list", "_law_is_list", defArgs (top 19), defBody (top 19), defScope (top 19), [], []⟩
def d_is_ascending : He.DefD := ⟨("is_ascending", none), "is_ascending", "is_ascending", defArgs (top 4), defBody (top 4), defScope (top 4), [], []⟩
def d_is_set : He.DefD := ⟨("is_set", none), "is_set", "is_set", defArgs (top 7), defBody (top 7), defScope (top 7), [], []⟩
def d_is_valid_list : He.DefD := ⟨("is_valid_list", none), "is_valid_list", "is_valid_list", defArgs (top 10), defBody (top 10), defScope (top 10), [], []⟩
def d_is_word : He.DefD := ⟨("is_word", none), "is_word", "is_word", defArgs (top 5), defBody (top 5), defScope (top 5), [], []⟩
def d_are_words : He.DefD := ⟨("are_words", none), "are_words", "are_words", defArgs (top 6), defBody (top 6), defScope (top 6), [], []⟩
def d_require_words : He.DefD := ⟨("require_words", none), "require_words", "require_words", defArgs (top 9), defBody (top 9), defScope (top 9), [], []⟩
def d_is_list : He.DefD := ⟨("is_list", none), "is_list", "is_list", defArgs (top 11), defBody (top 11), defScope (top 11), [], []⟩
def d_law_is_list_or : He.DefD := ⟨("_law_is_list_or", none), "_law_is_list_or", "_law_is_list_or", defArgs (top 20), defBody (top 20), defScope (top 20), [], []⟩
def d_law_shuffled : He.DefD := ⟨("_law_shuffled", none), "_law_shuffled", "_law_shuffled", defArgs (top 15), defBody (top 15), defScope (top 15), [], []⟩
def d_law_system : He.DefD := ⟨("_law_system", none), "_law_system", "_law_system", defArgs (top 17), defBody (top 17), defScope (top 17), [], []⟩
def d_law : He.DefD := ⟨("law", none), "law", "law", defArgs (top 21), defBody (top 21), defScope (top 21), [], []⟩
def fn : List He.DefD := [d_law_draw, d_law_pick, d_law_bent, d_law_drawn_list, d_law_is_list, d_is_ascending, d_is_set, d_is_valid_list, d_is_word, d_are_words, d_require_words, d_is_list, d_law_is_list_or, d_law_shuffled, d_law_system, d_law]
def fa : List He.Fa := ([.glo "_law_draw", .glo "_law_pick", .glo "_law_bent", .glo "_law_drawn_list", .glo "_law_is_list", .glo "is_ascending", .glo "is_set", .glo "is_valid_list", .glo "is_word", .glo "are_words", .glo "require_words", .glo "is_list", .glo "_law_is_list_or", .glo "_law_shuffled", .glo "_law_system", .glo "law", .free "len", .free "isinstance", .free "all", .free "any", .free "zip", .free "set", .free "enumerate", .free "tuple", .free "list", .free "range", .free "sorted", .free "max", .free "abs", .free "min"] : List He.Fa) ++ ([.free "str", .free "sum", .free "int", .free "bool", .free "dict", .glo "InvalidParts", .exc "InvalidParts", .exm "InvalidParts" "InvalidParts" true] : List He.Fa)
def loose : List Str := (["is_ascending", "is_word", "are_words", "is_set", "require_words", "is_valid_list", "is_list", "_law_draw", "_law_pick", "_law_shuffled", "_law_bent", "_law_system", "_law_drawn_list", "_law_is_list", "_law_is_list_or", "FaultError", "InvalidParts"] : List Str)
abbrev R : PySem.W.OpenRow := PySem.W.OpenLaw.row PySem.Challenge.rw_faulttrees_k08_lists_recognized
abbrev hk : PySem.W.Hook := He.hookD 4 fa fn
def ob (s : PySem.W.SharedT) : He.AlD := He.obsDG 4 fa fn (HandSHeadRun.getT s)
theorem ob_eq (s : PySem.W.SharedT) : ob s = hk.obs s.abs := He.obsDG_eq (HandSHeadRun.getT_eq s)
theorem run (w : World) : HandSHeadRun.RunEq R (PySem.W.view R.prog [21]) hk ob 4000 loose w := by
  intro os
  kernel_rfl
section
variable {P : Program} {w : World} {K : PySem.W.Frag} {h : Heap} {mg : Str → Option Value} {base : Heap}
theorem tab0 (X : K.In h) (G : h.Ns mainGlobals mg) (c : He.SaysD fa fn K) : TabOk T0 U F0 P w K mg base (He.ga K) 0 where
  fs := fun x n e => by cases e
  gs := fun x n e => by cases e
  bs := fun b e => He.free_ok X G (c.facts (freeIn fa T0.bs (by decide +kernel) b e))
  xs := fun x e => by
    have m := excIn2 fa U.xs (by decide +kernel) x e
    obtain ⟨e1, e2, e3, e4⟩ := He.exc_ok (c.facts m.2)
    exact ⟨He.glo_ok X G (c.facts m.1), e1, e2, e3, e4⟩
  em := fun n q e => He.exm_ok (c.facts (exmIn fa U.em (by decide +kernel) n q e))
theorem sc_law_draw : FnScope n_law_draw ["script", "state", "many"] (defScope (top 13)) := ⟨rfl, rfl, rfl, by decide +kernel, rfl, by decide +kernel, by decide +kernel⟩
theorem mt_law_draw : mtL T0 U n_law_draw (defScope (top 13)) b_law_draw.b (defBody (top 13)) = true := by decide +kernel
theorem tab1 (X : K.In h) (G : h.Ns mainGlobals mg) (c : He.SaysD fa fn K) : TabOk T1 U F1 P w K mg base (He.ga K) 1 := by
  obtain ⟨fd, D⟩ := c.def_ 0 (d := d_law_draw) rfl
  have b : Binds K fd ["script", "state", "many"] [] := D.bindsN fun _ _ _ _ _ _ us hl => match us, hl with | [_, _, _], _ => rfl
  exact (tab0 X G c).addG (n := 3) ((tab0 X G c).state ls0 D sc_law_draw rfl rfl mt_law_draw (He.glo_ok X G (c.fact 0 (f := .glo "_law_draw") rfl)) b) (by decide)
theorem sc_law_pick : FnScope n_law_pick ["script", "state", "some"] (defScope (top 14)) := ⟨rfl, rfl, rfl, by decide +kernel, rfl, by decide +kernel, by decide +kernel⟩
theorem mt_law_pick : mtL T1 U n_law_pick (defScope (top 14)) b_law_pick.b (defBody (top 14)) = true := by decide +kernel
theorem tab2 (X : K.In h) (G : h.Ns mainGlobals mg) (c : He.SaysD fa fn K) : TabOk T2 U F2 P w K mg base (He.ga K) 2 := by
  obtain ⟨fd, D⟩ := c.def_ 1 (d := d_law_pick) rfl
  have b : Binds K fd ["script", "state", "some"] [] := D.bindsN fun _ _ _ _ _ _ us hl => match us, hl with | [_, _, _], _ => rfl
  exact (tab1 X G c).addG (n := 3) ((tab1 X G c).state ls0 D sc_law_pick rfl rfl mt_law_pick (He.glo_ok X G (c.fact 1 (f := .glo "_law_pick") rfl)) b) (by decide)
theorem sc_law_bent : FnScope n_law_bent ["script", "state", "thing"] (defScope (top 16)) := ⟨rfl, rfl, rfl, by decide +kernel, rfl, by decide +kernel, by decide +kernel⟩
theorem mt_law_bent : mtL (sigG T2 "_law_bent" b_law_bent.ps) U n_law_bent (defScope (top 16)) b_law_bent.b (defBody (top 16)) = true := by decide +kernel
theorem tab3 (X : K.In h) (G : h.Ns mainGlobals mg) (c : He.SaysD fa fn K) : TabOk T3 U F3 P w K mg base (He.ga K) 11 := by
  obtain ⟨fd, D⟩ := c.def_ 2 (d := d_law_bent) rfl
  have b : Binds K fd ["script", "state", "thing"] [] := D.bindsN fun _ _ _ _ _ _ us hl => match us, hl with | [_, _, _], _ => rfl
  exact (tab2 X G c).addG (n := 3) ((tab2 X G c).recG_ ls0 D sc_law_bent rfl rfl mt_law_bent (He.glo_ok X G (c.fact 2 (f := .glo "_law_bent") rfl)) b 9) (by decide)
theorem sc_law_drawn_list : FnScope n_law_drawn_list ["script", "state", "parts", "most"] (defScope (top 18)) := ⟨rfl, rfl, rfl, by decide +kernel, rfl, by decide +kernel, by decide +kernel⟩
theorem mt_law_drawn_list : mtL T3 U n_law_drawn_list (defScope (top 18)) b_law_drawn_list.b (defBody (top 18)) = true := by decide +kernel
theorem tab4 (X : K.In h) (G : h.Ns mainGlobals mg) (c : He.SaysD fa fn K) : TabOk T4 U F4 P w K mg base (He.ga K) 12 := by
  obtain ⟨fd, D⟩ := c.def_ 3 (d := d_law_drawn_list) rfl
  have b : Binds K fd ["script", "state", "parts", "most"] [] := D.bindsN fun _ _ _ _ _ _ us hl => match us, hl with | [_, _, _, _], _ => rfl
  exact (tab3 X G c).addG (n := 4) ((tab3 X G c).state ls0 D sc_law_drawn_list rfl rfl mt_law_drawn_list (He.glo_ok X G (c.fact 3 (f := .glo "_law_drawn_list") rfl)) b) (by decide)
theorem sc_law_is_list : FnScope n_law_is_list ["parts", "thing"] (defScope (top 19)) := ⟨rfl, rfl, rfl, by decide +kernel, rfl, by decide +kernel, by decide +kernel⟩
theorem mt_law_is_list : mtL T4 U n_law_is_list (defScope (top 19)) b_law_is_list.b (defBody (top 19)) = true := by decide +kernel
theorem tab5 (X : K.In h) (G : h.Ns mainGlobals mg) (c : He.SaysD fa fn K) : TabOk T5 U F5 P w K mg base (He.ga K) 13 := by
  obtain ⟨fd, D⟩ := c.def_ 4 (d := d_law_is_list) rfl
  have b : Binds K fd ["parts", "thing"] [] := D.bindsN fun _ _ _ _ _ _ us hl => match us, hl with | [_, _], _ => rfl
  exact (tab4 X G c).addF (n := 2) ((tab4 X G c).plain ls0 D sc_law_is_list rfl rfl mt_law_is_list (He.glo_ok X G (c.fact 4 (f := .glo "_law_is_list") rfl)) b) (by decide)
theorem sc_is_ascending : FnScope n_is_ascending ["row"] (defScope (top 4)) := ⟨rfl, rfl, rfl, by decide +kernel, rfl, by decide +kernel, by decide +kernel⟩
theorem mt_is_ascending : mtL T5 U n_is_ascending (defScope (top 4)) b_is_ascending.b (defBody (top 4)) = true := by decide +kernel
theorem tab6 (X : K.In h) (G : h.Ns mainGlobals mg) (c : He.SaysD fa fn K) : TabOk T6 U F6 P w K mg base (He.ga K) 14 := by
  obtain ⟨fd, D⟩ := c.def_ 5 (d := d_is_ascending) rfl
  have b : Binds K fd ["row"] [] := D.bindsN fun _ _ _ _ _ _ us hl => match us, hl with | [_], _ => rfl
  exact (tab5 X G c).addF (n := 1) ((tab5 X G c).plain ls0 D sc_is_ascending rfl rfl mt_is_ascending (He.glo_ok X G (c.fact 5 (f := .glo "is_ascending") rfl)) b) (by decide)
theorem sc_is_set : FnScope n_is_set ["parts", "candidate"] (defScope (top 7)) := ⟨rfl, rfl, rfl, by decide +kernel, rfl, by decide +kernel, by decide +kernel⟩
theorem mt_is_set : mtL T6 U n_is_set (defScope (top 7)) b_is_set.b (defBody (top 7)) = true := by decide +kernel
theorem tab7 (X : K.In h) (G : h.Ns mainGlobals mg) (c : He.SaysD fa fn K) : TabOk T7 U F7 P w K mg base (He.ga K) 15 := by
  obtain ⟨fd, D⟩ := c.def_ 6 (d := d_is_set) rfl
  have b : Binds K fd ["parts", "candidate"] [] := D.bindsN fun _ _ _ _ _ _ us hl => match us, hl with | [_, _], _ => rfl
  exact (tab6 X G c).addF (n := 2) ((tab6 X G c).plain ls0 D sc_is_set rfl rfl mt_is_set (He.glo_ok X G (c.fact 6 (f := .glo "is_set") rfl)) b) (by decide)
theorem sc_is_valid_list : FnScope n_is_valid_list ["parts", "candidate"] (defScope (top 10)) := ⟨rfl, rfl, rfl, by decide +kernel, rfl, by decide +kernel, by decide +kernel⟩
theorem mt_is_valid_list : mtL T7 U n_is_valid_list (defScope (top 10)) b_is_valid_list.b (defBody (top 10)) = true := by decide +kernel
theorem tab8 (X : K.In h) (G : h.Ns mainGlobals mg) (c : He.SaysD fa fn K) : TabOk T8 U F8 P w K mg base (He.ga K) 16 := by
  obtain ⟨fd, D⟩ := c.def_ 7 (d := d_is_valid_list) rfl
  have b : Binds K fd ["parts", "candidate"] [] := D.bindsN fun _ _ _ _ _ _ us hl => match us, hl with | [_, _], _ => rfl
  exact (tab7 X G c).addF (n := 2) ((tab7 X G c).plain ls0 D sc_is_valid_list rfl rfl mt_is_valid_list (He.glo_ok X G (c.fact 7 (f := .glo "is_valid_list") rfl)) b) (by decide)
theorem sc_is_word : FnScope n_is_word ["candidate"] (defScope (top 5)) := ⟨rfl, rfl, rfl, by decide +kernel, rfl, by decide +kernel, by decide +kernel⟩
theorem mt_is_word : mtL T8 U n_is_word (defScope (top 5)) b_is_word.b (defBody (top 5)) = true := by decide +kernel
theorem tab9 (X : K.In h) (G : h.Ns mainGlobals mg) (c : He.SaysD fa fn K) : TabOk T9 U F9 P w K mg base (He.ga K) 17 := by
  obtain ⟨fd, D⟩ := c.def_ 8 (d := d_is_word) rfl
  have b : Binds K fd ["candidate"] [] := D.bindsN fun _ _ _ _ _ _ us hl => match us, hl with | [_], _ => rfl
  exact (tab8 X G c).addF (n := 1) ((tab8 X G c).plain ls0 D sc_is_word rfl rfl mt_is_word (He.glo_ok X G (c.fact 8 (f := .glo "is_word") rfl)) b) (by decide)
theorem sc_are_words : FnScope n_are_words ["candidate"] (defScope (top 6)) := ⟨rfl, rfl, rfl, by decide +kernel, rfl, by decide +kernel, by decide +kernel⟩
theorem mt_are_words : mtL T9 U n_are_words (defScope (top 6)) b_are_words.b (defBody (top 6)) = true := by decide +kernel
theorem tab10 (X : K.In h) (G : h.Ns mainGlobals mg) (c : He.SaysD fa fn K) : TabOk T10 U F10 P w K mg base (He.ga K) 18 := by
  obtain ⟨fd, D⟩ := c.def_ 9 (d := d_are_words) rfl
  have b : Binds K fd ["candidate"] [] := D.bindsN fun _ _ _ _ _ _ us hl => match us, hl with | [_], _ => rfl
  exact (tab9 X G c).addF (n := 1) ((tab9 X G c).plain ls0 D sc_are_words rfl rfl mt_are_words (He.glo_ok X G (c.fact 9 (f := .glo "are_words") rfl)) b) (by decide)
theorem sc_require_words : FnScope n_require_words ["parts"] (defScope (top 9)) := ⟨rfl, rfl, rfl, by decide +kernel, rfl, by decide +kernel, by decide +kernel⟩
theorem mt_require_words : mtL T10 U n_require_words (defScope (top 9)) b_require_words.b (defBody (top 9)) = true := by decide +kernel
theorem tab11 (X : K.In h) (G : h.Ns mainGlobals mg) (c : He.SaysD fa fn K) : TabOk T11 U F11 P w K mg base (He.ga K) 19 := by
  obtain ⟨fd, D⟩ := c.def_ 10 (d := d_require_words) rfl
  have b : Binds K fd ["parts"] [] := D.bindsN fun _ _ _ _ _ _ us hl => match us, hl with | [_], _ => rfl
  exact (tab10 X G c).addF (n := 1) ((tab10 X G c).plain ls0 D sc_require_words rfl rfl mt_require_words (He.glo_ok X G (c.fact 10 (f := .glo "require_words") rfl)) b) (by decide)
theorem sc_is_list : FnScope n_is_list ["parts", "candidate"] (defScope (top 11)) := ⟨rfl, rfl, rfl, by decide +kernel, rfl, by decide +kernel, by decide +kernel⟩
theorem mt_is_list : mtL T11 U n_is_list (defScope (top 11)) b_is_list.b (defBody (top 11)) = true := by decide +kernel
theorem tab12 (X : K.In h) (G : h.Ns mainGlobals mg) (c : He.SaysD fa fn K) : TabOk T12 U F12 P w K mg base (He.ga K) 20 := by
  obtain ⟨fd, D⟩ := c.def_ 11 (d := d_is_list) rfl
  have b : Binds K fd ["parts", "candidate"] [] := D.bindsN fun _ _ _ _ _ _ us hl => match us, hl with | [_, _], _ => rfl
  exact (tab11 X G c).addF (n := 2) ((tab11 X G c).plain ls0 D sc_is_list rfl rfl mt_is_list (He.glo_ok X G (c.fact 11 (f := .glo "is_list") rfl)) b) (by decide)
theorem sc_law_is_list_or : FnScope n_law_is_list_or ["parts", "thing"] (defScope (top 20)) := ⟨rfl, rfl, rfl, by decide +kernel, rfl, by decide +kernel, by decide +kernel⟩
theorem mt_law_is_list_or : mtL T12 U n_law_is_list_or (defScope (top 20)) b_law_is_list_or.b (defBody (top 20)) = true := by decide +kernel
theorem tab13 (X : K.In h) (G : h.Ns mainGlobals mg) (c : He.SaysD fa fn K) : TabOk T13 U F13 P w K mg base (He.ga K) 21 := by
  obtain ⟨fd, D⟩ := c.def_ 12 (d := d_law_is_list_or) rfl
  have b : Binds K fd ["parts", "thing"] [] := D.bindsN fun _ _ _ _ _ _ us hl => match us, hl with | [_, _], _ => rfl
  exact (tab12 X G c).addF (n := 2) ((tab12 X G c).plain ls0 D sc_law_is_list_or rfl rfl mt_law_is_list_or (He.glo_ok X G (c.fact 12 (f := .glo "_law_is_list_or") rfl)) b) (by decide)
theorem sc_law_shuffled : FnScope n_law_shuffled ["script", "state", "things"] (defScope (top 15)) := ⟨rfl, rfl, rfl, by decide +kernel, rfl, by decide +kernel, by decide +kernel⟩
theorem mt_law_shuffled : mtL T13 U n_law_shuffled (defScope (top 15)) b_law_shuffled.b (defBody (top 15)) = true := by decide +kernel
theorem tab14 (X : K.In h) (G : h.Ns mainGlobals mg) (c : He.SaysD fa fn K) : TabOk T14 U F14 P w K mg base (He.ga K) 22 := by
  obtain ⟨fd, D⟩ := c.def_ 13 (d := d_law_shuffled) rfl
  have b : Binds K fd ["script", "state", "things"] [] := D.bindsN fun _ _ _ _ _ _ us hl => match us, hl with | [_, _, _], _ => rfl
  exact (tab13 X G c).addG (n := 3) ((tab13 X G c).state ls0 D sc_law_shuffled rfl rfl mt_law_shuffled (He.glo_ok X G (c.fact 13 (f := .glo "_law_shuffled") rfl)) b) (by decide)
theorem sc_law_system : FnScope n_law_system ["script", "state", "most"] (defScope (top 17)) := ⟨rfl, rfl, rfl, by decide +kernel, rfl, by decide +kernel, by decide +kernel⟩
theorem mt_law_system : mtL T14 U n_law_system (defScope (top 17)) b_law_system.b (defBody (top 17)) = true := by decide +kernel
theorem tab15 (X : K.In h) (G : h.Ns mainGlobals mg) (c : He.SaysD fa fn K) : TabOk T15 U F15 P w K mg base (He.ga K) 23 := by
  obtain ⟨fd, D⟩ := c.def_ 14 (d := d_law_system) rfl
  have b : Binds K fd ["script", "state", "most"] [] := D.bindsN fun _ _ _ _ _ _ us hl => match us, hl with | [_, _, _], _ => rfl
  exact (tab14 X G c).addG (n := 3) ((tab14 X G c).state ls0 D sc_law_system rfl rfl mt_law_system (He.glo_ok X G (c.fact 14 (f := .glo "_law_system") rfl)) b) (by decide)
theorem sc_law : FnScope n_law ["script"] (defScope (top 21)) := ⟨rfl, rfl, rfl, by decide +kernel, rfl, by decide +kernel, by decide +kernel⟩
theorem mt_law : mtL T15 U n_law (defScope (top 21)) b_law.b (defBody (top 21)) = true := by decide +kernel
end
end FtHead
open PySem PySem.W PySem.Calls PyProof.Rows L2 Ft FtLaw FtHead in
theorem ft_end (hp : ∀ ns : List Int, ns.length ≤ 63 → f_law [.list (ns.map .int)] = .ok (.bool true)) : PySem.Challenge.rw_faulttrees_k08_lists_recognized.Holds := by
  w_on; o_law
  refine HandSHeadRun.head_any (r := OpenLaw.row PySem.Challenge.rw_faulttrees_k08_lists_recognized) (q := view (OpenLaw.row PySem.Challenge.rw_faulttrees_k08_lists_recognized).prog [21]) (H := FtHead.hk) (ob := FtHead.ob) (M := 4000) (loose := FtHead.loose) (d := HandSHeadRun.topDef (OpenLaw.row PySem.Challenge.rw_faulttrees_k08_lists_recognized).prog 21) (kwd := []) FtHead.ob_eq
    (by kernel_rfl) (fun s => by kernel_rfl) FtHead.run (by kernel_rfl) (by kernel_rfl) (by kernel_rfl) (by rfl) (by first | assumption | decide +kernel) (by decide +kernel) ⟨rfl, rfl, rfl, rfl, rfl, by decide +kernel⟩ ?hw ?hc
  case hw => w_witness2
  case hc =>
    refine L2.walk_ofE (l := PySem.Challenge.rw_faulttrees_k08_lists_recognized) (n := 63) (k := 24) (x := "script") (CX := L2.CX0) rfl (by decide) (by kernel_rfl) ⟨rfl, by decide, by decide⟩ ?F (fun _ _ _ _ z => z)
    intro w mg fa h Y G hmg0
    obtain ⟨K, KX, c⟩ := Y
    have hmg : mg ("law" : PySem.Str) = some (.ref fa) := by
      have e : (HandSHeadRun.topDef (OpenLaw.row PySem.Challenge.rw_faulttrees_k08_lists_recognized).prog 21).name = ("law" : PySem.Str) := by kernel_rfl
      rw [← e]
      exact hmg0
    obtain ⟨fd, D⟩ := c.def_ 15 (d := d_law) rfl
    have e := hmg.symm.trans (He.glo_ok KX G (c.fact 15 (f := .glo "law") rfl))
    cases e
    exact ⟨K, fd, (fun vs H Q _ => spF K (He.ga K) 1 f_law vs H Q fun _ _ _ => False), KX, fun s v => (FunD.bindsA (ps := ["script"]) D fun _ _ _ _ _ _ us hl => match us, hl with | [_], _ => rfl) s [v] rfl, fun H a ns hl _ hS => law_sp (hp ns hl) hS,
      fun base _ _ => toCX0 ((tab15 (P := (PySem.Challenge.rw_faulttrees_k08_lists_recognized).prog) (w := w) (base := base) KX G c).plainOk (fuel := FU) ls0 D sc_law rfl rfl mt_law)⟩
/-! FtSimp: the evaluator's steps as rewriting rules. -/
namespace Ft
open PySem
section
variable {F : Fns} {ρ : Ft.Env} {n : Nat}
@[simp] theorem evE_loc (i : Nat) : evE F (.loc i) ρ = rd ρ i := rfl
@[simp] theorem evE_non : evE F .non ρ = .ok (.none, ρ) := rfl
@[simp] theorem evE_bl (b : Bool) : evE F (.bl b) ρ = .ok (.bool b, ρ) := rfl
@[simp] theorem evE_int (b : Int) : evE F (.int b) ρ = .ok (.int b, ρ) := rfl
@[simp] theorem evE_str (b : Str) : evE F (.str b) ρ = .ok (.str b, ρ) := rfl
@[simp] theorem evE_bin (o : Bi) (a b : E) : evE F (.bin o a b) ρ = bindR (evE F a ρ) fun p => bindR (evE F b p.2) fun q => bindC (binD o p.1 q.1) fun z => .ok (z, q.2) := rfl
@[simp] theorem evE_neg (a : E) : evE F (.neg a) ρ = bindR (evE F a ρ) fun p => (match p.1 with | .int i => .ok (.int (-i), p.2) | _ => stk) := rfl
@[simp] theorem evE_not (a : E) : evE F (.not a) ρ = bindR (evE F a ρ) fun p => bindC (truthD p.1) fun b => .ok (.bool (!b), p.2) := rfl
@[simp] theorem evE_rep (as k : E) : evE F (.rep as k) ρ = bindR (evA F as ρ) fun p => bindR (evE F k p.2) fun q => bindC (repD p.1 q.1) fun zs => .ok (.list zs, q.2) := rfl
@[simp] theorem evE_and (a b : E) : evE F (.and a b) ρ = bindR (evE F a ρ) fun p => (match p.1 with | .bool true => evE F b p.2 | .bool false => .ok (.bool false, p.2) | _ => stk) := rfl
@[simp] theorem evE_or (a b : E) : evE F (.or a b) ρ = bindR (evE F a ρ) fun p => (match p.1 with | .bool false => evE F b p.2 | .bool true => .ok (.bool true, p.2) | _ => stk) := rfl
@[simp] theorem evE_cmp (c : Cm) (a b : E) : evE F (.cmp c a b) ρ = bindR (evE F a ρ) fun p => bindR (pk b p.2 (evE F b p.2)) fun q => bindC (cmpD c p.1 q.1) fun z => .ok (.bool z, q.2) := rfl
@[simp] theorem evE_chain (c c' : Cm) (a b e : E) : evE F (.chain c c' a b e) ρ = bindR (evE F a ρ) fun p => bindR (evE F b p.2) fun q => bindC (cmpD c p.1 q.1) fun z =>
      if z then bindR (evE F e q.2) fun u => bindC (cmpD c' q.1 u.1) fun z' => .ok (.bool z', u.2) else .ok (.bool false, q.2) := rfl
@[simp] theorem evE_chain3 (c c' c2 : Cm) (a b e f : E) : evE F (.chain3 c c' c2 a b e f) ρ = bindR (evE F a ρ) fun p => bindR (evE F b p.2) fun q => bindC (cmpD c p.1 q.1) fun z =>
      if z then bindR (evE F e q.2) fun u => bindC (cmpD c' q.1 u.1) fun z' => (if z' then bindR (evE F f u.2) fun v => bindC (cmpD c2 u.1 v.1) fun z2 => .ok (.bool z2, v.2) else .ok (.bool false, u.2)) else .ok (.bool false, q.2) := rfl
@[simp] theorem evE_ife (t a b : E) : evE F (.ife t a b) ρ = bindR (evT F t ρ) fun p => if p.1 then evE F a p.2 else evE F b p.2 := rfl
@[simp] theorem evE_tup (as : E) : evE F (.tup as) ρ = bindR (evA F as ρ) fun p => .ok (.tuple p.1, p.2) := rfl
@[simp] theorem evE_lst (as : E) : evE F (.lst as) ρ = bindR (evA F as ρ) fun p => .ok (.list p.1, p.2) := rfl
@[simp] theorem evE_call (f : Str) (as : E) : evE F (.call f as) ρ = bindR (evA F as ρ) fun p => bindR (F.f f p.1) fun d => .ok (d, p.2) := rfl
@[simp] theorem evE_callS (f : Str) (i : Nat) (a as : E) : evE F (.callS f i a as) ρ = bindC (lstAt ρ i) fun _ => bindR (evE F a ρ) fun p0 => bindR (evA F as p0.2) fun p => bindC (lstAt p.2 i) fun sm => bindC (F.g f (p0.1 :: p.1) sm.1) fun r => .ok (r.1, p.2.set i (sm.2 r.2)) := rfl
@[simp] theorem evE_prim (p : Pr) (a : E) : evE F (.prim p a) ρ = bindR (pk a ρ (evE F a ρ)) fun q => bindC (primD p q.1) fun z => .ok (z, q.2) := rfl
@[simp] theorem evE_prim2 (o : Pr2) (a b : E) : evE F (.prim2 o a b) ρ = bindR (evE F a ρ) fun p => bindR (evE F b p.2) fun q => bindC (prim2D o p.1 q.1) fun z => .ok (z, q.2) := rfl
@[simp] theorem evE_isi (a : E) (t : Ty) : evE F (.isi a t) ρ = bindR (pk a ρ (evE F a ρ)) fun q => .ok (.bool (isTy t q.1), q.2) := rfl
@[simp] theorem evE_ix (a b : E) : evE F (.ix a b) ρ = bindR (evE F a ρ) fun p => bindR (evE F b p.2) fun q => bindC (ixD p.1 q.1) fun z => .ok (z, q.2) := rfl
@[simp] theorem evE_lcv (t : Tg) (s : Nat) (c e : E) : evE F (.lcv t s c e) ρ = (match ρ[s]? with
    | some (.mu xs) => if xs.length < LIM then bindR (calmR (lcL t (evT F c) (evE F e) xs (clr t (ρ.set s .no)))) fun q => .ok (.list q.1, (back t (ρ.set s .no) q.2).set s (.mu xs)) else stk
    | _ => stk) := rfl
@[simp] theorem evE_dget (s : Nat) (i : E) : evE F (.dget s i) ρ = bindC (dicAt ρ s) fun _ => bindR (evE F i ρ) fun p => bindC (keyD p.1) fun k => bindC (dicAt p.2 s) fun kvs => (match valA kvs k with | some d => .ok (d, p.2) | none => stk) := rfl
@[simp] theorem evE_sset (a : E) : evE F (.sset a) ρ = bindR (evE F a ρ) fun q => bindC (ssetD q.1) fun z => .ok (z, q.2) := by rw [evE]
@[simp] theorem evE_dvals (s : Nat) : evE F (.dvals s) ρ = bindC (dicAt ρ s) fun kvs => bindC (strsD (kvs.map (·.2))) fun is => if is.length < 64 then .ok (.list ((sortS is).map .str), ρ) else stk := by rw [evE]
@[simp] theorem evE_dgetd (s : Nat) (i d : E) : evE F (.dgetd s i d) ρ = bindC (dicAt ρ s) fun _ => bindR (evE F i ρ) fun p => bindC (keyD p.1) fun k => bindR (evE F d p.2) fun q => bindC (dicAt q.2 s) fun kvs => .ok ((valA kvs k).getD q.1, q.2) := rfl
@[simp] theorem evE_ixv (s : Nat) (i : E) : evE F (.ixv s i) ρ = bindC (peek ρ s) fun _ => bindR (evE F i ρ) fun p => bindC (peek p.2 s) fun q => bindC (ixD q.1 p.1) fun z => .ok (z, q.2) := rfl
@[simp] theorem evE_slc (a lo hi : E) : evE F (.slc a lo hi) ρ = bindR (evE F a ρ) fun p => bindR (evO F lo p.2) fun l => bindR (evO F hi l.2) fun h => bindC (slcD l.1 h.1 p.1) fun z => .ok (z, h.2) := rfl
@[simp] theorem evE_rev (a : E) : evE F (.rev a) ρ = bindR (evE F a ρ) fun p => bindC (revD p.1) fun z => .ok (z, p.2) := rfl
@[simp] theorem evE_lrng (a : E) : evE F (.lrng a) ρ = bindR (evE F a ρ) fun p => bindC (lrngD p.1) fun z => .ok (.list z, p.2) := rfl
@[simp] theorem evE_pop (s : Nat) (i : E) : evE F (.pop s i) ρ = bindC (lstAt ρ s) fun _ => bindR (evE F i ρ) fun p => bindC (optI p.1) fun k => bindC (lstAt p.2 s) fun dm => bindC (natIx dm.1.length k) fun j =>
      bindC (atD dm.1 k) fun d => .ok (d, p.2.set s (dm.2 (dm.1.eraseIdx j))) := rfl
@[simp] theorem evE_lc (t : Tg) (it c e : E) : evE F (.lc t it c e) ρ = bindR (evI F it ρ) fun p => if p.1.length < LIM then
      bindR (calmR (lcL t (evT F c) (evE F e) p.1 (clr t p.2))) fun q => .ok (.list q.1, back t p.2 q.2) else stk := rfl
@[simp] theorem evA_nil : evA F .nil ρ = .ok ([], ρ) := rfl
@[simp] theorem evA_cons (e es : E) : evA F (.cons e es) ρ = bindR (evE F e ρ) fun p => bindR (evA F es p.2) fun q => .ok (p.1 :: q.1, q.2) := rfl
@[simp] theorem evO_nil : evO F .nil ρ = .ok (none, ρ) := rfl
@[simp] theorem evO_tr (a : E) : evO F (.tr a) ρ = bindR (evE F a ρ) fun p => bindC (optI p.1) fun i => .ok (some i, p.2) := rfl
@[simp] theorem evT_ife (t a b : E) : evT F (.ife t a b) ρ = bindR (evT F t ρ) fun p => if p.1 then evT F a p.2 else evT F b p.2 := rfl
@[simp] theorem evT_tt : evT F .tt ρ = .ok (true, ρ) := rfl
@[simp] theorem evT_not (a : E) : evT F (.not a) ρ = bindR (evT F a ρ) fun p => .ok (!p.1, p.2) := rfl
@[simp] theorem evT_and (a b : E) : evT F (.and a b) ρ = bindR (evT F a ρ) fun p => if p.1 then evT F b p.2 else .ok (false, p.2) := rfl
@[simp] theorem evT_or (a b : E) : evT F (.or a b) ρ = bindR (evT F a ρ) fun p => if p.1 then .ok (true, p.2) else evT F b p.2 := rfl
@[simp] theorem evT_tr (a : E) : evT F (.tr a) ρ = bindR (pk a ρ (evE F a ρ)) fun p => bindC (truthD p.1) fun b => .ok (b, p.2) := rfl
@[simp] theorem evI_sq (a : E) : evI F (.sq a) ρ = bindR (evE F a ρ) fun p => bindC (iterD p.1) fun xs => .ok (xs, p.2) := rfl
@[simp] theorem evI_rng1 (a : E) : evI F (.rng1 a) ρ = bindR (evE F a ρ) fun p => bindC (rngDD (.int 0) p.1 (.int 1)) fun xs => .ok (xs, p.2) := rfl
@[simp] theorem evI_rng2 (a b : E) : evI F (.rng2 a b) ρ = bindR (evE F a ρ) fun p => bindR (evE F b p.2) fun q => bindC (rngDD p.1 q.1 (.int 1)) fun xs => .ok (xs, q.2) := rfl
@[simp] theorem evI_rng3 (a b c : E) : evI F (.rng3 a b c) ρ = bindR (evE F a ρ) fun p => bindR (evE F b p.2) fun q => bindR (evE F c q.2) fun r => bindC (rngDD p.1 q.1 r.1) fun xs => .ok (xs, r.2) := rfl
@[simp] theorem evI_enum (a : E) : evI F (.enum a) ρ = bindR (evE F a ρ) fun p => bindC (itemsD p.1) fun xs => .ok (enumL 0 xs, p.2) := rfl
@[simp] theorem evI_zip (a b : E) : evI F (.zip a b) ρ = bindR (evE F a ρ) fun p => bindR (evE F b p.2) fun q => bindC (zipD p.1 q.1) fun xs => .ok (xs, q.2) := rfl
@[simp] theorem pk_loc (i : Nat) (r : R (D × Ft.Env)) : pk (.loc i) ρ r = peek ρ i := rfl
@[simp] theorem evS_skip : evS F n .skip ρ = .ok (.nx, ρ) := rfl
@[simp] theorem evS_seq (a b : S) : evS F n (.seq a b) ρ = bindR (evS F n a ρ) fun p => (match p.1 with | .nx => evS F n b p.2 | .rt d => .ok (.rt d, p.2)) := rfl
@[simp] theorem evS_asg (i : Nat) (e : E) : evS F n (.asg i e) ρ = bindR (evE F e ρ) fun p => .ok (.nx, p.2.set i (.im p.1)) := rfl
@[simp] theorem evS_asgF (i : Nat) (e : E) : evS F n (.asgF i e) ρ = bindR (evE F e ρ) fun p => bindC (sto true p.1) fun c => .ok (.nx, p.2.set i c) := rfl
@[simp] theorem evS_par2 (i j : Nat) (fi fj : Bool) (a b : E) : evS F n (.par2 i j fi fj a b) ρ = bindR (evE F a ρ) fun p => bindC (sto fi p.1) fun c => bindR (evE F b p.2) fun q => bindC (sto fj q.1) fun c' =>
      .ok (.nx, (q.2.set i c).set j c') := rfl
@[simp] theorem evS_unp (i j : Nat) (e : E) : evS F n (.unp i j e) ρ = bindR (evE F e ρ) fun p => bindC (tgt (.two i j) p.1 p.2) fun ρ2 => .ok (.nx, ρ2) := rfl
@[simp] theorem evS_setx (s : Nat) (ix e : E) : evS F n (.setx s ix e) ρ = bindR (evE F e ρ) fun d => bindC (lstAt d.2 s) fun _ => bindR (evE F ix d.2) fun y => bindC (optI y.1) fun k => bindC (lstAt y.2 s) fun dm =>
      bindC (natIx dm.1.length k) fun j => .ok (.nx, y.2.set s (dm.2 (dm.1.set j d.1))) := rfl
@[simp] theorem evS_augx (s : Nat) (o : Bi) (ix e : E) : evS F n (.augx s o ix e) ρ = bindC (lstAt ρ s) fun _ => bindR (evE F ix ρ) fun y => bindC (optI y.1) fun k => bindC (lstAt y.2 s) fun ds => bindC (natIx ds.1.length k) fun j =>
      bindC (atD ds.1 k) fun x => bindR (evE F e y.2) fun d => bindC (augD o x d.1) fun z => bindC (lstAt d.2 s) fun ds2 => bindC (natIx ds2.1.length k) fun j2 =>
        .ok (.nx, d.2.set s (ds2.2 (ds2.1.set j2 z))) := rfl
@[simp] theorem evS_asgD (i : Nat) (t : Tg) (it c k v : E) : evS F n (.asgD i t it c k v) ρ = bindR (evI F it ρ) fun p => if p.1.length < LIM then
      bindR (calmR (dcL t (evT F c) (evE F k) (evE F v) p.1 (clr t p.2) [])) fun q => .ok (.nx, (back t p.2 q.2).set i (.di q.1)) else stk := rfl
@[simp] theorem evS_aug (i : Nat) (o : Bi) (e : E) : evS F n (.aug i o e) ρ = (match ρ[i]? with
    | some (.im x) => bindR (evE F e ρ) fun y => bindC (augD o x y.1) fun z => .ok (.nx, y.2.set i (.im z))
    | _ => stk) := rfl
@[simp] theorem evS_app (s : Nat) (e : E) : evS F n (.app s e) ρ = bindC (lstAt ρ s) fun _ => bindR (evE F e ρ) fun p => bindC (lstAt p.2 s) fun dm => if dm.1.length < LIM then .ok (.nx, p.2.set s (dm.2 (dm.1 ++ [p.1]))) else stk := rfl
@[simp] theorem evS_ex (e : E) : evS F n (.ex e) ρ = bindR (evE F e ρ) fun p => .ok (.nx, p.2) := rfl
@[simp] theorem evS_ret (e : E) : evS F n (.ret e) ρ = bindR (evE F e ρ) fun p => .ok (.rt p.1, p.2) := rfl
@[simp] theorem evS_ite (t : E) (a b : S) : evS F n (.ite t a b) ρ = bindR (evT F t ρ) fun p => if p.1 then evS F n a p.2 else evS F n b p.2 := rfl
@[simp] theorem evS_for (t : Tg) (it : E) (b : S) : evS F n (.for_ t it b) ρ = bindR (evI F it ρ) fun p => forL t (evS F n b) p.1 p.2 := rfl
@[simp] theorem evS_while (t : E) (b : S) : evS F n (.while_ t b) ρ = whileL (evT F t) (evS F n b) n ρ := rfl
@[simp] theorem evS_raise (x : Str) : evS F n (.raise x) ρ = .error (.exc x) := rfl
end
@[simp] theorem pk_bin {ρ : Ft.Env} (o : Bi) (a b : E) (r : R (D × Ft.Env)) : pk (.bin o a b) ρ r = r := rfl
@[simp] theorem pk_neg {ρ : Ft.Env} (a : E) (r : R (D × Ft.Env)) : pk (.neg a) ρ r = r := rfl
@[simp] theorem pk_cmp {ρ : Ft.Env} (o : Cm) (a b : E) (r : R (D × Ft.Env)) : pk (.cmp o a b) ρ r = r := rfl
@[simp] theorem pk_chain {ρ : Ft.Env} (o o' : Cm) (a b c : E) (r : R (D × Ft.Env)) : pk (.chain o o' a b c) ρ r = r := rfl
@[simp] theorem pk_and {ρ : Ft.Env} (a b : E) (r : R (D × Ft.Env)) : pk (.and a b) ρ r = r := rfl
@[simp] theorem pk_or {ρ : Ft.Env} (a b : E) (r : R (D × Ft.Env)) : pk (.or a b) ρ r = r := rfl
@[simp] theorem pk_not {ρ : Ft.Env} (a : E) (r : R (D × Ft.Env)) : pk (.not a) ρ r = r := rfl
@[simp] theorem pk_ife {ρ : Ft.Env} (t a b : E) (r : R (D × Ft.Env)) : pk (.ife t a b) ρ r = r := rfl
@[simp] theorem pk_tup {ρ : Ft.Env} (a : E) (r : R (D × Ft.Env)) : pk (.tup a) ρ r = r := rfl
@[simp] theorem pk_lst {ρ : Ft.Env} (a : E) (r : R (D × Ft.Env)) : pk (.lst a) ρ r = r := rfl
@[simp] theorem pk_call {ρ : Ft.Env} (f : Str) (a : E) (r : R (D × Ft.Env)) : pk (.call f a) ρ r = r := rfl
@[simp] theorem pk_callS {ρ : Ft.Env} (f : Str) (i : Nat) (a b : E) (r : R (D × Ft.Env)) : pk (.callS f i a b) ρ r = r := rfl
@[simp] theorem pk_prim {ρ : Ft.Env} (p : Pr) (a : E) (r : R (D × Ft.Env)) : pk (.prim p a) ρ r = r := rfl
@[simp] theorem pk_prim2 {ρ : Ft.Env} (p : Pr2) (a b : E) (r : R (D × Ft.Env)) : pk (.prim2 p a b) ρ r = r := rfl
@[simp] theorem pk_isi {ρ : Ft.Env} (a : E) (t : Ty) (r : R (D × Ft.Env)) : pk (.isi a t) ρ r = r := rfl
@[simp] theorem pk_ix {ρ : Ft.Env} (a b : E) (r : R (D × Ft.Env)) : pk (.ix a b) ρ r = r := rfl
@[simp] theorem pk_ixv {ρ : Ft.Env} (s : Nat) (b : E) (r : R (D × Ft.Env)) : pk (.ixv s b) ρ r = r := rfl
@[simp] theorem pk_lcv {ρ : Ft.Env} (t : Tg) (s : Nat) (c e : E) (r : R (D × Ft.Env)) : pk (.lcv t s c e) ρ r = r := rfl
@[simp] theorem pk_sset {ρ : Ft.Env} (a : E) (r : R (D × Ft.Env)) : pk (.sset a) ρ r = r := rfl
@[simp] theorem pk_dvals {ρ : Ft.Env} (s : Nat) (r : R (D × Ft.Env)) : pk (.dvals s) ρ r = r := rfl
@[simp] theorem pk_dgetd {ρ : Ft.Env} (s : Nat) (a b : E) (r : R (D × Ft.Env)) : pk (.dgetd s a b) ρ r = r := rfl
@[simp] theorem pk_chain3 {ρ : Ft.Env} (o o' o2 : Cm) (a b c d : E) (r : R (D × Ft.Env)) : pk (.chain3 o o' o2 a b c d) ρ r = r := rfl
@[simp] theorem pk_dget {ρ : Ft.Env} (s : Nat) (b : E) (r : R (D × Ft.Env)) : pk (.dget s b) ρ r = r := rfl
@[simp] theorem pk_slc {ρ : Ft.Env} (a b c : E) (r : R (D × Ft.Env)) : pk (.slc a b c) ρ r = r := rfl
@[simp] theorem pk_rev {ρ : Ft.Env} (a : E) (r : R (D × Ft.Env)) : pk (.rev a) ρ r = r := rfl
@[simp] theorem pk_lrng {ρ : Ft.Env} (a : E) (r : R (D × Ft.Env)) : pk (.lrng a) ρ r = r := rfl
@[simp] theorem pk_pop {ρ : Ft.Env} (s : Nat) (b : E) (r : R (D × Ft.Env)) : pk (.pop s b) ρ r = r := rfl
@[simp] theorem pk_lc {ρ : Ft.Env} (t : Tg) (a b c : E) (r : R (D × Ft.Env)) : pk (.lc t a b c) ρ r = r := rfl
@[simp] theorem pk_int {ρ : Ft.Env} (i : Int) (r : R (D × Ft.Env)) : pk (.int i) ρ r = r := rfl
@[simp] theorem pk_str {ρ : Ft.Env} (i : Str) (r : R (D × Ft.Env)) : pk (.str i) ρ r = r := rfl
@[simp] theorem pk_bl {ρ : Ft.Env} (i : Bool) (r : R (D × Ft.Env)) : pk (.bl i) ρ r = r := rfl
@[simp] theorem pk_non {ρ : Ft.Env}  (r : R (D × Ft.Env)) : pk (.non ) ρ r = r := rfl
theorem primD_max (xs : List D) : primD .max (.list xs) = bindR (intsD xs) fun ns => (match ns with | [] => stk | n :: r => .ok (.int (maxI n r))) := rfl
theorem primD_all (xs : List D) : primD .all (.list xs) = bindR (boolsD xs) fun bs => .ok (.bool (bs.all id)) := rfl
theorem primD_any (xs : List D) : primD .any (.list xs) = bindR (boolsD xs) fun bs => .ok (.bool (bs.any id)) := rfl
theorem primD_sorted {xs : List D} {ss : List Str} (h : strsD xs = .ok ss) (h2 : ss.length < 64) : primD .sorted (.list xs) = .ok (.list ((sortS ss).map .str)) := by
  show sortedD xs = _
  unfold sortedD
  rw [h]
  exact if_pos h2
theorem primD_sortedR {xs : List D} {e : Err} (h : strsD xs = .error e) (h2 : rowsOk xs = true) : primD .sorted (.list xs) = .ok (.list (xs.mergeSort (PySem.W.dataLe false id))) := by
  show sortedD xs = _
  unfold sortedD
  rw [h]
  exact if_pos h2
theorem primD_sortedE {r : List D} (h2 : rowsE (.tuple [] :: r) = true) : primD .sorted (.list (.tuple [] :: r)) = .ok (.list ((PyData.tuple [] :: r).mergeSort (PySem.W.dataLe false id))) := by
  show sortedD (.tuple [] :: r) = _
  unfold sortedD
  have e1 : strsD (.tuple [] :: r) = .error .stuck := rfl
  have hn : rowsOk (.tuple [] :: r) = false := by
    unfold rowsOk
    simp
  rw [e1]
  simp only [hn, Bool.false_eq_true, if_false]
  cases r with
  | nil => simp
  | cons a b =>
    show (if rowsE (.tuple [] :: a :: b) = true then _ else _) = _
    rw [if_pos h2]
theorem primD_lenset (xs : List D) : primD .lenset (.tuple xs) = bindR (keysD xs) fun ks => if ks.length ≤ 1000 then .ok (.int (cntK ks : Nat)) else stk := rfl
@[simp] theorem primD_lenL (xs : List D) : primD .len (.list xs) = .ok (.int (xs.length : Nat)) := rfl
@[simp] theorem primD_lenT (xs : List D) : primD .len (.tuple xs) = .ok (.int (xs.length : Nat)) := rfl
@[simp] theorem primD_tupL (xs : List D) : primD .tuple (.list xs) = .ok (.tuple xs) := rfl
@[simp] theorem primD_tupT (xs : List D) : primD .tuple (.tuple xs) = .ok (.tuple xs) := rfl
@[simp] theorem primD_lstL (xs : List D) : primD .list (.list xs) = .ok (.list xs) := rfl
@[simp] theorem primD_lstT (xs : List D) : primD .list (.tuple xs) = .ok (.list xs) := rfl
theorem evF_of {F : Fns} {n : Nat} {d : Def} {ds : List D} (h : ds.length = d.ps) : evF F n d ds = bindR (evS F n d.b (startE d.n ds)) fun p => (match p.1 with | .rt x => .ok x | .nx => .ok .none) := if_pos h
theorem evG_of {F : Fns} {n : Nat} {d : Def} {ds ss : List D} (h : ds.length + 1 = d.ps) : evG F n d ds ss = bindR (evS F n d.b (startG d.n ss ds)) finG := if_pos h
/-- a comprehension without a test -/
theorem lcL_map {t : Tg} {c : Ft.Env → R (Bool × Ft.Env)} {e : Ft.Env → R (D × Ft.Env)} (g : D → D) {ρ : Ft.Env} : ∀ {xs : List D}, (∀ x ∈ xs, ∃ ρ1, tgt t x ρ = .ok ρ1 ∧ c ρ1 = .ok (true, ρ1) ∧ e ρ1 = .ok (g x, ρ1) ∧ clr t ρ1 = ρ) → lcL t c e xs ρ = .ok (xs.map g, ρ)
  | [], _ => rfl
  | x :: xs, h => by
    obtain ⟨ρ1, h1, h2, h3, h4⟩ := h x List.mem_cons_self
    have ih := lcL_map g (xs := xs) fun y hy => h y (List.mem_cons_of_mem _ hy)
    unfold lcL
    simp [h1, h2, h3, h4, ih]
@[simp] theorem mul_ok {a b : Int} (h : mulOk a b) : binD .mul (.int a) (.int b) = .ok (.int (a * b)) := if_pos h
@[simp] theorem mod_ok {a b : Int} (h : 0 < b) : binD .mod (.int a) (.int b) = .ok (.int (a % b)) := if_pos h
theorem fdivW_ok {a b : Int} (h : 0 < b ∧ b.natAbs.log2 < 9000) : binD .fdiv (.int a) (.int b) = .ok (.int (a / b)) := if_pos h
@[simp] theorem fdiv_ok {a b : Int} (h : 0 < b ∧ b < 1073741824) : binD .fdiv (.int a) (.int b) = .ok (.int (a / b)) := fdivW_ok ⟨h.1, Nat.lt_of_lt_of_le (PySem.Flt.log2_lt_of (k := 30) (by decide) (by omega)) (by decide)⟩
@[simp] theorem add_ok {a b : Int} : binD .add (.int a) (.int b) = .ok (.int (a + b)) := rfl
@[simp] theorem sub_ok {a b : Int} : binD .sub (.int a) (.int b) = .ok (.int (a - b)) := rfl
@[simp] theorem addl_ok {a b : List D} (h : a.length + b.length ≤ LIM) : binD .add (.list a) (.list b) = .ok (.list (a ++ b)) := if_pos h
end Ft
namespace FtLaw
open PySem Ft
abbrev dI : List Int → List D := fun l => l.map PyData.int
def envD (ns l : List Int) (many : Int) : Ft.Env := [.im (.list (dI ns)), .rf (dI l), .im (.int many), .no, .no, .no, .no, .no]
theorem ints_map : ∀ l : List Int, intsD (l.map PyData.int) = .ok l
  | [] => rfl
  | x :: l => by
    show bindR (intsD (l.map PyData.int)) _ = _
    rw [ints_map l]
    rfl
theorem atD_ok {α : Type} {l : List α} {i : Int} (h0 : 0 ≤ i) (h1 : i < l.length) : ∃ x, atD l i = .ok x ∧ l[i.toNat]? = some x := by
  have hl : i.toNat < l.length := by omega
  refine ⟨l[i.toNat], ?_, List.getElem?_eq_getElem hl⟩
  unfold atD
  rw [if_pos h0, List.getElem?_eq_getElem hl]
theorem draw_ok {F : Fns} (ns : List Int) (many : Int) (hm : 0 < many) (l : List Int) (hl : l.length < 900000) (hs : ns.length ≤ 63) :
    ∃ (r : Int) (l' : List Int), evG F FU b_law_draw [.list (dI ns), .int many] (dI l) = .ok (.int r, dI l') ∧ 0 ≤ r ∧ r < many ∧ l'.length ≤ l.length + 2 ∧ 0 < l'.length := by
  rw [evG_of rfl]
  show ∃ (r : Int) (l' : List Int), bindR (evS _ FU b_law_draw.b (envD ns l many)) finG = _ ∧ _
  unfold b_law_draw
  dsimp only
  rw [evS_seq]
  have s1 : ∃ (a : Int) (l1 : List Int), l1.length + 1 ≤ l.length + 1 ∧ evS F FU (S.ite (E.not (E.tr (E.loc 1))) (.seq (S.app 1 (E.prim Pr.max (E.bin Bi.add (E.lc (Tg.one 4) (.sq (E.loc 0)) E.tt (E.prim Pr.abs (E.loc 4))) (.lst (.cons (E.int 0) E.nil))))) S.skip) S.skip) (envD ns l many) = .ok (.nx, envD ns (a :: l1) many) := by
    cases l with
    | nil =>
      have hlc : lcL (Tg.one 4) (evT F E.tt) (evE F (E.prim Pr.abs (E.loc 4))) (dI ns) (envD ns [] many) = .ok (dI (ns.map fun i => if i < 0 then -i else i), envD ns [] many) := by
        have := lcL_map (t := .one 4) (c := evT F E.tt) (e := evE F (E.prim Pr.abs (E.loc 4))) (ρ := envD ns [] many) (fun d => match d with | .int i => .int (if i < 0 then -i else i) | d => d) (xs := dI ns) fun x hx => by
          obtain ⟨i, _, rfl⟩ := List.mem_map.mp hx
          exact ⟨_, rfl, rfl, rfl, rfl⟩
        rw [this]
        simp [dI, Function.comp]
      obtain ⟨m, hmx⟩ : ∃ m, primD .max (.list (dI ((ns.map fun i => if i < 0 then -i else i) ++ [0]))) = .ok (.int m) := by
        rw [primD_max, show dI _ = List.map PyData.int _ from rfl, ints_map]
        simp only [bindR_ok]
        cases hq : (ns.map fun i => if i < 0 then -i else i) ++ [0] with
        | nil => simp at hq
        | cons a r => exact ⟨_, rfl⟩
      refine ⟨m, [], by simp, ?_⟩
      have hsz : ns.length < LIM := Nat.lt_of_le_of_lt hs (by decide)
      have hsz2 : ns.length + 1 ≤ LIM := hsz
      simp [envD, peek, truthD, lstAt, rd, iterD, clr, back, imOnly, dI] at hlc hmx ⊢
      rw [if_pos hsz, hlc]
      simp [calmR]
      rw [addl_ok (by simpa using hsz2)]
      simp [hmx]
    | cons a l1 => exact ⟨a, l1, by simp, by simp [envD, peek, truthD]⟩
  obtain ⟨a, l1, hl1, s1⟩ := s1
  rw [s1]
  simp only [bindR_ok]
  have hk : ∃ c : Int, evS F FU (S.asg 4 (E.ife (.tr (E.loc 0)) (.ix (E.loc 0) (E.bin Bi.mod (E.loc 3) (E.prim Pr.len (E.loc 0)))) (E.int 0))) [.im (.list (dI ns)), .rf (dI (a :: l1 ++ [0])), .im (.int many), .im (.int (l1.length + 2 : Nat)), .no, .no, .no, .no] = .ok (.nx, [.im (.list (dI ns)), .rf (dI (a :: l1 ++ [0])), .im (.int many), .im (.int (l1.length + 2 : Nat)), .im (.int c), .no, .no, .no]) := by
    cases ns with
    | nil => exact ⟨0, rfl⟩
    | cons x r =>
      have hp : (0 : Int) < ((x :: r).length : Nat) := by simp
      obtain ⟨y, hy, hy2⟩ := atD_ok (l := dI (x :: r)) (i := ((l1.length + 2 : Nat) : Int) % ((x :: r).length : Nat)) (Int.emod_nonneg _ (by omega)) (by
        have := Int.emod_lt_of_pos ((l1.length + 2 : Nat) : Int) hp
        simpa [dI] using this)
      obtain ⟨c, _, rfl⟩ : ∃ c : Int, c ∈ (x :: r) ∧ PyData.int c = y := by
        have := List.mem_of_getElem? hy2
        exact List.mem_map.mp this
      refine ⟨c, ?_⟩
      have hp' : (0 : Int) < (r.length : Int) + 1 := by omega
      simp [peek, truthD, rd, dI, ixD, hp'] at hy ⊢
      simp [hy]
  obtain ⟨c, hk⟩ := hk
  have hlim : l1.length + 1 < LIM := by
    have : (900000 : Nat) < LIM := by decide
    omega
  have e1 : evS F FU (S.app 1 (E.int 0)) (envD ns (a :: l1) many) = .ok (.nx, envD ns (a :: l1 ++ [0]) many) := by
    simp [envD, lstAt, hlim, dI]
  have e2 : evS F FU (S.asg 3 (E.prim Pr.len (E.loc 1))) (envD ns (a :: l1 ++ [0]) many) = .ok (.nx, [.im (.list (dI ns)), .rf (dI (a :: l1 ++ [0])), .im (.int many), .im (.int (l1.length + 2 : Nat)), .no, .no, .no, .no]) := by
    simp [envD, peek, dI]
    omega
  rw [evS_seq, e1]
  simp only [bindR_ok]
  rw [evS_seq, e2]
  simp only [bindR_ok]
  rw [evS_seq, hk]
  simp only [bindR_ok]
  generalize hst : l1 ++ [0] = l2
  have hl2 : l2.length = l1.length + 1 := by rw [← hst]; simp
  rw [show a :: l1 ++ [0] = a :: l2 by rw [← hst]; rfl]
  generalize ((l1.length + 2 : Nat) : Int) = kk
  have e5 : evS F FU (S.asg 5 (E.bin Bi.mod (E.ixv 1 (E.int 0)) (E.int 65536))) [.im (.list (dI ns)), .rf (dI (a :: l2)), .im (.int many), .im (.int kk), .im (.int c), .no, .no, .no] = .ok (.nx, [.im (.list (dI ns)), .rf (dI (a :: l2)), .im (.int many), .im (.int kk), .im (.int c), .im (.int (a % 65536)), .no, .no]) := by
    simp [peek, ixD, atD, dI]
  rw [evS_seq, e5]
  simp only [bindR_ok]
  generalize a % 65536 = dg
  have e6 : evS F FU (S.setx 1 (E.int 0) (E.bin Bi.fdiv (E.ixv 1 (E.int 0)) (E.int 65536))) [.im (.list (dI ns)), .rf (dI (a :: l2)), .im (.int many), .im (.int kk), .im (.int c), .im (.int dg), .no, .no] = .ok (.nx, [.im (.list (dI ns)), .rf (dI (a / 65536 :: l2)), .im (.int many), .im (.int kk), .im (.int c), .im (.int dg), .no, .no]) := by
    have : natIx (l2.length + 1) 0 = .ok 0 := by unfold natIx; rw [if_pos ⟨by decide, by omega, by decide⟩]; rfl
    simp [peek, ixD, atD, dI, lstAt, optI, this]
  rw [evS_seq, e6]
  simp only [bindR_ok]
  generalize a / 65536 = a2
  have e7 : ∃ nb : Int, 0 ≤ nb ∧ nb < 4294967291 ∧ evS F FU (S.asg 6 (E.bin Bi.mod (E.bin Bi.add (E.bin Bi.add (E.loc 4) (E.bin Bi.mul (E.int 40503) (E.loc 5))) (E.bin Bi.mul (E.int 104729) (E.loc 3))) (E.int 4294967291))) [.im (.list (dI ns)), .rf (dI (a2 :: l2)), .im (.int many), .im (.int kk), .im (.int c), .im (.int dg), .no, .no] = .ok (.nx, [.im (.list (dI ns)), .rf (dI (a2 :: l2)), .im (.int many), .im (.int kk), .im (.int c), .im (.int dg), .im (.int nb), .no]) := by
    have m1 : mulOk 40503 dg := .inl (by decide)
    have m2 : mulOk 104729 kk := .inl (by decide)
    refine ⟨(c + 40503 * dg + 104729 * kk) % 4294967291, by omega, by omega, ?_⟩
    simp [rd, m1, m2]
  obtain ⟨nb, b1, b2, e7⟩ := e7
  rw [evS_seq, e7]
  simp only [bindR_ok]
  have sq : ∀ (x q : Int), 0 ≤ x → x < 4294967291 → 0 < q → q < 100000 → mulOk x x ∧ mulOk (x * x % 4294967279) q ∧ 0 ≤ x * x % 4294967279 * q % 4294967291 ∧ x * x % 4294967279 * q % 4294967291 < 4294967291 := fun x q h1 h2 h3 h4 => by
    refine ⟨.inl (by omega), .inl (by omega), by omega, by omega⟩
  have e8 : ∃ nc : Int, 0 ≤ nc ∧ nc < 4294967291 ∧ evS F FU (S.asg 6 (E.bin Bi.mod (E.bin Bi.mul (E.bin Bi.mod (E.bin Bi.mul (E.loc 6) (E.loc 6)) (E.int 4294967279)) (E.int 48271)) (E.int 4294967291))) [.im (.list (dI ns)), .rf (dI (a2 :: l2)), .im (.int many), .im (.int kk), .im (.int c), .im (.int dg), .im (.int nb), .no] = .ok (.nx, [.im (.list (dI ns)), .rf (dI (a2 :: l2)), .im (.int many), .im (.int kk), .im (.int c), .im (.int dg), .im (.int nc), .no]) := by
    obtain ⟨m1, m2, m3, m4⟩ := sq nb 48271 b1 b2 (by decide) (by decide)
    refine ⟨_, m3, m4, ?_⟩
    simp [rd, m1, m2]
  obtain ⟨nc, c1, c2, e8⟩ := e8
  rw [evS_seq, e8]
  simp only [bindR_ok]
  have e9 : ∃ nd : Int, 0 ≤ nd ∧ nd < 4294967291 ∧ evS F FU (S.asg 7 (E.bin Bi.mod (E.bin Bi.mul (E.bin Bi.mod (E.bin Bi.mul (E.loc 6) (E.loc 6)) (E.int 4294967279)) (E.int 69621)) (E.int 4294967291))) [.im (.list (dI ns)), .rf (dI (a2 :: l2)), .im (.int many), .im (.int kk), .im (.int c), .im (.int dg), .im (.int nc), .no] = .ok (.nx, [.im (.list (dI ns)), .rf (dI (a2 :: l2)), .im (.int many), .im (.int kk), .im (.int c), .im (.int dg), .im (.int nc), .im (.int nd)]) := by
    obtain ⟨m1, m2, m3, m4⟩ := sq nc 69621 c1 c2 (by decide) (by decide)
    refine ⟨_, m3, m4, ?_⟩
    simp [rd, m1, m2]
  obtain ⟨nd, d1, d2, e9⟩ := e9
  rw [evS_seq, e9]
  simp only [bindR_ok]
  have m1 : mulOk (nc / 64) 67108864 := .inr (.inl (by decide))
  refine ⟨(nc / 64 * 67108864 + nd / 64) % many, a2 :: l2, ?_, Int.emod_nonneg _ (by omega), Int.emod_lt_of_pos _ hm, ?_, ?_⟩
  · simp [rd, m1, hm, finG]
  · rw [List.length_cons]; omega
  · simp
end FtLaw
namespace FtLaw
open PySem Ft
def DrawOk (g : List D → List D → R (D × List D)) : Prop := ∀ (ns : List Int) (many : Int) (l : List Int), 0 < many → l.length < 900000 → ns.length ≤ 63 →
  ∃ (r : Int) (l' : List Int), g [.list (dI ns), .int many] (dI l) = .ok (.int r, dI l') ∧ 0 ≤ r ∧ r < many ∧ l'.length ≤ l.length + 2 ∧ 0 < l'.length
theorem drawOk {F : Fns} : DrawOk (evG F FU b_law_draw) := fun ns many l h1 h2 h3 => draw_ok ns many h1 l h2 h3
theorem perm_at {α : Type} : ∀ (l : List α) (i : Nat) (x : α), l[i]? = some x → (x :: l.eraseIdx i).Perm l
  | [], _, _, h => by simp at h
  | y :: l, 0, x, h => by simp at h; subst h; exact .refl _
  | y :: l, i + 1, x, h => by
    rw [List.eraseIdx_cons_succ]
    exact (List.Perm.swap y x _).trans (.cons y (perm_at l i x (by simpa using h)))
theorem perm_pop {α : Type} (l : List α) (i : Nat) (x : α) (h : l[i]? = some x) (found : List α) : (found ++ [x] ++ l.eraseIdx i).Perm (found ++ l) := by
  rw [List.append_assoc]
  refine List.Perm.append_left _ ?_
  rw [List.singleton_append]
  exact perm_at l i x h
theorem shuf_loop {F : Fns} (hg : DrawOk (F.g "_law_draw")) (ns : List Int) (hs : ns.length ≤ 63) (th : D) : ∀ (fuel : Nat) (rest found : List D) (l : List Int), rest.length < fuel → rest.length ≤ 1000 → found.length + rest.length ≤ 1000 → l.length + 2 * rest.length < 900000 →
    ∃ (found' : List D) (l' : List Int), whileL (evT F (.tr (.loc 3))) (evS F FU (.seq (.app 4 (.pop 3 (.callS "_law_draw" 1 (.loc 0) (.cons (.prim .len (.loc 3)) .nil)))) .skip)) fuel [.im (.list (dI ns)), .rf (dI l), .im th, .mu rest, .mu found]
      = .ok (.nx, [.im (.list (dI ns)), .rf (dI l'), .im th, .mu [], .mu found']) ∧ found'.Perm (found ++ rest) ∧ l'.length ≤ l.length + 2 * rest.length
  | 0, rest, found, l, h, _, _, _ => by omega
  | fuel + 1, rest, found, l, h, h2, h3, h4 => by
    unfold whileL
    cases rest with
    | nil => exact ⟨found, l, by simp [peek, truthD], by simp, by simp⟩
    | cons x r =>
      have hm : (0 : Int) < (((x :: r).length : Nat) : Int) := by simp
      obtain ⟨j, l1, hd, j0, j1, hl1, _⟩ := hg ns _ l hm (by simp at h4; omega) hs
      obtain ⟨y, hy, hy2⟩ := atD_ok (l := x :: r) (i := j) j0 j1
      have hn : natIx (x :: r).length j = .ok j.toNat := by
        unfold natIx
        rw [if_pos ⟨j0, j1, by simp at h2 j1; omega⟩]
      have hb : evS F FU (.seq (.app 4 (.pop 3 (.callS "_law_draw" 1 (.loc 0) (.cons (.prim .len (.loc 3)) .nil)))) .skip) [.im (.list (dI ns)), .rf (dI l), .im th, .mu (x :: r), .mu found]
          = .ok (.nx, [.im (.list (dI ns)), .rf (dI l1), .im th, .mu ((x :: r).eraseIdx j.toNat), .mu (found ++ [y])]) := by
        have hf : found.length < LIM := by
          have : 1000 < LIM := by decide
          simp at h3; omega
        simp only [List.length_cons] at hn hd
        rw [Int.natCast_add] at hd
        have hd : F.g "_law_draw" [.list (dI ns), .int ((r.length : Int) + 1)] (dI l) = .ok (.int j, dI l1) := hd
        simp [lstAt, rd, peek, hd, optI, hn, hy, hf]
      have hlen : ((x :: r).eraseIdx j.toNat).length = r.length := by
        rw [List.length_eraseIdx]
        simp at j1
        have : j.toNat < (x :: r).length := by simp; omega
        rw [if_pos this]
        simp
      simp only [List.length_cons] at h h2 h3 h4
      obtain ⟨found', l', ih, ip, il⟩ := shuf_loop hg ns hs th fuel ((x :: r).eraseIdx j.toNat) (found ++ [y]) l1 (by omega) (by omega) (by simp; omega) (by omega)
      refine ⟨found', l', ?_, ip.trans (perm_pop (x :: r) j.toNat y hy2 found), by simp; omega⟩
      have ht : evT F (.tr (.loc 3)) [.im (.list (dI ns)), .rf (dI l), .im th, .mu (x :: r), .mu found] = .ok (true, [.im (.list (dI ns)), .rf (dI l), .im th, .mu (x :: r), .mu found]) := by
        simp [peek, truthD]
      rw [ht]
      simp only [bindR_ok, if_true]
      rw [hb]
      simp only [bindR_ok]
      exact ih
def ShufOk (g : List D → List D → R (D × List D)) : Prop := ∀ (ns : List Int) (th : D) (xs : List D) (l : List Int), ns.length ≤ 63 → itemsD th = .ok xs → xs.length < 1000 → l.length + 2 * xs.length < 900000 →
  ∃ (ys : List D) (l' : List Int), g [.list (dI ns), th] (dI l) = .ok (.list ys, dI l') ∧ ys.Perm xs ∧ l'.length ≤ l.length + 2 * xs.length
theorem shufOk {F : Fns} (hg : DrawOk (F.g "_law_draw")) : ShufOk (evG F FU b_law_shuffled) := fun ns th xs l hs ht hx hl => by
  obtain ⟨ys, l', h1, h2, h3⟩ := shuf_loop hg ns hs th FU xs [] l (Nat.lt_of_lt_of_le hx (by decide)) (by omega) (by simp; omega) hl
  refine ⟨ys, l', ?_, by simpa using h2, h3⟩
  rw [evG_of rfl]
  show bindR (evS F FU b_law_shuffled.b [.im (.list (dI ns)), .rf (dI l), .im th, .no, .no]) finG = _
  unfold b_law_shuffled
  dsimp only
  have e1 : evS F FU (.par2 3 4 true true (.prim .list (.loc 2)) (.lst .nil)) [.im (.list (dI ns)), .rf (dI l), .im th, .no, .no] = .ok (.nx, [.im (.list (dI ns)), .rf (dI l), .im th, .mu xs, .mu []]) := by
    have hp : primD .list th = .ok (.list xs) := by
      cases th <;> first | (cases ht; rfl) | cases ht
    simp [peek, hp, sto]
  rw [evS_seq, e1]
  simp only [bindR_ok]
  rw [evS_seq, evS_while, h1]
  simp [rd, finG]
end FtLaw
namespace FtLaw
open PySem Ft
/-! ### systems -/
abbrev dS : List Str → List D := fun l => l.map PyData.str
def gateD (g : Int × List D) : D := .tuple [.int g.1, .tuple g.2]
def sysD (ps : List Str) (gs : List (Int × List D)) : D := .tuple [.tuple (dS ps), .tuple (gs.map gateD)]
def InOk (ps : List Str) (n : Nat) (d : D) : Prop := (∃ s ∈ ps, d = .str s) ∨ ∃ i : Int, d = .int i ∧ 0 ≤ i ∧ i < n
structure GateOk (ps : List Str) (n : Nat) (g : Int × List D) : Prop where
  lo : 1 ≤ g.1
  hi : g.1 ≤ g.2.length
  len : g.2.length ≤ 80
  ins : ∀ d ∈ g.2, InOk ps n d
  nd : g.2.Nodup
def GatesOk (ps : List Str) (gs : List (Int × List D)) : Prop := ∀ i g, gs[i]? = some g → GateOk ps i g
theorem nodup_map {α β : Type} {f : α → β} (hf : ∀ a b, f a = f b → a = b) : ∀ {l : List α}, l.Nodup → (l.map f).Nodup
  | [], _ => List.nodup_nil
  | x :: l, h => by
    rw [List.nodup_cons] at h
    rw [List.map_cons, List.nodup_cons]
    refine ⟨fun hm => ?_, nodup_map hf h.2⟩
    obtain ⟨y, hy, e⟩ := List.mem_map.mp hm
    exact h.1 (hf _ _ e ▸ hy)
theorem rngL_mem : ∀ (n : Nat) (lo : Int) (d : D), d ∈ rngL lo 1 n → ∃ i : Int, d = .int i ∧ lo ≤ i ∧ i < lo + n
  | 0, _, _, h => by cases h
  | n + 1, lo, d, h => by
    rcases List.mem_cons.mp h with rfl | h
    · exact ⟨lo, rfl, by omega, by omega⟩
    · obtain ⟨i, e, h1, h2⟩ := rngL_mem n (lo + 1) d h
      exact ⟨i, e, by omega, by omega⟩
theorem rngL_nodup : ∀ (n : Nat) (lo : Int), (rngL lo 1 n).Nodup
  | 0, _ => List.nodup_nil
  | n + 1, lo => by
    unfold rngL
    rw [List.nodup_cons]
    refine ⟨fun hm => ?_, rngL_nodup n (lo + 1)⟩
    obtain ⟨i, e, h1, _⟩ := rngL_mem n (lo + 1) _ hm
    cases e
    omega
theorem pool_nodup {zs : List Str} (h : zs.Nodup) (n : Nat) : (dS zs ++ rngL 0 1 n).Nodup := by
  rw [List.nodup_append]
  refine ⟨nodup_map (fun a b e => by cases e; rfl) h, rngL_nodup n 0, fun a ha b hb e => ?_⟩
  obtain ⟨s, _, rfl⟩ := List.mem_map.mp ha
  obtain ⟨i, e2, _⟩ := rngL_mem n 0 b hb
  rw [e2] at e
  cases e
theorem pool_in {zs : List Str} {n : Nat} {d : D} (h : d ∈ dS zs ++ rngL 0 1 n) : InOk zs n d := by
  rcases List.mem_append.mp h with h | h
  · obtain ⟨s, hs, rfl⟩ := List.mem_map.mp h
    exact .inl ⟨s, hs, rfl⟩
  · obtain ⟨i, e, h1, h2⟩ := rngL_mem n 0 d h
    exact .inr ⟨i, e, h1, by omega⟩
theorem in_scal {zs : List Str} {n : Nat} {d : D} (h : InOk zs n d) : scalD d = true := by
  rcases h with ⟨s, _, rfl⟩ | ⟨i, rfl, _⟩ <;> rfl
theorem eqv_int {zs : List Str} {n : Nat} {d : D} (h : InOk zs n d) (j : Int) : PyData.eqv d (.int j) = true ↔ d = .int j := by
  rcases h with ⟨s, _, rfl⟩ | ⟨i, rfl, _⟩
  · exact ⟨fun h => (by cases h), fun h => by cases h⟩
  · constructor
    · intro h
      have h : (i == j) = true := h
      rw [eq_of_beq h]
    · intro h
      cases h
      exact beq_self_eq_true j
theorem slc_take (xs : List D) (k : Int) (h : 0 ≤ k) : slcD none (some k) (.list xs) = .ok (.list (xs.take k.toNat)) := by
  show Except.ok (PyData.list (cutL xs none (some k))) = _
  have e : cutIx xs.length xs.length (some k) = min k.toNat xs.length := if_neg (by omega)
  unfold cutL
  rw [e]
  show Except.ok (PyData.list (List.take (min k.toNat xs.length - 0) (List.drop 0 xs))) = _
  rw [Nat.sub_zero, List.drop_zero, ← List.take_take, List.take_length]
theorem notin_eval {zs : List Str} {n : Nat} {xs : List D} (h : ∀ d ∈ xs, InOk zs n d) (j : Int) : ∃ b, cmpD .notin (.int j) (.list xs) = .ok b ∧ (b = true → PyData.int j ∉ xs) := by
  have hs : xs.all scalD = true := List.all_eq_true.mpr fun d hd => in_scal (h d hd)
  refine ⟨!(xs.any fun z => PyData.eqv z (.int j)), ?_, fun hb hm => ?_⟩
  · show bindR (inD (.int j) (.list xs)) _ = _
    unfold inD
    show bindR (if (scalD (.int j) && xs.all scalD || _) = true then _ else _) _ = _
    rw [hs]
    rfl
  · rw [Bool.not_eq_true', List.any_eq_false] at hb
    exact hb _ hm ((eqv_int (h _ hm) j).mpr rfl)
end FtLaw
namespace FtLaw
open PySem Ft
def sysBody : S := (.seq (.asg 6 (.callS "_law_shuffled" 1 (.loc 0) (.cons (.bin .add (.prim .list (.loc 3)) (.lrng (.loc 5))) .nil))) (.seq (.asg 7 (.slc (.loc 6) .nil (.tr (.bin .add (.int 1) (.callS "_law_draw" 1 (.loc 0) (.cons (.prim2 .min (.int 4) (.prim .len (.loc 6))) .nil)))))) (.seq (.ite (.and (.tr (.cmp .gt (.loc 5) (.int 0))) (.and (.tr (.cmp .notin (.bin .sub (.loc 5) (.int 1)) (.loc 7))) (.tr (.cmp .gt (.callS "_law_draw" 1 (.loc 0) (.cons (.int 3) .nil)) (.int 0))))) (.seq (.asg 7 (.bin .add (.loc 7) (.lst (.cons (.bin .sub (.loc 5) (.int 1)) .nil)))) .skip) .skip) (.seq (.app 4 (.tup (.cons (.bin .add (.int 1) (.callS "_law_draw" 1 (.loc 0) (.cons (.prim .len (.loc 7)) .nil))) (.cons (.prim .tuple (.loc 7)) .nil)))) .skip))))
abbrev envS (ns l : List Int) (most : D) (zs : List Str) (gs : List (Int × List D)) (c5 c6 c7 : Cell) : Ft.Env := [.im (.list (dI ns)), .rf (dI l), .im most, .im (.list (dS zs)), .mu (gs.map gateD), c5, c6, c7]
theorem sys_turn {F : Fns} (hd : DrawOk (F.g "_law_draw")) (hsh : ShufOk (F.g "_law_shuffled")) {ns : List Int} (hns : ns.length ≤ 63) {most : D} {zs : List Str} (hz : zs.Nodup) (hz1 : 1 ≤ zs.length) (hz8 : zs.length ≤ 8)
    {gs : List (Int × List D)} {l : List Int} {c6 c7 : Cell} {n : Nat} (hn : n < 20) (hl : l.length < 800000) (hgs : gs.length < 100) :
    ∃ (g : Int × List D) (l' : List Int) (c6' c7' : Cell), evS F FU sysBody (envS ns l most zs gs (.im (.int n)) c6 c7) = .ok (.nx, envS ns l' most zs (gs ++ [g]) (.im (.int n)) c6' c7') ∧ GateOk zs n g ∧ g.2.length ≤ 5 ∧ l'.length ≤ l.length + 80 := by
  have hpl : (dS zs ++ rngL 0 1 n).length = zs.length + n := by rw [List.length_append, List.length_map, rngL_len]
  obtain ⟨pool, l1, h1, hp1, hl1⟩ := hsh ns (.list (dS zs ++ rngL 0 1 n)) _ l hns rfl (by omega) (by omega)
  have hpool : pool.length = zs.length + n := by rw [hp1.length_eq, hpl]
  rw [hpl] at hl1
  have hlr : lrngD (.int (n : Nat)) = .ok (rngL 0 1 n) := by
    show (if -(2 ^ 60) < ((n : Nat) : Int) ∧ ((n : Nat) : Int) ≤ LIM then Except.ok (rngL 0 1 ((n : Nat) : Int).toNat) else stk) = _
    have : ((20 : Nat) : Int) ≤ ((LIM : Nat) : Int) := by decide
    rw [if_pos ⟨by omega, by omega⟩]
    simp
  have hadd : binD .add (.list (dS zs)) (.list (rngL 0 1 n)) = .ok (.list (dS zs ++ rngL 0 1 n)) := by
    refine addl_ok ?_
    rw [← List.length_append, hpl]
    have : 100 ≤ LIM := by decide
    omega
  have e1 : evS F FU (.asg 6 (.callS "_law_shuffled" 1 (.loc 0) (.cons (.bin .add (.prim .list (.loc 3)) (.lrng (.loc 5))) .nil))) (envS ns l most zs gs (.im (.int n)) c6 c7) = .ok (.nx, envS ns l1 most zs gs (.im (.int n)) (.im (.list pool)) c7) := by
    simp [envS, lstAt, rd, peek, hlr, hadd, h1]
  have hmin : (0 : Int) < (if ((pool.length : Nat) : Int) < 4 then ((pool.length : Nat) : Int) else 4) := by split <;> omega
  obtain ⟨r2, l2, h2, r20, r21, hl2, _⟩ := hd ns _ l1 hmin (by omega) hns
  have e2 : evS F FU (.asg 7 (.slc (.loc 6) .nil (.tr (.bin .add (.int 1) (.callS "_law_draw" 1 (.loc 0) (.cons (.prim2 .min (.int 4) (.prim .len (.loc 6))) .nil)))))) (envS ns l1 most zs gs (.im (.int n)) (.im (.list pool)) c7) = .ok (.nx, envS ns l2 most zs gs (.im (.int n)) (.im (.list pool)) (.im (.list (pool.take (1 + r2).toNat)))) := by
    simp [envS, lstAt, rd, peek, prim2D, h2, optI, slc_take pool (1 + r2) (by omega)]
  have hr4 : r2 < 4 := by split at r21 <;> omega
  generalize hin : pool.take (1 + r2).toNat = ins
  rw [hin] at e2
  have hinl : ins.length ≤ 4 := by rw [← hin, List.length_take]; omega
  have hin1 : 1 ≤ ins.length := by
    rw [← hin, List.length_take]
    omega
  have hinIn : ∀ d ∈ ins, InOk zs n d := fun d hd => pool_in (hp1.mem_iff.mp (by rw [← hin] at hd; exact List.mem_of_mem_take hd))
  have hinNd : ins.Nodup := by
    rw [← hin]
    exact ((hp1.nodup_iff).mpr (pool_nodup hz n)).sublist (List.take_sublist _ _)
  have s3 : ∃ (ins3 : List D) (l3 : List Int), evS F FU (.ite (.and (.tr (.cmp .gt (.loc 5) (.int 0))) (.and (.tr (.cmp .notin (.bin .sub (.loc 5) (.int 1)) (.loc 7))) (.tr (.cmp .gt (.callS "_law_draw" 1 (.loc 0) (.cons (.int 3) .nil)) (.int 0))))) (.seq (.asg 7 (.bin .add (.loc 7) (.lst (.cons (.bin .sub (.loc 5) (.int 1)) .nil)))) .skip) .skip) (envS ns l2 most zs gs (.im (.int n)) (.im (.list pool)) (.im (.list ins)))
      = .ok (.nx, envS ns l3 most zs gs (.im (.int n)) (.im (.list pool)) (.im (.list ins3))) ∧ 1 ≤ ins3.length ∧ ins3.length ≤ 5 ∧ (∀ d ∈ ins3, InOk zs n d) ∧ ins3.Nodup ∧ l3.length ≤ l2.length + 2 := by
    by_cases hn0 : 0 < n
    · obtain ⟨b, hb, hbn⟩ := notin_eval hinIn ((n : Int) - 1)
      have hgt : cmpD .gt (.int (n : Nat)) (.int 0) = .ok true := by
        show Except.ok (decide ((0 : Int) < ((n : Nat) : Int))) = _
        rw [decide_eq_true (by omega)]
      cases b with
      | false =>
        refine ⟨ins, l2, ?_, hin1, by omega, hinIn, hinNd, by omega⟩
        simp [envS, rd, peek, hgt, hb, truthD]
      | true =>
        obtain ⟨r3, l3, h3, r30, r31, hl3, _⟩ := hd ns 3 l2 (by decide) (by omega) hns
        by_cases hr : 0 < r3
        · have hgt3 : cmpD .gt (.int r3) (.int 0) = .ok true := by
            show Except.ok (decide ((0 : Int) < r3)) = _
            rw [decide_eq_true hr]
          have hadd3 : binD .add (.list ins) (.list [.int ((n : Int) - 1)]) = .ok (.list (ins ++ [.int ((n : Int) - 1)])) := addl_ok (by
            have : 100 ≤ LIM := by decide
            simp; omega)
          refine ⟨ins ++ [.int ((n : Int) - 1)], l3, ?_, by simp, by simp; omega, fun d hdm => ?_, ?_, hl3⟩
          · simp [envS, rd, peek, hgt, hb, truthD, lstAt, h3, hgt3, hadd3]
          · rcases List.mem_append.mp hdm with hdm | hdm
            · exact hinIn d hdm
            · simp at hdm
              exact .inr ⟨(n : Int) - 1, hdm, by omega, by omega⟩
          · rw [List.nodup_append]
            refine ⟨hinNd, by simp, fun a ha b hb e => ?_⟩
            simp at hb
            rw [hb] at e
            exact hbn rfl (e ▸ ha)
        · have hgt3 : cmpD .gt (.int r3) (.int 0) = .ok false := by
            show Except.ok (decide ((0 : Int) < r3)) = _
            rw [decide_eq_false hr]
          refine ⟨ins, l3, ?_, hin1, by omega, hinIn, hinNd, hl3⟩
          simp [envS, rd, peek, hgt, hb, truthD, lstAt, h3, hgt3]
    · have hgt : cmpD .gt (.int (n : Nat)) (.int 0) = .ok false := by
        show Except.ok (decide ((0 : Int) < ((n : Nat) : Int))) = _
        rw [decide_eq_false (by omega)]
      refine ⟨ins, l2, ?_, hin1, by omega, hinIn, hinNd, by omega⟩
      simp [envS, rd, peek, hgt, truthD]
  obtain ⟨ins3, l3, e3, i1, i5, iIn, iNd, hl3⟩ := s3
  obtain ⟨r4, l4, h4, r40, r41, hl4, _⟩ := hd ns (ins3.length : Nat) l3 (by omega) (by omega) hns
  have e4 : evS F FU (.app 4 (.tup (.cons (.bin .add (.int 1) (.callS "_law_draw" 1 (.loc 0) (.cons (.prim .len (.loc 7)) .nil))) (.cons (.prim .tuple (.loc 7)) .nil)))) (envS ns l3 most zs gs (.im (.int n)) (.im (.list pool)) (.im (.list ins3))) = .ok (.nx, envS ns l4 most zs (gs ++ [(1 + r4, ins3)]) (.im (.int n)) (.im (.list pool)) (.im (.list ins3))) := by
    have hg : gs.length < LIM := by
      have : 100 ≤ LIM := by decide
      omega
    simp [envS, lstAt, rd, peek, h4, hg, gateD]
  refine ⟨(1 + r4, ins3), l4, .im (.list pool), .im (.list ins3), ?_, ⟨by show 1 ≤ 1 + r4; omega, by show 1 + r4 ≤ ((ins3.length : Nat) : Int); omega, by show ins3.length ≤ 80; omega, iIn, iNd⟩, i5, by omega⟩
  unfold sysBody
  rw [evS_seq, e1]
  simp only [bindR_ok]
  rw [evS_seq, e2]
  simp only [bindR_ok]
  rw [evS_seq, e3]
  simp only [bindR_ok]
  rw [evS_seq, e4]
  simp only [bindR_ok]
  rfl
theorem sys_loop {F : Fns} (hd : DrawOk (F.g "_law_draw")) (hsh : ShufOk (F.g "_law_shuffled")) {ns : List Int} (hns : ns.length ≤ 63) {most : D} {zs : List Str} (hz : zs.Nodup) (hz1 : 1 ≤ zs.length) (hz8 : zs.length ≤ 8) :
    ∀ (m : Nat) (gs : List (Int × List D)) (l : List Int) (c5 c6 c7 : Cell), gs.length + m ≤ 10 → l.length + m * 80 < 800000 → GatesOk zs gs → (∀ g ∈ gs, g.2.length ≤ 5) →
      ∃ (gs' : List (Int × List D)) (l' : List Int) (c5' c6' c7' : Cell), forL (.one 5) (evS F FU sysBody) (rngL gs.length 1 m) (envS ns l most zs gs c5 c6 c7) = .ok (.nx, envS ns l' most zs gs' c5' c6' c7') ∧ gs'.length = gs.length + m ∧ GatesOk zs gs' ∧ (∀ g ∈ gs', g.2.length ≤ 5) ∧ l'.length ≤ l.length + m * 80
  | 0, gs, l, c5, c6, c7, _, _, hg, hg5 => ⟨gs, l, c5, c6, c7, rfl, rfl, hg, hg5, by omega⟩
  | m + 1, gs, l, c5, c6, c7, h1, h2, hg, hg5 => by
    obtain ⟨g, l1, c6', c7', e, ok, g5, hl⟩ := sys_turn hd hsh hns (most := most) hz hz1 hz8 (gs := gs) (l := l) (c6 := c6) (c7 := c7) (n := gs.length) (by omega) (by omega) (by omega)
    have hok : GatesOk zs (gs ++ [g]) := fun i g' hi => by
      by_cases hlt : i < gs.length
      · rw [List.getElem?_append_left hlt] at hi
        exact hg i g' hi
      · rw [List.getElem?_append_right (by omega)] at hi
        have hi0 : i - gs.length = 0 := by
          have := (List.getElem?_eq_some_iff.mp hi).1
          simp at this
          omega
        rw [hi0] at hi
        cases hi
        have : i = gs.length := by omega
        rw [this]
        exact ok
    obtain ⟨gs', l', d5, d6, d7, e2, q1, q2, q3, q4⟩ := sys_loop hd hsh hns hz hz1 hz8 m (gs ++ [g]) l1 (.im (.int gs.length)) c6' c7' (by simp; omega) (by omega) hok (fun g' hg' => by
      rcases List.mem_append.mp hg' with hg' | hg'
      · exact hg5 g' hg'
      · simp at hg'; subst hg'; exact g5)
    refine ⟨gs', l', d5, d6, d7, ?_, by rw [q1]; simp; omega, q2, q3, by omega⟩
    have hr : rngL (gs.length : Nat) 1 (m + 1) = .int (gs.length : Nat) :: rngL (((gs ++ [g]).length : Nat) : Int) 1 m := by
      rw [List.length_append]
      rfl
    rw [hr]
    unfold forL
    have ht : tgt (.one 5) (.int (gs.length : Nat)) (envS ns l most zs gs c5 c6 c7) = .ok (envS ns l most zs gs (.im (.int (gs.length : Nat))) c6 c7) := rfl
    rw [ht]
    simp only [bindC_ok]
    rw [e]
    simp only [bindR_ok]
    exact e2
end FtLaw
namespace FtLaw
open PySem Ft
/-- a word -/
def WordS (s : Str) : Prop := 1 ≤ s.length ∧ s.length ≤ 4 ∧ ∀ c ∈ s.cps.toList, 97 ≤ c ∧ c ≤ 122
structure SysOk (ps : List Str) (gs : List (Int × List D)) : Prop where
  p1 : 1 ≤ ps.length
  p8 : ps.length ≤ 8
  words : ∀ s ∈ ps, WordS s
  rise : ps.Pairwise fun a b => strLt a b = true
  g1 : 1 ≤ gs.length
  g80 : gs.length ≤ 80
  gates : GatesOk ps gs
def unS : D → Str
  | .str s => s
  | _ => ⟨#[]⟩
theorem unS_map (l : List Str) : (dS l).map unS = l := by
  rw [List.map_map]
  exact List.map_id _
theorem perm_dS {ys : List D} {l : List Str} (h : ys.Perm (dS l)) : ∃ zs : List Str, ys = dS zs ∧ zs.Perm l := by
  refine ⟨ys.map unS, ?_, ?_⟩
  · show ys = (ys.map unS).map PyData.str
    rw [List.map_map]
    conv => lhs; rw [← List.map_id ys]
    refine List.map_congr_left fun d hd => ?_
    obtain ⟨s, _, rfl⟩ := List.mem_map.mp (h.mem_iff.mp hd)
    rfl
  · have := h.map unS
    rw [unS_map] at this
    exact this
theorem rise_strict : ∀ {l : List Str}, RiseS l → l.Nodup → l.Pairwise fun a b => strLt a b = true
  | [], _, _ => .nil
  | x :: l, h, hn => by
    unfold RiseS at h
    rw [List.pairwise_cons] at h
    rw [List.nodup_cons] at hn
    rw [List.pairwise_cons]
    refine ⟨fun y hy => ?_, rise_strict h.2 hn.2⟩
    cases hq : strLt x y with
    | true => rfl
    | false =>
      have e := strLt_tri hq (h.1 y hy)
      subst e
      exact absurd hy hn.1
theorem strs_map : ∀ l : List Str, strsD (dS l) = .ok l
  | [] => rfl
  | x :: l => by
    show bindR (strsD (dS l)) _ = _
    rw [strs_map l]
    rfl
def eight : List Str := ["a", "b", "c", "d", "x", "y", "ab", "zz"]
theorem eight_word : ∀ s ∈ eight, WordS s := by
  intro s hs
  have h : (eight.all fun s => decide (1 ≤ s.length) && decide (s.length ≤ 4) && s.cps.toList.all fun c => decide (97 ≤ c) && decide (c ≤ 122)) = true := by decide +kernel
  have := List.all_eq_true.mp h s hs
  simp only [Bool.and_eq_true, decide_eq_true_eq, List.all_eq_true] at this
  exact ⟨this.1.1, this.1.2, this.2⟩
theorem eight_nodup : eight.Nodup := by decide +kernel
theorem gates_perm {ps qs : List Str} {gs : List (Int × List D)} (h : GatesOk ps gs) (hp : ∀ s ∈ ps, s ∈ qs) : GatesOk qs gs := fun i g hi => by
  have q := h i g hi
  refine ⟨q.lo, q.hi, q.len, fun d hd => ?_, q.nd⟩
  rcases q.ins d hd with ⟨s, hs, e⟩ | z
  · exact .inl ⟨s, hp s hs, e⟩
  · exact .inr z
def SysGen (g : List D → List D → R (D × List D)) : Prop := ∀ (ns : List Int) (most : Int) (l : List Int), 1 ≤ most → most ≤ 8 → l.length < 700000 → ns.length ≤ 63 →
  ∃ (ps : List Str) (gs : List (Int × List D)) (l' : List Int), g [.list (dI ns), .int most] (dI l) = .ok (sysD ps gs, dI l') ∧ SysOk ps gs ∧ (ps.length : Int) ≤ most ∧ gs.length ≤ 6 ∧ (∀ g ∈ gs, g.2.length ≤ 5) ∧ (∀ s ∈ ps, s ∈ eight) ∧ l'.length ≤ l.length + 1000
theorem sysGen {F : Fns} (hd : DrawOk (F.g "_law_draw")) (hsh : ShufOk (F.g "_law_shuffled")) : SysGen (evG F FU b_law_system) := fun ns most l hm1 hm8 hl hns => by
  obtain ⟨ys, l1, h1, hp1, hl1⟩ := hsh ns (.list (dS eight)) _ l hns rfl (by decide) (by
    have : (dS eight).length = 8 := rfl
    omega)
  obtain ⟨zs, rfl, hzp⟩ := perm_dS hp1
  have h8 : (dS eight).length = 8 := rfl
  have hz8 : zs.length = 8 := by rw [hzp.length_eq]; rfl
  obtain ⟨r2, l2, h2, r20, r21, hl2, _⟩ := hd ns most l1 (by omega) (by omega) hns
  generalize hws : zs.take (1 + r2).toNat = ws
  have hwl : ws.length = (1 + r2).toNat := by rw [← hws, List.length_take]; omega
  have hwnd : ws.Nodup := by
    rw [← hws]
    exact (hzp.nodup_iff.mpr eight_nodup).sublist (List.take_sublist _ _)
  have hw8 : ∀ s ∈ ws, s ∈ eight := fun s hs => hzp.mem_iff.mp (by rw [← hws] at hs; exact List.mem_of_mem_take hs)
  obtain ⟨r3, l3, h3, r30, r31, hl3, _⟩ := hd ns 6 l2 (by decide) (by omega) hns
  obtain ⟨gs, l4, c5, c6, c7, e4, q1, q2, q3, q4⟩ := sys_loop hd hsh hns (most := .int most) hwnd (by omega) (by omega) (1 + r3).toNat [] l3 .no .no .no (by simp; omega) (by omega) (fun i g hi => by simp at hi) (fun g hg => by simp at hg)
  have q1 : gs.length = (1 + r3).toNat := by rw [q1]; simp
  have hsp := sortS_perm ws
  refine ⟨sortS ws, gs, l4, ?_, ⟨by rw [hsp.length_eq]; omega, by rw [hsp.length_eq]; omega, fun s hs => eight_word s (hw8 s (hsp.mem_iff.mp hs)), rise_strict (sortS_rise ws) (hsp.nodup_iff.mpr hwnd), by omega, by omega, gates_perm q2 fun s hs => hsp.mem_iff.mpr hs⟩, by rw [hsp.length_eq]; omega, by omega, q3, fun s hs => hw8 s (hsp.mem_iff.mp hs), by omega⟩
  rw [evG_of rfl]
  show bindR (evS F FU b_law_system.b [.im (.list (dI ns)), .rf (dI l), .im (.int most), .no, .no, .no, .no, .no]) finG = _
  unfold b_law_system
  dsimp only
  have e1 : evS F FU (.asg 3 (.callS "_law_shuffled" 1 (.loc 0) (.cons (.lst (.cons (.str "a") (.cons (.str "b") (.cons (.str "c") (.cons (.str "d") (.cons (.str "x") (.cons (.str "y") (.cons (.str "ab") (.cons (.str "zz") .nil))))))))) .nil))) [.im (.list (dI ns)), .rf (dI l), .im (.int most), .no, .no, .no, .no, .no] = .ok (.nx, [.im (.list (dI ns)), .rf (dI l1), .im (.int most), .im (.list (dS zs)), .no, .no, .no, .no]) := by
    have h1 : F.g "_law_shuffled" [.list (dI ns), .list [.str "a", .str "b", .str "c", .str "d", .str "x", .str "y", .str "ab", .str "zz"]] (dI l) = .ok (.list (dS zs), dI l1) := h1
    simp [lstAt, rd, h1]
  have e2 : evS F FU (.asg 3 (.slc (.loc 3) .nil (.tr (.bin .add (.int 1) (.callS "_law_draw" 1 (.loc 0) (.cons (.loc 2) .nil)))))) [.im (.list (dI ns)), .rf (dI l1), .im (.int most), .im (.list (dS zs)), .no, .no, .no, .no] = .ok (.nx, [.im (.list (dI ns)), .rf (dI l2), .im (.int most), .im (.list (dS ws)), .no, .no, .no, .no]) := by
    have ht : (dS zs).take (1 + r2).toNat = dS ws := by rw [← List.map_take, hws]
    simp [lstAt, rd, h2, optI, slc_take (dS zs) (1 + r2) (by omega), ht]
  have e3 : evS F FU (.asgF 4 (.lst .nil)) [.im (.list (dI ns)), .rf (dI l2), .im (.int most), .im (.list (dS ws)), .no, .no, .no, .no] = .ok (.nx, envS ns l2 (.int most) ws [] .no .no .no) := by
    simp [sto, envS]
  have e5 : evS F FU (.for_ (.one 5) (.rng1 (.bin .add (.int 1) (.callS "_law_draw" 1 (.loc 0) (.cons (.int 6) .nil)))) sysBody) (envS ns l2 (.int most) ws [] .no .no .no) = .ok (.nx, envS ns l4 (.int most) ws gs c5 c6 c7) := by
    have hr : rngDD (.int 0) (.int (1 + r3)) (.int 1) = .ok (rngL 0 1 (1 + r3).toNat) := by
      show rngD 0 (1 + r3) 1 = _
      unfold rngD
      rw [if_pos ⟨by decide, by decide, by omega, by omega⟩, if_pos rfl, show (1 + r3 - 0) = 1 + r3 by omega]
    rw [evS_for, evI_rng1]
    have : evE F (.bin .add (.int 1) (.callS "_law_draw" 1 (.loc 0) (.cons (.int 6) .nil))) (envS ns l2 (.int most) ws [] .no .no .no) = .ok (.int (1 + r3), envS ns l3 (.int most) ws [] .no .no .no) := by
      simp [envS, lstAt, rd, h3]
    rw [this]
    simp only [bindR_ok]
    rw [hr]
    simp only [bindC_ok, bindR_ok]
    exact e4
  rw [evS_seq, e1]
  simp only [bindR_ok]
  rw [evS_seq, e2]
  simp only [bindR_ok]
  rw [evS_seq, e3]
  simp only [bindR_ok]
  rw [evS_seq]
  show bindR (bindR (evS F FU (.for_ (.one 5) (.rng1 (.bin .add (.int 1) (.callS "_law_draw" 1 (.loc 0) (.cons (.int 6) .nil)))) sysBody) (envS ns l2 (.int most) ws [] .no .no .no)) _) finG = _
  rw [e5]
  simp only [bindR_ok]
  have hsrt : primD .sorted (.list (dS ws)) = .ok (.list (dS (sortS ws))) := primD_sorted (strs_map ws) (by omega)
  simp [envS, rd, peek, hsrt, finG, sysD]
end FtLaw
/-! FtQ: evaluations that leave the names as they are. -/
namespace Ft
open PySem
theorem addF_f {F : Fns} {x : Str} {g : List D → R D} : (addF F x g).f x = g := if_pos rfl
theorem addG_g {F : Fns} {x : Str} {g : List D → List D → R (D × List D)} : (addG F x g).g x = g := if_pos rfl
section
variable {F : Fns} {ρ : Ft.Env} {n : Nat} {a b c e t : E} {x y z : Bool} {d d' : D} {i j k : Int}
theorem q_loc {m : Nat} (h : ρ[m]? = some (.im d)) : evE F (.loc m) ρ = .ok (d, ρ) := by rw [evE_loc]; unfold rd; rw [h]
theorem q_pk {m : Nat} (h : ρ[m]? = some (.im d)) (r : R (D × Ft.Env)) : pk (.loc m) ρ r = .ok (d, ρ) := by rw [pk_loc]; unfold peek; rw [h]
/-- e is looked at, or evaluated -/
def QP (F : Fns) (e : E) (ρ : Ft.Env) (d : D) : Prop := pk e ρ (evE F e ρ) = .ok (d, ρ)
theorem qp_loc {m : Nat} (h : ρ[m]? = some (.im d)) : QP F (.loc m) ρ d := q_pk h _
theorem qp_of (h : evE F e ρ = .ok (d, ρ)) (hp : ∀ r, pk e ρ r = r := by intro _; rfl) : QP F e ρ d := by unfold QP; rw [hp, h]
theorem q_isi {ty : Ty} (h : QP F a ρ d) (hz : isTy ty d = x) : evE F (.isi a ty) ρ = .ok (.bool x, ρ) := by rw [evE_isi, h, ← hz]; rfl
theorem q_prim {p : Pr} (h : QP F a ρ d) (hz : primD p d = .ok d') : evE F (.prim p a) ρ = .ok (d', ρ) := by rw [evE_prim, h]; simp [hz]
theorem q_bin {o : Bi} {dz : D} (ha : evE F a ρ = .ok (d, ρ)) (hb : evE F b ρ = .ok (d', ρ)) (hz : binD o d d' = .ok dz) : evE F (.bin o a b) ρ = .ok (dz, ρ) := by rw [evE_bin, ha]; simp [hb, hz]
theorem q_cmp {o : Cm} (ha : evE F a ρ = .ok (d, ρ)) (hb : QP F b ρ d') (hz : cmpD o d d' = .ok z) : evE F (.cmp o a b) ρ = .ok (.bool z, ρ) := by rw [evE_cmp, ha]; simp only [bindR_ok]; rw [hb]; simp [hz]
theorem q_ix {dz : D} (ha : evE F a ρ = .ok (d, ρ)) (hb : evE F b ρ = .ok (d', ρ)) (hz : ixD d d' = .ok dz) : evE F (.ix a b) ρ = .ok (dz, ρ) := by rw [evE_ix, ha]; simp [hb, hz]
theorem q_chain {lo x' hi : Int} (ha : evE F a ρ = .ok (.int lo, ρ)) (hb : evE F b ρ = .ok (.int x', ρ)) (hc : evE F c ρ = .ok (.int hi, ρ)) : evE F (.chain .le .le a b c) ρ = .ok (.bool (decide (lo ≤ x' ∧ x' ≤ hi)), ρ) := by
  rw [evE_chain, ha]
  simp only [bindR_ok]
  rw [hb]
  have k1 : ∀ u v : Int, cmpD .le (.int u) (.int v) = .ok (decide (u ≤ v)) := fun _ _ => rfl
  simp only [bindR_ok, k1, bindC_ok]
  by_cases h1 : lo ≤ x'
  · by_cases h2 : x' ≤ hi <;> simp [h1, h2, hc, k1]
  · simp [h1]
theorem q_and (ha : evE F a ρ = .ok (.bool x, ρ)) (hb : x = true → evE F b ρ = .ok (.bool y, ρ)) : evE F (.and a b) ρ = .ok (.bool (x && y), ρ) := by
  rw [evE_and, ha]
  cases x with
  | true => simp [hb rfl]
  | false => rfl
theorem q_or (ha : evE F a ρ = .ok (.bool x, ρ)) (hb : x = false → evE F b ρ = .ok (.bool y, ρ)) : evE F (.or a b) ρ = .ok (.bool (x || y), ρ) := by
  rw [evE_or, ha]
  cases x with
  | false => simp [hb rfl]
  | true => rfl
theorem q_not (ha : evE F a ρ = .ok (.bool x, ρ)) (hz : (!x) = z := by rfl) : evE F (.not a) ρ = .ok (.bool z, ρ) := by rw [evE_not, ha, ← hz]; rfl
theorem q_ife (ht : evT F t ρ = .ok (x, ρ)) (ha : x = true → evE F a ρ = .ok (d, ρ)) (hb : x = false → evE F b ρ = .ok (d, ρ)) : evE F (.ife t a b) ρ = .ok (d, ρ) := by
  rw [evE_ife, ht]
  cases x with
  | true => simp [ha rfl]
  | false => simp [hb rfl]
/-- arguments -/
theorem q_nil : evA F .nil ρ = .ok ([], ρ) := rfl
theorem q_cons {ds : List D} (ha : evE F a ρ = .ok (d, ρ)) (hb : evA F b ρ = .ok (ds, ρ)) : evA F (.cons a b) ρ = .ok (d :: ds, ρ) := by rw [evA_cons, ha]; simp [hb]
theorem q_call {f : Str} {ds : List D} (ha : evA F a ρ = .ok (ds, ρ)) (hf : F.f f ds = .ok d) : evE F (.call f a) ρ = .ok (d, ρ) := by rw [evE_call, ha]; simp [hf]
theorem q_tup {ds : List D} (ha : evA F a ρ = .ok (ds, ρ)) : evE F (.tup a) ρ = .ok (.tuple ds, ρ) := by rw [evE_tup, ha]; rfl
theorem q_lst {ds : List D} (ha : evA F a ρ = .ok (ds, ρ)) : evE F (.lst a) ρ = .ok (.list ds, ρ) := by rw [evE_lst, ha]; rfl
/-- tests -/
theorem t_tr' (h : QP F a ρ d) (hz : truthD d = .ok x) : evT F (.tr a) ρ = .ok (x, ρ) := by rw [Ft.evT_tr, h]; simp [hz]
theorem t_trB (h : evE F a ρ = .ok (.bool x, ρ)) (hp : ∀ r, pk a ρ r = r := by intro _; rfl) : evT F (.tr a) ρ = .ok (x, ρ) := t_tr' (qp_of h hp) rfl
theorem t_not' (h : evT F a ρ = .ok (x, ρ)) (hz : (!x) = z := by rfl) : evT F (.not a) ρ = .ok (z, ρ) := by rw [evT_not, h, ← hz]; rfl
theorem t_or' (ha : evT F a ρ = .ok (x, ρ)) (hb : x = false → evT F b ρ = .ok (y, ρ)) : evT F (.or a b) ρ = .ok (x || y, ρ) := by
  rw [evT_or, ha]
  cases x with
  | false => simp [hb rfl]
  | true => rfl
theorem t_and' (ha : evT F a ρ = .ok (x, ρ)) (hb : x = true → evT F b ρ = .ok (y, ρ)) : evT F (.and a b) ρ = .ok (x && y, ρ) := by
  rw [evT_and, ha]
  cases x with
  | true => simp [hb rfl]
  | false => rfl
/-- statements -/
theorem s_seq {s1 s2 : S} {ρ' : Ft.Env} (h : evS F n s1 ρ = .ok (.nx, ρ')) : evS F n (.seq s1 s2) ρ = evS F n s2 ρ' := by rw [evS_seq, h]; rfl
theorem s_seqR {s1 s2 : S} {ρ' : Ft.Env} (h : evS F n s1 ρ = .ok (.rt d, ρ')) : evS F n (.seq s1 s2) ρ = .ok (.rt d, ρ') := by rw [evS_seq, h]; rfl
theorem s_ret (h : evE F e ρ = .ok (d, ρ)) {s2 : S} : evS F n (.seq (.ret e) s2) ρ = .ok (.rt d, ρ) := by rw [evS_seq, evS_ret, h]; rfl
/-- if t: return e; then s2 -/
theorem s_ifret {s2 : S} (ht : evT F t ρ = .ok (x, ρ)) (he : x = true → evE F e ρ = .ok (d, ρ)) : evS F n (.seq (.ite t (.seq (.ret e) .skip) .skip) s2) ρ = if x then .ok (.rt d, ρ) else evS F n s2 ρ := by
  rw [evS_seq, evS_ite, ht]
  cases x with
  | true =>
    simp only [bindR_ok, if_true]
    rw [s_ret (he rfl)]
    rfl
  | false => rfl
theorem f_done {d0 : Def} {ds : List D} (hl : ds.length = d0.ps) {ρ' : Ft.Env} (h : evS F n d0.b (startE d0.n ds) = .ok (.rt d, ρ')) : evF F n d0 ds = .ok d := by rw [evF_of hl, h]; rfl
end
theorem lcL_filter {t : Tg} {c : Ft.Env → R (Bool × Ft.Env)} {e : Ft.Env → R (D × Ft.Env)} (p : D → Bool) (g : D → D) {ρ : Ft.Env} : ∀ {xs : List D}, (∀ x ∈ xs, ∃ ρ1, tgt t x ρ = .ok ρ1 ∧ c ρ1 = .ok (p x, ρ1) ∧ (p x = true → e ρ1 = .ok (g x, ρ1)) ∧ clr t ρ1 = ρ) → lcL t c e xs ρ = .ok ((xs.filter p).map g, ρ)
  | [], _ => rfl
  | x :: xs, h => by
    obtain ⟨ρ1, h1, h2, h3, h4⟩ := h x List.mem_cons_self
    have ih := lcL_filter p g (xs := xs) fun y hy => h y (List.mem_cons_of_mem _ hy)
    unfold lcL
    cases hp : p x with
    | true =>
      rw [hp] at h2
      simp [h1, h2, h3 hp, h4, ih, hp]
    | false =>
      rw [hp] at h2
      simp [h1, h2, h4, ih, hp]
theorem q_filter {F : Fns} {ρ : Ft.Env} {t : Tg} {it c e : E} {xs : List D} (p : D → Bool) (g : D → D) (hi : evI F it ρ = .ok (xs, ρ)) (hl : xs.length < LIM) (h : ∀ x ∈ xs, ∃ ρ1, tgt t x (clr t ρ) = .ok ρ1 ∧ evT F c ρ1 = .ok (p x, ρ1) ∧ (p x = true → evE F e ρ1 = .ok (g x, ρ1)) ∧ clr t ρ1 = clr t ρ) (hb : back t ρ (clr t ρ) = ρ) :
    evE F (.lc t it c e) ρ = .ok (.list ((xs.filter p).map g), ρ) := by
  have := lcL_filter (t := t) (c := evT F c) (e := evE F e) (ρ := clr t ρ) p g (xs := xs) h
  rw [evE_lc, hi]
  simp only [bindR_ok]
  rw [if_pos hl, this]
  simp only [calmR, bindR_ok, hb]
/-- a loop that goes on -/
theorem forL_nx {t : Tg} {b : Ft.Env → R (Res × Ft.Env)} (I : List D → Ft.Env → Prop) (step : ∀ x xs ρ, I (x :: xs) ρ → ∃ ρ1 ρ2, tgt t x ρ = .ok ρ1 ∧ b ρ1 = .ok (.nx, ρ2) ∧ I xs ρ2) : ∀ (xs : List D) (ρ : Ft.Env), I xs ρ → ∃ ρ', forL t b xs ρ = .ok (.nx, ρ') ∧ I [] ρ'
  | [], ρ, h => ⟨ρ, rfl, h⟩
  | x :: xs, ρ, h => by
    obtain ⟨ρ1, ρ2, h1, h2, h3⟩ := step x xs ρ h
    obtain ⟨ρ', h4, h5⟩ := forL_nx I step xs ρ2 h3
    refine ⟨ρ', ?_, h5⟩
    unfold forL
    rw [h1]
    simp only [bindC_ok]
    rw [h2]
    exact h4
theorem s_for {F : Fns} {n : Nat} {ρ ρ1 ρ' : Ft.Env} {t : Tg} {it : E} {b : S} {xs : List D} (hi : evI F it ρ = .ok (xs, ρ1)) (h : forL t (evS F n b) xs ρ1 = .ok (.nx, ρ')) : evS F n (.for_ t it b) ρ = .ok (.nx, ρ') := by
  rw [evS_for, hi]
  exact h
/-- a comprehension without a test -/
theorem q_map {F : Fns} {ρ : Ft.Env} {t : Tg} {it e : E} {xs : List D} (g : D → D) (hi : evI F it ρ = .ok (xs, ρ)) (hl : xs.length < LIM) (h : ∀ x ∈ xs, ∃ ρ1, tgt t x (clr t ρ) = .ok ρ1 ∧ evE F e ρ1 = .ok (g x, ρ1) ∧ clr t ρ1 = clr t ρ) (hb : back t ρ (clr t ρ) = ρ) :
    evE F (.lc t it .tt e) ρ = .ok (.list (xs.map g), ρ) := by
  have := q_filter (F := F) (ρ := ρ) (t := t) (it := it) (c := .tt) (e := e) (fun _ => true) g hi hl (fun x hx => by
    obtain ⟨ρ1, h1, h2, h3⟩ := h x hx
    exact ⟨ρ1, h1, rfl, fun _ => h2, h3⟩) hb
  have ef : xs.filter (fun _ => true) = xs := List.filter_eq_self.mpr fun _ _ => rfl
  rw [ef] at this
  exact this
/-- a comprehension over a list that is changed later -/
theorem q_filterV {F : Fns} {ρ : Ft.Env} {t : Tg} {s : Nat} {c e : E} {xs : List D} (p : D → Bool) (g : D → D) (hs : ρ[s]? = some (.mu xs)) (hl : xs.length < LIM) (h : ∀ x ∈ xs, ∃ ρ1, tgt t x (clr t (ρ.set s .no)) = .ok ρ1 ∧ evT F c ρ1 = .ok (p x, ρ1) ∧ (p x = true → evE F e ρ1 = .ok (g x, ρ1)) ∧ clr t ρ1 = clr t (ρ.set s .no)) (hb : (back t (ρ.set s .no) (clr t (ρ.set s .no))).set s (.mu xs) = ρ) :
    evE F (.lcv t s c e) ρ = .ok (.list ((xs.filter p).map g), ρ) := by
  have := lcL_filter (t := t) (c := evT F c) (e := evE F e) (ρ := clr t (ρ.set s .no)) p g (xs := xs) h
  rw [evE_lcv, hs]
  dsimp only
  rw [if_pos hl, this]
  simp only [calmR, bindR_ok, hb]
end Ft
namespace FtLaw
open PySem Ft
theorem bools_map {α : Type} (p : α → Bool) : ∀ l : List α, boolsD (l.map fun x => PyData.bool (p x)) = .ok (l.map p)
  | [] => rfl
  | x :: l => by
    show bindR (boolsD (l.map fun x => PyData.bool (p x))) _ = _
    rw [bools_map p l]
    rfl
theorem all_map {α : Type} (p : α → Bool) (l : List α) : primD .all (.list (l.map fun x => PyData.bool (p x))) = .ok (.bool (l.all p)) := by
  rw [primD_all, bools_map]
  simp
/-- all([..]) over a list of values -/
theorem all_lc {F : Fns} {ρ : Ft.Env} {t : Tg} {it e : E} {xs : List D} (p : D → Bool) (hi : evI F it ρ = .ok (xs, ρ)) (hl : xs.length < LIM) (h : ∀ x ∈ xs, ∃ ρ1, tgt t x (clr t ρ) = .ok ρ1 ∧ evE F e ρ1 = .ok (.bool (p x), ρ1) ∧ clr t ρ1 = clr t ρ) (hb : back t ρ (clr t ρ) = ρ) :
    evE F (.prim .all (.lc t it .tt e)) ρ = .ok (.bool (xs.all p), ρ) := by
  have := lcL_map (t := t) (c := evT F .tt) (e := evE F e) (ρ := clr t ρ) (fun x => .bool (p x)) (xs := xs) fun x hx => by
    obtain ⟨ρ1, h1, h2, h3⟩ := h x hx
    exact ⟨ρ1, h1, rfl, h2, h3⟩
  rw [evE_prim, pk_lc, evE_lc, hi]
  simp only [bindR_ok]
  rw [if_pos hl, this]
  simp only [calmR, bindR_ok, hb]
  rw [all_map]
  rfl
def smallS : D → Prop
  | .str s => s.length ≤ LIM
  | _ => True
def wordB : D → Bool
  | .str s => decide ((1 : Int) ≤ s.length ∧ (s.length : Int) ≤ 4) && s.cps.toList.all fun c => decide (97 ≤ c) && decide (c ≤ 122)
  | _ => false
theorem chr_le (a c : Nat) : strLe ⟨#[a]⟩ ⟨#[c]⟩ = decide (a ≤ c) := by
  unfold strLe
  have : (([c] : List Nat) < [a]) ↔ c < a := by simp [List.cons_lt_cons_iff]
  by_cases h : c < a
  · simp [this.mpr h]
    exact h
  · simp [mt this.mp h]
    omega
theorem str_a : ("a" : Str) = ⟨#[97]⟩ := by decide +kernel
theorem str_z : ("z" : Str) = ⟨#[122]⟩ := by decide +kernel
def sgnB : D → Bool
  | .str x => strLe ⟨#[97]⟩ x && strLe x ⟨#[122]⟩
  | _ => false
theorem is_word_ev {F : Fns} {d : D} (hs : smallS d) : evF F FU b_is_word [d] = .ok (.bool (wordB d)) := by
  cases d with
  | str s =>
    have hs : s.length ≤ LIM := hs
    have hlen : primD .len (.str s) = .ok (.int (s.length : Nat)) := if_pos hs
    have ht : evT F (.or (.not (.tr (.isi (.loc 0) .str))) (.not (.tr (.chain .le .le (.int 1) (.prim .len (.loc 0)) (.int 4))))) [.im (.str s), .no] = .ok (!true || !decide ((1 : Int) ≤ s.length ∧ (s.length : Int) ≤ 4), [.im (.str s), .no]) :=
      t_or' (t_not' (t_trB (q_isi (qp_loc rfl) rfl))) fun _ => t_not' (t_trB (q_chain rfl (q_prim (qp_loc rfl) hlen) rfl))
    refine f_done rfl (ρ' := [.im (.str s), .no]) ?_
    show evS F FU b_is_word.b [.im (.str s), .no] = _
    unfold b_is_word
    rw [s_ifret ht fun _ => rfl]
    by_cases h : (1 : Int) ≤ s.length ∧ (s.length : Int) ≤ 4
    · rw [decide_eq_true h]
      simp only [Bool.not_true, Bool.or_self, Bool.false_eq_true, if_false]
      have hall := all_lc (F := F) (ρ := [.im (.str s), .no]) (t := .one 1) (it := .sq (.loc 0)) (e := .chain .le .le (.str "a") (.loc 1) (.str "z")) (xs := s.cps.toList.map fun c => .str ⟨#[c]⟩)
        sgnB rfl (by
          have e : s.cps.toList.length = s.length := by simp [Str.length]
          have : 4 < LIM := by decide
          rw [List.length_map, e]
          omega) (fun x hx => by
          obtain ⟨c, _, rfl⟩ := List.mem_map.mp hx
          refine ⟨_, rfl, ?_, rfl⟩
          rw [str_a, str_z]
          have k1 : cmpD .le (.str ⟨#[97]⟩) (.str ⟨#[c]⟩) = .ok (strLe ⟨#[97]⟩ ⟨#[c]⟩) := rfl
          have k2 : cmpD .le (.str ⟨#[c]⟩) (.str ⟨#[122]⟩) = .ok (strLe ⟨#[c]⟩ ⟨#[122]⟩) := rfl
          cases hq : strLe ⟨#[97]⟩ ⟨#[c]⟩ <;> simp [clr, rd, k1, k2, hq, sgnB]) rfl
      have hw : (s.cps.toList.map fun c => PyData.str ⟨#[c]⟩).all sgnB = wordB (.str s) := by
        rw [List.all_map]
        show _ = (decide ((1 : Int) ≤ s.length ∧ (s.length : Int) ≤ 4) && _)
        rw [decide_eq_true h]
        rw [Bool.true_and]
        congr 1
        funext c
        show (strLe ⟨#[97]⟩ ⟨#[c]⟩ && strLe ⟨#[c]⟩ ⟨#[122]⟩) = _
        rw [chr_le, chr_le]
      rw [hw] at hall
      exact s_ret hall
    · rw [decide_eq_false h]
      simp only [Bool.not_true, Bool.not_false, Bool.or_true, if_true]
      show _ = Except.ok (Res.rt (.bool (decide ((1 : Int) ≤ s.length ∧ (s.length : Int) ≤ 4) && _)), _)
      rw [decide_eq_false h]
      rfl
  | _ => rfl
/-! ### is_ascending -/
def ascB : List D → Bool
  | .str a :: .str b :: r => strLt a b && ascB (.str b :: r)
  | _ => true
def pairLt : D → Bool
  | .tuple [.str a, .str b] => strLt a b
  | _ => false
theorem asc_zip : ∀ l : List Str, (zipL (dS l) ((dS l).drop 1)).all pairLt = ascB (dS l)
  | [] => rfl
  | [_] => rfl
  | a :: b :: r => by
    show (strLt a b && (zipL (dS (b :: r)) ((dS (b :: r)).drop 1)).all pairLt) = _
    rw [asc_zip (b :: r)]
    rfl
theorem slc_from1 (xs : List D) : slcD (some 1) none (.tuple xs) = .ok (.tuple (xs.drop 1)) := by
  show Except.ok (PyData.tuple (cutL xs (some 1) none)) = _
  have e : cutIx xs.length 0 (some 1) = min 1 xs.length := rfl
  unfold cutL
  rw [e]
  show Except.ok (PyData.tuple (List.take (xs.length - min 1 xs.length) (xs.drop (min 1 xs.length)))) = _
  cases xs with
  | nil => rfl
  | cons x r =>
    have : min 1 (x :: r).length = 1 := by simp
    rw [this]
    simp
theorem is_asc_ev {F : Fns} {l : List Str} (hl : l.length ≤ 1000) : evF F FU b_is_ascending [.tuple (dS l)] = .ok (.bool (ascB (dS l))) := by
  refine f_done rfl (ρ' := [.im (.tuple (dS l)), .no, .no]) ?_
  show evS F FU b_is_ascending.b [.im (.tuple (dS l)), .no, .no] = _
  unfold b_is_ascending
  have hlim : 1000 < LIM := by decide
  have hall := all_lc (F := F) (ρ := [.im (.tuple (dS l)), .no, .no]) (t := .two 1 2) (it := .zip (.loc 0) (.slc (.loc 0) (.tr (.int 1)) .nil)) (e := .cmp .lt (.loc 1) (.loc 2)) (xs := zipL (dS l) ((dS l).drop 1))
    pairLt (by simp [rd, optI, slc_from1, zipD]) (by
      rw [zipL_len]
      have : (dS l).length = l.length := by simp
      omega) (fun x hx => by
      have key : ∀ (xs ys : List Str), ∀ x ∈ zipL (dS xs) (dS ys), ∃ a b, x = PyData.tuple [.str a, .str b] := by
        intro xs
        induction xs with
        | nil => intro ys x hx; cases hx
        | cons a xs ih =>
          intro ys x hx
          cases ys with
          | nil => cases hx
          | cons b ys =>
            rcases List.mem_cons.mp hx with rfl | hx
            · exact ⟨a, b, rfl⟩
            · exact ih ys x hx
      obtain ⟨a, b, rfl⟩ := key l (l.drop 1) x (by
        have : dS (l.drop 1) = (dS l).drop 1 := by simp
        rw [this]
        exact hx)
      exact ⟨_, rfl, rfl, rfl⟩) rfl
  rw [asc_zip] at hall
  exact s_ret hall
/-! ### are_words -/
def strsB (xs : List D) : Option (List Str) := match strsD xs with
  | .ok l => some l
  | _ => none
def wordsB : D → Bool
  | .tuple xs => decide ((1 : Int) ≤ xs.length ∧ (xs.length : Int) ≤ 8) && (xs.all wordB && ascB xs)
  | _ => false
theorem word_strs : ∀ {xs : List D}, xs.all wordB = true → ∃ l : List Str, xs = dS l
  | [], _ => ⟨[], rfl⟩
  | x :: xs, h => by
    rw [List.all_cons, Bool.and_eq_true] at h
    obtain ⟨l, rfl⟩ := word_strs h.2
    cases x with
    | str s => exact ⟨s :: l, rfl⟩
    | _ => exact absurd h.1 Bool.false_ne_true
theorem are_words_ev {F : Fns} (h1 : ∀ d, smallS d → F.f "is_word" [d] = .ok (.bool (wordB d))) (h2 : ∀ l : List Str, l.length ≤ 1000 → F.f "is_ascending" [.tuple (dS l)] = .ok (.bool (ascB (dS l)))) {d : D} (hs : ∀ xs, d = .tuple xs → ∀ x ∈ xs, smallS x) : evF F FU b_are_words [d] = .ok (.bool (wordsB d)) := by
  cases d with
  | tuple xs =>
    refine f_done rfl (ρ' := [.im (.tuple xs), .no]) ?_
    show evS F FU b_are_words.b [.im (.tuple xs), .no] = _
    unfold b_are_words
    have ht : evT F (.or (.not (.tr (.isi (.loc 0) .tuple))) (.not (.tr (.chain .le .le (.int 1) (.prim .len (.loc 0)) (.int 8))))) [.im (.tuple xs), .no] = .ok (!true || !decide ((1 : Int) ≤ xs.length ∧ (xs.length : Int) ≤ 8), [.im (.tuple xs), .no]) :=
      t_or' (t_not' (t_trB (q_isi (qp_loc rfl) rfl))) fun _ => t_not' (t_trB (q_chain rfl (q_prim (qp_loc rfl) rfl) rfl))
    rw [s_ifret ht fun _ => rfl]
    by_cases h : (1 : Int) ≤ xs.length ∧ (xs.length : Int) ≤ 8
    · rw [decide_eq_true h]
      simp only [Bool.not_true, Bool.or_self, Bool.false_eq_true, if_false]
      have hall := all_lc (F := F) (ρ := [.im (.tuple xs), .no]) (t := .one 1) (it := .sq (.loc 0)) (e := .call "is_word" (.cons (.loc 1) .nil)) (xs := xs) wordB rfl (by
          have : 1000 < LIM := by decide
          omega) (fun x hx => ⟨_, rfl, q_call (q_cons (q_loc rfl) q_nil) (h1 x (hs xs rfl x hx)), rfl⟩) rfl
      have hw : wordsB (.tuple xs) = (xs.all wordB && ascB xs) := by
        show (decide ((1 : Int) ≤ xs.length ∧ (xs.length : Int) ≤ 8) && _) = _
        rw [decide_eq_true h]
        rfl
      rw [hw]
      refine s_ret (q_and hall fun hx => ?_)
      obtain ⟨l, rfl⟩ := word_strs hx
      exact q_call (q_cons (q_loc rfl) q_nil) (h2 l (by
        have : (dS l).length = l.length := by simp
        omega))
    · rw [decide_eq_false h]
      simp only [Bool.not_true, Bool.not_false, Bool.or_true, if_true]
      show _ = Except.ok (Res.rt (.bool (decide ((1 : Int) ≤ xs.length ∧ (xs.length : Int) ≤ 8) && _)), _)
      rw [decide_eq_false h]
      rfl
  | _ => rfl
end FtLaw
namespace FtLaw
open PySem Ft
def intB : D → Int → Int → Bool
  | .int i, lo, hi => decide (lo ≤ i ∧ i ≤ hi)
  | _, _, _ => false
def inB (ps : List Str) (n : Int) : D → Bool
  | .str s => (dS ps).any fun z => PyData.eqv z (.str s)
  | d => intB d 0 (n - 1)
theorem in_tup (ps : List Str) (s : Str) : cmpD .isin (.str s) (.tuple (dS ps)) = .ok ((dS ps).any fun z => PyData.eqv z (.str s)) := by
  have hs : (dS ps).all scalD = true := by
    rw [List.all_map]
    exact List.all_eq_true.mpr fun _ _ => rfl
  show inD (.str s) (.tuple (dS ps)) = _
  unfold inD
  show bindR (Except.ok (dS ps)) _ = _
  simp only [bindR_ok]
  rw [hs]
  rfl
theorem in_key {ps : List Str} {n : Int} : ∀ {xs : List D}, xs.all (inB ps n) = true → ∃ ks, keysD xs = .ok ks ∧ ks.length = xs.length
  | [], _ => ⟨[], rfl, rfl⟩
  | x :: xs, h => by
    rw [List.all_cons, Bool.and_eq_true] at h
    obtain ⟨ks, e, hl⟩ := in_key h.2
    cases x with
    | str s =>
      refine ⟨.inr s :: ks, ?_, by simp [hl]⟩
      show bindR (keysD xs) _ = _
      rw [e]; rfl
    | int i =>
      refine ⟨.inl i :: ks, ?_, by simp [hl]⟩
      show bindR (keysD xs) _ = _
      rw [e]; rfl
    | _ => exact absurd h.1 Bool.false_ne_true
def difB (xs : List D) : Bool := match keysD xs with
  | .ok ks => (cntK ks : Int) == (xs.length : Int)
  | _ => false
def gate1 (ps : List Str) (n : Int) (l : D) (xs : List D) : Bool := (decide ((1 : Int) ≤ xs.length ∧ (xs.length : Int) ≤ 80) && intB l 1 xs.length) && (xs.all (inB ps n) && difB xs)
def gateB (ps : List Str) (n : Int) : D → Bool
  | .tuple [l, .tuple xs] => gate1 ps n l xs
  | _ => false
theorem gateB_long (ps : List Str) (n : Int) (a b c : D) (r : List D) : gateB ps n (.tuple (a :: b :: c :: r)) = false := by cases b <;> rfl
end FtLaw
namespace FtLaw
open PySem Ft
def gatePB (ps : List Str) : D → Bool
  | .tuple [.int i, g] => gateB ps i g
  | _ => false
def partsOf : D → List Str
  | .tuple xs => xs.map unS
  | _ => []
def sys1 (ps : List Str) : D → Bool
  | .tuple gs => decide ((1 : Int) ≤ gs.length ∧ (gs.length : Int) ≤ 80) && (enumL 0 gs).all (gatePB ps)
  | _ => false
def sysB : D → Bool
  | .tuple [p, g] => wordsB p && sys1 (partsOf p) g
  | _ => false
theorem words_parts {p : D} (h : wordsB p = true) : ∃ l : List Str, p = .tuple (dS l) ∧ partsOf p = l := by
  cases p with
  | tuple xs =>
    have h : (decide ((1 : Int) ≤ xs.length ∧ (xs.length : Int) ≤ 8) && (xs.all wordB && ascB xs)) = true := h
    obtain ⟨l, rfl⟩ := word_strs (an2 (an2 h).2).1
    exact ⟨l, rfl, unS_map l⟩
  | _ => exact absurd h Bool.false_ne_true
theorem sysB_long (a b c : D) (r : List D) : sysB (.tuple (a :: b :: c :: r)) = false := rfl
theorem enum_mem : ∀ (xs : List D) (n : Nat), ∀ x ∈ enumL n xs, ∃ (i : Nat) (d : D), x = .tuple [.int (i : Nat), d]
  | [], _, _, h => by cases h
  | y :: r, n, x, h => by
    rcases List.mem_cons.mp h with rfl | h
    · exact ⟨n, y, rfl⟩
    · exact enum_mem r (n + 1) x h
end FtLaw
namespace FtLaw
open PySem Ft
theorem word_of {s : Str} (h : WordS s) : wordB (.str s) = true := by
  show (decide ((1 : Int) ≤ s.length ∧ (s.length : Int) ≤ 4) && s.cps.toList.all fun c => decide (97 ≤ c) && decide (c ≤ 122)) = true
  rw [decide_eq_true ⟨by have := h.1; omega, by have := h.2.1; omega⟩, Bool.true_and, List.all_eq_true]
  intro c hc
  obtain ⟨h1, h2⟩ := h.2.2 c hc
  simp [h1, h2]
theorem asc_of : ∀ {l : List Str}, l.Pairwise (fun a b => strLt a b = true) → ascB (dS l) = true
  | [], _ => rfl
  | [_], _ => rfl
  | a :: b :: r, h => by
    rw [List.pairwise_cons] at h
    show (strLt a b && ascB (dS (b :: r))) = true
    rw [h.1 b List.mem_cons_self, asc_of h.2]
    rfl
theorem words_of {ps : List Str} {gs : List (Int × List D)} (h : SysOk ps gs) : wordsB (.tuple (dS ps)) = true := by
  show (decide ((1 : Int) ≤ (dS ps).length ∧ ((dS ps).length : Int) ≤ 8) && ((dS ps).all wordB && ascB (dS ps))) = true
  have h1 := h.p1
  have h2 := h.p8
  rw [List.length_map, decide_eq_true ⟨by omega, by omega⟩, asc_of h.rise, Bool.true_and, Bool.and_true, List.all_eq_true]
  intro d hd
  obtain ⟨s, hs, rfl⟩ := List.mem_map.mp hd
  exact word_of (h.words s hs)
theorem in_of {ps : List Str} {n : Nat} {d : D} (h : InOk ps n d) : inB ps n d = true := by
  rcases h with ⟨s, hs, rfl⟩ | ⟨i, rfl, h1, h2⟩
  · show ((dS ps).any fun z => PyData.eqv z (.str s)) = true
    rw [List.any_eq_true]
    exact ⟨.str s, List.mem_map.mpr ⟨s, hs, rfl⟩, by show (s == s) = true; exact beq_self_eq_true s⟩
  · show decide ((0 : Int) ≤ i ∧ i ≤ (n : Int) - 1) = true
    exact decide_eq_true ⟨h1, by omega⟩
theorem keys_mem : ∀ {xs : List D} {ks : List (Sum Int Str)} {k : Sum Int Str} {d : D}, keysD xs = .ok ks → keyD d = .ok k → memK k ks = true → d ∈ xs
  | [], _, _, _, h, _, hm => by cases h; cases hm
  | x :: xs, ks, k, d, h, hd, hm => by
    unfold keysD at h
    obtain ⟨k1, hk1, h⟩ := bindR_ok_inv h
    obtain ⟨ks1, hks, h⟩ := bindR_ok_inv h
    cases h
    have hm : (decide (k1 = k) || memK k ks1) = true := hm
    rw [Bool.or_eq_true] at hm
    rcases hm with hm | hm
    · have e := of_decide_eq_true hm
      subst e
      have : x = d := by
        cases x <;> cases d <;> first | (cases hk1; done) | (cases hd; done) | skip
        · cases hk1; cases hd; rfl
        · cases hk1; cases hd
        · cases hk1; cases hd
        · cases hk1; cases hd; rfl
      rw [this]
      exact List.mem_cons_self
    · exact List.mem_cons_of_mem _ (keys_mem hks hd hm)
theorem cnt_nodup : ∀ {xs : List D} {ks : List (Sum Int Str)}, keysD xs = .ok ks → xs.Nodup → cntK ks = xs.length
  | [], _, h, _ => by cases h; rfl
  | x :: xs, ks, h, hn => by
    unfold keysD at h
    obtain ⟨k1, hk1, h⟩ := bindR_ok_inv h
    obtain ⟨ks1, hks, h⟩ := bindR_ok_inv h
    cases h
    rw [List.nodup_cons] at hn
    have hm : ¬ memK k1 ks1 = true := fun hm => hn.1 (keys_mem hks hk1 hm)
    show (if memK k1 ks1 = true then cntK ks1 else cntK ks1 + 1) = _
    rw [if_neg hm, cnt_nodup hks hn.2]
    rfl
theorem gate_of {ps : List Str} {n : Nat} {g : Int × List D} (h : GateOk ps n g) : gateB ps n (gateD g) = true := by
  show gate1 ps n (.int g.1) g.2 = true
  have hall : g.2.all (inB ps n) = true := List.all_eq_true.mpr fun d hd => in_of (h.ins d hd)
  obtain ⟨ks, hk, hkl⟩ := in_key hall
  have hd : difB g.2 = true := by
    unfold difB
    rw [hk]
    show ((cntK ks : Int) == (g.2.length : Int)) = true
    rw [cnt_nodup hk h.nd]
    exact beq_self_eq_true _
  have h1 := h.lo
  have h2 := h.hi
  have h3 := h.len
  unfold gate1
  rw [hall, hd, decide_eq_true ⟨by omega, by omega⟩]
  show (true && decide ((1 : Int) ≤ g.1 ∧ g.1 ≤ (g.2.length : Nat)) && (true && true)) = true
  rw [decide_eq_true ⟨h1, h2⟩]
  rfl
theorem gates_of {ps : List Str} : ∀ {gs : List (Int × List D)} {m : Nat}, (∀ i g, gs[i]? = some g → GateOk ps (m + i) g) → (enumL m (gs.map gateD)).all (gatePB ps) = true
  | [], _, _ => rfl
  | g :: gs, m, h => by
    show (gateB ps m (gateD g) && (enumL (m + 1) (gs.map gateD)).all (gatePB ps)) = true
    have h0 : GateOk ps m g := h 0 g rfl
    rw [gate_of h0, gates_of fun i g' hi => by
      have := h (i + 1) g' (by simpa using hi)
      rwa [show m + (i + 1) = m + 1 + i by omega] at this]
    rfl
theorem sys_of {ps : List Str} {gs : List (Int × List D)} (h : SysOk ps gs) : sysB (sysD ps gs) = true := by
  show (wordsB (.tuple (dS ps)) && sys1 (partsOf (.tuple (dS ps))) (.tuple (gs.map gateD))) = true
  rw [words_of h, show partsOf (.tuple (dS ps)) = ps from unS_map ps]
  show (true && (decide ((1 : Int) ≤ (gs.map gateD).length ∧ ((gs.map gateD).length : Int) ≤ 80) && (enumL 0 (gs.map gateD)).all (gatePB ps))) = true
  have h1 := h.g1
  have h2 := h.g80
  rw [List.length_map, decide_eq_true ⟨by omega, by omega⟩, gates_of fun i g hi => by
    have := h.gates i g hi
    rwa [show 0 + i = i by omega]]
  rfl
/-! ### wrong ones -/
theorem no_parts {ps : List Str} : sysB (.tuple (dS ps)) = false := by
  match ps with
  | [] => rfl
  | [_] => rfl
  | a :: b :: c :: r => rfl
  | [a, b] => rfl
theorem no_rev {ps : List Str} {gs : List (Int × List D)} (h : 1 ≤ gs.length) : sysB (.tuple [.tuple (gs.map gateD), .tuple (dS ps)]) = false := by
  show (wordsB (.tuple (gs.map gateD)) && _) = false
  cases gs with
  | nil => simp at h
  | cons g r =>
    have : wordsB (.tuple ((g :: r).map gateD)) = false := by
      show (_ && ((wordB (gateD g) && _) && _)) = false
      show (_ && ((false && _) && _)) = false
      rw [Bool.false_and, Bool.false_and, Bool.and_false]
    rw [this]
    rfl
theorem sysB_two (p g : D) : sysB (.tuple [p, g]) = (wordsB p && sys1 (partsOf p) g) := rfl
theorem sys1_tup (ps : List Str) (gs : List D) : sys1 ps (.tuple gs) = (decide ((1 : Int) ≤ gs.length ∧ (gs.length : Int) ≤ 80) && (enumL 0 gs).all (gatePB ps)) := rfl
theorem no_gates {ps : List Str} : sysB (.tuple [.tuple (dS ps), .tuple []]) = false := by
  rw [sysB_two, sys1_tup, decide_eq_false (by simp), Bool.false_and, Bool.and_false]
theorem no_zero {ps : List Str} : sysB (.tuple [.tuple (dS ps), .tuple [.tuple [.int 0, .tuple (dS ps)]]]) = false := by
  have h0 : ∀ qs : List Str, gate1 qs 0 (.int 0) (dS ps) = false := fun qs => by
    unfold gate1
    have : intB (.int 0) 1 ((dS ps).length : Nat) = false := by
      show decide ((1 : Int) ≤ 0 ∧ (0 : Int) ≤ ((dS ps).length : Nat)) = false
      exact decide_eq_false (by omega)
    rw [this, Bool.and_false, Bool.false_and]
  have h1 : ∀ qs : List Str, (enumL 0 [.tuple [.int 0, .tuple (dS ps)]]).all (gatePB qs) = (gate1 qs 0 (.int 0) (dS ps) && true) := fun _ => rfl
  rw [sysB_two, sys1_tup, h1, h0, Bool.false_and, Bool.and_false, Bool.and_false]
theorem small_parts {ps : List Str} (h : ∀ s ∈ ps, s.length ≤ 4) : ∀ x ∈ dS ps, smallS x := fun x hx => by
  obtain ⟨s, hs, rfl⟩ := List.mem_map.mp hx
  have := h s hs
  have h4 : 4 ≤ LIM := by decide
  exact Nat.le_trans this h4
end FtLaw
namespace FtLaw
open PySem Ft
/-! ### the functions of the row -/
theorem x_words {d : D} (hs : ∀ xs, d = .tuple xs → ∀ x ∈ xs, smallS x) : f_are_words [d] = .ok (.bool (wordsB d)) :=
  are_words_ev (fun d h => by rw [lk_are_words__is_word]; exact is_word_ev h) (fun l h => by rw [lk_are_words__is_ascending]; exact is_asc_ev h) hs
theorem sys_small {ps : List Str} {gs : List (Int × List D)} (h : SysOk ps gs) : ∀ xs y, sysD ps gs = .tuple [.tuple xs, y] → ∀ x ∈ xs, smallS x := fun xs y e => by
  unfold sysD at e
  cases e
  exact small_parts fun s hs => (h.words s hs).2.1
end FtLaw
/-! MBits: bits of natural numbers as the int operations see them. -/
namespace FtLaw
open PySem Ft
theorem band_nat (a b : Nat) : Builtin.bitAnd (a : Int) (b : Int) = ((a &&& b : Nat) : Int) := by
  unfold Builtin.bitAnd
  have h1 : decide ((0 : Int) ≤ (a : Int)) = true := decide_eq_true (Int.natCast_nonneg a)
  have h2 : decide ((0 : Int) ≤ (b : Int)) = true := decide_eq_true (Int.natCast_nonneg b)
  rw [h1, h2]
  rfl
theorem bor_nat (a b : Nat) : Builtin.bitOr (a : Int) (b : Int) = ((a ||| b : Nat) : Int) := by
  unfold Builtin.bitOr Builtin.bitNot Builtin.bitAnd
  have h1 : decide ((0 : Int) ≤ -(a : Int) - 1) = false := decide_eq_false (by omega)
  have h2 : decide ((0 : Int) ≤ -(b : Int) - 1) = false := decide_eq_false (by omega)
  rw [h1, h2]
  unfold Builtin.bitNot
  have e1 : (-(-(a : Int) - 1) - 1).toNat = a := by omega
  have e2 : (-(-(b : Int) - 1) - 1).toNat = b := by omega
  dsimp only
  rw [e1, e2]
  omega
/-- the sum of the powers of the places below n that p tells -/
def psum (p : Nat → Bool) : Nat → Nat
  | 0 => 0
  | n + 1 => psum p n + (if p n then 2 ^ n else 0)
theorem psum_lt (p : Nat → Bool) : ∀ n, psum p n < 2 ^ n
  | 0 => by simp [psum]
  | n + 1 => by
    have := psum_lt p n
    unfold psum
    rw [Nat.pow_succ]
    split <;> omega
theorem psum_bit (p : Nat → Bool) : ∀ n k, (psum p n).testBit k = (decide (k < n) && p k)
  | 0, k => by simp [psum]
  | n + 1, k => by
    have ih := psum_bit p n k
    have hlt := psum_lt p n
    unfold psum
    by_cases hp : p n = true
    · rw [if_pos hp, Nat.add_comm]
      rcases Nat.lt_trichotomy k n with h | h | h
      · rw [Nat.testBit_two_pow_add_gt h, ih]
        simp [h, Nat.lt_succ_of_lt h]
      · subst h
        rw [Nat.testBit_two_pow_add_eq, ih]
        simp [hp]
      · have : 2 ^ n + psum p n < 2 ^ k := by
          have h1 : 2 ^ (n + 1) ≤ 2 ^ k := Nat.pow_le_pow_right (by omega) h
          rw [Nat.pow_succ] at h1
          omega
        rw [Nat.testBit_lt_two_pow this]
        have h' : ¬ k < n + 1 := by omega
        simp [h']
    · rw [if_neg hp, Nat.add_zero, ih]
      by_cases h : k = n
      · subst h
        simp [hp]
      · have : (k < n) ↔ (k < n + 1) := by omega
        simp [this]
theorem psum_congr {p q : Nat → Bool} : ∀ n, (∀ k, k < n → p k = q k) → psum p n = psum q n
  | 0, _ => rfl
  | n + 1, h => by
    unfold psum
    rw [psum_congr n fun k hk => h k (Nat.lt_succ_of_lt hk), h n (Nat.lt_succ_self n)]
/-- ints of naturals -/
def dN (l : List Nat) : List D := l.map fun n : Nat => PyData.int (n : Int)
theorem ints_dN : ∀ l : List Nat, intsD (dN l) = .ok (l.map fun n : Nat => (n : Int))
  | [] => rfl
  | n :: l => by
    show bindR (intsD (dN l)) _ = _
    rw [ints_dN l]
    rfl
theorem sum_cast : ∀ l : List Nat, (l.map fun n : Nat => (n : Int)).sum = ((l.sum : Nat) : Int)
  | [] => rfl
  | n :: l => by
    rw [List.map_cons, List.sum_cons, List.sum_cons, sum_cast l]
    omega
theorem sum_dN (l : List Nat) : primD .sum (.list (dN l)) = .ok (.int ((l.sum : Nat) : Int)) := by
  show bindR (intsD (dN l)) _ = _
  rw [ints_dN]
  show Except.ok (PyData.int _) = _
  rw [sum_cast]
theorem psum_range (p : Nat → Bool) : ∀ n, (((List.range n).filter p).map fun i => 2 ^ i).sum = psum p n
  | 0 => rfl
  | n + 1 => by
    rw [List.range_succ, List.filter_append, List.map_append, List.sum_append, psum_range p n]
    show _ = psum p n + (if p n then 2 ^ n else 0)
    by_cases h : p n = true
    · simp [h]
    · simp [h]
theorem rng_nat : ∀ (n : Nat) (lo : Nat), rngL (lo : Int) 1 n = dN ((List.range n).map fun i => lo + i)
  | 0, _ => rfl
  | n + 1, lo => by
    have ih := rng_nat n (lo + 1)
    show PyData.int (lo : Int) :: rngL ((lo : Int) + 1) 1 n = _
    rw [show ((lo : Int) + 1) = ((lo + 1 : Nat) : Int) from rfl, ih, List.range_succ_eq_map, List.map_cons, List.map_map]
    show _ = PyData.int ((lo + 0 : Nat) : Int) :: dN _
    congr 2
    refine List.map_congr_left fun i _ => ?_
    show lo + 1 + i = lo + (i + 1)
    omega
theorem rng0 (n : Nat) : rngL 0 1 n = dN (List.range n) := by
  have := rng_nat n 0
  simpa using this
theorem pow_cast (n : Nat) : ((2 : Int) ^ n) = ((2 ^ n : Nat) : Int) := by simp
/-- 1 << k -/
theorem shl_one {k : Nat} (h : k ≤ LIM) : binD .shl (.int 1) (.int (k : Int)) = .ok (.int ((2 ^ k : Nat) : Int)) := by
  show (if 0 ≤ (k : Int) ∧ (k : Int) ≤ (LIM : Nat) ∧ (1 : Int).natAbs < 2 ^ 64 then Except.ok (PyData.int (1 * 2 ^ (k : Int).toNat)) else stk) = _
  rw [if_pos ⟨by omega, by omega, by decide⟩]
  simp
/-- t >> m & 1 -/
theorem shr_bit (t m : Nat) : binD .shr (.int (t : Int)) (.int (m : Int)) = .ok (.int ((t >>> m : Nat) : Int)) := by
  show (if 0 ≤ (m : Int) then Except.ok (PyData.int ((t : Int) / 2 ^ (m : Int).toNat)) else stk) = _
  rw [if_pos (by omega)]
  simp [Nat.shiftRight_eq_div_pow]
theorem and_one (t m : Nat) : binD .band (.int ((t >>> m : Nat) : Int)) (.int 1) = .ok (.int ((t.testBit m).toNat : Int)) := by
  show Except.ok (PyData.int (Builtin.bitAnd ((t >>> m : Nat) : Int) ((1 : Nat) : Int))) = _
  rw [band_nat]
  have : (t >>> m) &&& 1 = (t.testBit m).toNat := by
    rw [Nat.and_comm, Nat.testBit]
    rcases Nat.mod_two_eq_zero_or_one (t >>> m) with h | h
    · have : 1 &&& (t >>> m) = 0 := by rw [Nat.one_and_eq_mod_two, h]
      rw [this]
      rfl
    · have : 1 &&& (t >>> m) = 1 := by rw [Nat.one_and_eq_mod_two, h]
      rw [this]
      rfl
  rw [this]
theorem lay_all : ∀ {xs : List D} {n : Nat}, (∀ x ∈ xs, PyData.canLay0 x = true ∧ PyData.depth x ≤ n) → PyData.canLayAll0 xs = true ∧ PyData.depthAll xs ≤ n
  | [], _, _ => ⟨by simp [PyData.canLayAll0], by simp [PyData.depthAll]⟩
  | x :: xs, n, h => by
    obtain ⟨h1, h2⟩ := h x List.mem_cons_self
    obtain ⟨h3, h4⟩ := lay_all fun y hy => h y (List.mem_cons_of_mem _ hy)
    refine ⟨by simp [PyData.canLayAll0, h1, h3], ?_⟩
    simp only [PyData.depthAll]
    omega
theorem shaped_list {n : Nat} {xs : List D} (hn : n ≤ 60) (h : ∀ x ∈ xs, PyData.canLay0 x = true ∧ PyData.depth x ≤ n) : SeqAt.shaped (.list xs) = true := by
  obtain ⟨h1, h2⟩ := lay_all h
  unfold SeqAt.shaped
  rw [Bool.and_eq_true]
  refine ⟨by simp [PyData.canLay0, h1], decide_eq_true ?_⟩
  simp only [PyData.depth]
  omega
theorem slcT_take (xs : List D) (k : Int) (h : 0 ≤ k) : slcD none (some k) (.tuple xs) = .ok (.tuple (xs.take k.toNat)) := by
  show Except.ok (PyData.tuple (cutL xs none (some k))) = _
  unfold cutL
  have e1 : cutIx xs.length xs.length (some k) = min k.toNat xs.length := by
    show (if k < 0 then (k + (xs.length : Int)).toNat else min k.toNat xs.length) = _
    rw [if_neg (by omega)]
  have e0 : cutIx xs.length 0 none = 0 := rfl
  rw [e1, e0]
  show Except.ok (PyData.tuple (List.take (min k.toNat xs.length - 0) (List.drop 0 xs))) = _
  rw [Nat.sub_zero, List.drop_zero]
  congr 2
  rcases Nat.le_total k.toNat xs.length with h | h
  · rw [Nat.min_eq_left h]
  · rw [Nat.min_eq_right h, List.take_of_length_le (Nat.le_refl _), List.take_of_length_le h]
end FtLaw
/-! MTab1: has, mask_of, part_table, joined_table. -/
namespace FtLaw
open PySem Ft
theorem rngD_nat {k : Nat} (h : k ≤ LIM) : rngDD (.int 0) (.int (k : Int)) (.int 1) = .ok (dN (List.range k)) := by
  show rngD 0 (k : Int) 1 = _
  unfold rngD
  have h' : k ≤ 1000000 := h
  rw [if_pos ⟨by decide, by decide, by omega, by omega⟩, if_pos rfl]
  have : ((k : Int) - 0).toNat = k := by omega
  rw [this, rng0]
theorem q_rng1 {F : Fns} {ρ : Ft.Env} {a : E} {k : Nat} (ha : evE F a ρ = .ok (.int (k : Int), ρ)) (h : k ≤ LIM) : evI F (.rng1 a) ρ = .ok (dN (List.range k), ρ) := by
  rw [evI_rng1, ha, bindR_ok]
  dsimp only
  rw [rngD_nat h, bindC_ok]
theorem q_rng3 {F : Fns} {ρ : Ft.Env} {a b c : E} {x y z : D} {xs : List D} (ha : evE F a ρ = .ok (x, ρ)) (hb : evE F b ρ = .ok (y, ρ)) (hc : evE F c ρ = .ok (z, ρ)) (h : rngDD x y z = .ok xs) : evI F (.rng3 a b c) ρ = .ok (xs, ρ) := by
  rw [evI_rng3, ha, bindR_ok]
  dsimp only
  rw [hb, bindR_ok]
  dsimp only
  rw [hc, bindR_ok]
  dsimp only
  rw [h, bindC_ok]
def natO : D → Nat
  | .int i => i.toNat
  | _ => 0
theorem dN_fm (p : D → Bool) (g : D → D) (g' : Nat → Nat) (h : ∀ m : Nat, g (.int (m : Int)) = .int (g' m : Int)) : ∀ l : List Nat, ((dN l).filter p).map g = dN ((l.filter fun m : Nat => p (.int (m : Int))).map g')
  | [] => rfl
  | m :: l => by
    have ih := dN_fm p g g' h l
    show List.map g (List.filter p (PyData.int (m : Int) :: dN l)) = _
    rw [List.filter_cons, List.filter_cons]
    split
    · rw [List.map_cons, h, ih]
      rfl
    · exact ih
theorem pow_lim {n : Nat} (h : n ≤ 8) : 2 ^ n ≤ 256 := by
  have : 2 ^ n ≤ 2 ^ 8 := Nat.pow_le_pow_right (by decide) h
  omega
def partT (n i : Nat) : Nat := psum (fun m => m.testBit i) (2 ^ n)
theorem partT_bit (n i m : Nat) : (partT n i).testBit m = (decide (m < 2 ^ n) && m.testBit i) := psum_bit _ _ _
/-! ### mask_of -/
theorem enum_range : ∀ (ps : List Str) (k : Nat), enumL k (dS ps) = (List.range ps.length).map fun i => PyData.tuple [.int ((k + i : Nat) : Int), .str (ps.getD i ⟨#[]⟩)]
  | [], _ => rfl
  | p :: ps, k => by
    have ih := enum_range ps (k + 1)
    show PyData.tuple [.int (k : Nat), .str p] :: enumL (k + 1) (dS ps) = _
    rw [ih, List.length_cons, List.range_succ_eq_map, List.map_cons, List.map_map]
    congr 1
    refine List.map_congr_left fun i _ => ?_
    show PyData.tuple [.int ((k + 1 + i : Nat) : Int), .str (ps.getD i ⟨#[]⟩)] = PyData.tuple [.int ((k + (i + 1) : Nat) : Int), .str ((p :: ps).getD (i + 1) ⟨#[]⟩)]
    rw [show k + 1 + i = k + (i + 1) by omega]
    rfl
theorem any_mem (fs : List Str) (s : Str) : ((dS fs).any fun z => PyData.eqv z (.str s)) = decide (s ∈ fs) := by
  induction fs with
  | nil => rfl
  | cons a r ih =>
    show (PyData.eqv (.str a) (.str s) || (dS r).any fun z => PyData.eqv z (.str s)) = _
    rw [ih]
    have : PyData.eqv (.str a) (.str s) = decide (s = a) := by
      show (a == s) = _
      by_cases h : s = a
      · subst h
        simp
      · have h' : ¬ a = s := fun e => h e.symm
        simp [h, h']
    rw [this]
    simp [List.mem_cons]
theorem in_dec (fs : List Str) (s : Str) : cmpD .isin (.str s) (.tuple (dS fs)) = .ok (decide (s ∈ fs)) := by rw [in_tup, any_mem]
/-! ### joined_table -/
def updTo (t : Nat) : Nat → List Nat → List Nat
  | 0, L => L
  | m + 1, L => updTo t m (L.set (m + 1) (L.getD (m + 1) 0 ||| (L.getD m 0 &&& t)))
theorem updTo_len (t : Nat) : ∀ (m : Nat) (L : List Nat), (updTo t m L).length = L.length
  | 0, _ => rfl
  | m + 1, L => by
    unfold updTo
    rw [updTo_len t m, List.length_set]
theorem updTo_get (t : Nat) : ∀ (m : Nat) (L : List Nat) (k : Nat), m < L.length → (updTo t m L).getD k 0 = if 1 ≤ k ∧ k ≤ m then L.getD k 0 ||| (L.getD (k - 1) 0 &&& t) else L.getD k 0
  | 0, L, k, _ => by
    rw [if_neg (by omega)]
    rfl
  | m + 1, L, k, h => by
    unfold updTo
    rw [updTo_get t m _ k (by rw [List.length_set]; omega)]
    simp only [List.getD_eq_getElem?_getD]
    by_cases h1 : 1 ≤ k ∧ k ≤ m
    · rw [if_pos h1, if_pos (by omega), List.getElem?_set_ne (by omega), List.getElem?_set_ne (by omega)]
    · rw [if_neg h1]
      by_cases h2 : k = m + 1
      · subst h2
        rw [if_pos (by omega), List.getElem?_set_self h]
        rfl
      · rw [if_neg (by omega), List.getElem?_set_ne (by omega)]
def jt (N least : Nat) (ts : List Nat) : Nat := (ts.foldl (fun L t => updTo t least L) ((2 ^ N - 1) :: List.replicate least 0)).getD least 0
def cntB (m : Nat) (ts : List Nat) : Nat := (ts.filter fun t => t.testBit m).length
theorem cntB_snoc (m : Nat) (ts : List Nat) (t : Nat) : cntB m (ts ++ [t]) = cntB m ts + (t.testBit m).toNat := by
  unfold cntB
  rw [List.filter_append, List.length_append]
  cases h : t.testBit m <;> simp [h]
theorem fold_bit {N least m : Nat} : ∀ (ts pre : List Nat) (L : List Nat), L.length = least + 1 → (∀ k, k ≤ least → (L.getD k 0).testBit m = (decide (m < N) && decide (k ≤ cntB m pre))) →
    ∀ k, k ≤ least → ((ts.foldl (fun L t => updTo t least L) L).getD k 0).testBit m = (decide (m < N) && decide (k ≤ cntB m (pre ++ ts)))
  | [], pre, L, _, h, k, hk => by
    rw [List.append_nil]
    exact h k hk
  | t :: ts, pre, L, hl, h, k, hk => by
    have ih := fold_bit (N := N) (least := least) (m := m) ts (pre ++ [t]) (updTo t least L) (by rw [updTo_len, hl]) (fun k hk => by
      rw [updTo_get t least L k (by omega), cntB_snoc]
      split
      · rename_i h1
        rw [Nat.testBit_or, Nat.testBit_and, h k hk, h (k - 1) (by omega)]
        cases hb : t.testBit m
        · simp
        · by_cases hm : m < N
          · simp only [hm, decide_true, Bool.true_and, Bool.and_true, Bool.toNat_true]
            rw [← Bool.decide_or]
            refine decide_eq_decide.mpr ?_
            omega
          · simp [hm]
      · have : k = 0 := by omega
        subst this
        rw [h 0 (by omega)]
        simp) k hk
    rw [List.append_assoc] at ih
    exact ih
theorem jt_bit (N least m : Nat) (ts : List Nat) : (jt N least ts).testBit m = (decide (m < N) && decide (least ≤ cntB m ts)) := by
  unfold jt
  have := fold_bit (N := N) (least := least) (m := m) ts [] ((2 ^ N - 1) :: List.replicate least 0) (by simp) (fun k hk => by
    cases k with
    | zero =>
      show (2 ^ N - 1).testBit m = _
      rw [Nat.testBit_two_pow_sub_one]
      simp
    | succ k =>
      have : ((2 ^ N - 1) :: List.replicate least 0).getD (k + 1) 0 = 0 := by
        show (List.replicate least 0).getD k 0 = 0
        rw [List.getD_eq_getElem?_getD, List.getElem?_replicate]
        split <;> rfl
      rw [this]
      simp [cntB]) least (Nat.le_refl _)
  rw [List.nil_append] at this
  exact this
theorem dN_get (L : List Nat) (k : Nat) (h : k < L.length) : (dN L)[k]? = some (.int (L.getD k 0 : Int)) := by
  show (List.map _ L)[k]? = _
  rw [List.getElem?_map, List.getElem?_eq_getElem h, List.getD_eq_getElem?_getD, List.getElem?_eq_getElem h]
  rfl
theorem dN_set (L : List Nat) (k v : Nat) : (dN L).set k (.int (v : Int)) = dN (L.set k v) := by
  show (List.map _ L).set k _ = List.map _ (L.set k v)
  rw [List.map_set]
theorem dN_len (L : List Nat) : (dN L).length = L.length := List.length_map _
def augB : S := (.augx 3 .bor (.loc 5) (.bin .band (.ixv 3 (.bin .sub (.loc 5) (.int 1))) (.loc 4)))
theorem inner {F : Fns} {c0 c1 c2 : Cell} {t : Nat} : ∀ (m : Nat) (L : List Nat) (c5 : Cell), m < L.length → L.length ≤ 1000 → ∃ c5', forL (.one 5) (evS F FU (.seq augB .skip)) (rngL (m : Int) (-1) m) [c0, c1, c2, .mu (dN L), .im (.int (t : Int)), c5] = .ok (.nx, [c0, c1, c2, .mu (dN (updTo t m L)), .im (.int (t : Int)), c5'])
  | 0, L, c5, _, _ => ⟨c5, rfl⟩
  | m + 1, L, c5, h, hl => by
    obtain ⟨c5', ih⟩ := inner (F := F) (c0 := c0) (c1 := c1) (c2 := c2) (t := t) m (L.set (m + 1) (L.getD (m + 1) 0 ||| (L.getD m 0 &&& t))) (.im (.int ((m + 1 : Nat) : Int))) (by rw [List.length_set]; omega) (by rw [List.length_set]; omega)
    refine ⟨c5', ?_⟩
    show forL _ _ (PyData.int ((m + 1 : Nat) : Int) :: rngL (((m + 1 : Nat) : Int) + -1) (-1) m) _ = _
    have e0 : ((m + 1 : Nat) : Int) + -1 = (m : Int) := by omega
    rw [e0]
    unfold forL
    have ht : tgt (.one 5) (.int ((m + 1 : Nat) : Int)) [c0, c1, c2, .mu (dN L), .im (.int (t : Int)), c5] = .ok [c0, c1, c2, .mu (dN L), .im (.int (t : Int)), .im (.int ((m + 1 : Nat) : Int))] := rfl
    rw [ht]
    simp only [bindC_ok]
    have hn : natIx (dN L).length ((m + 1 : Nat) : Int) = .ok (m + 1) := by
      unfold natIx
      rw [dN_len, if_pos ⟨by omega, by omega, by omega⟩]
      congr 1
    have ha : atD (dN L) ((m + 1 : Nat) : Int) = .ok (.int (L.getD (m + 1) 0 : Int)) := by
      unfold atD
      rw [if_pos (by omega), Int.toNat_natCast, dN_get L (m + 1) h]
    have hb : atD (dN L) (((m + 1 : Nat) : Int) - 1) = .ok (.int (L.getD m 0 : Int)) := by
      have e1 : ((m + 1 : Nat) : Int) - 1 = (m : Int) := by omega
      unfold atD
      rw [e1, if_pos (by omega), Int.toNat_natCast, dN_get L m (by omega)]
    have hband : binD .band (.int (L.getD m 0 : Int)) (.int (t : Int)) = .ok (.int ((L.getD m 0 &&& t : Nat) : Int)) := by
      show Except.ok (PyData.int (Builtin.bitAnd _ _)) = _
      rw [band_nat]
    have hbor : augD .bor (.int (L.getD (m + 1) 0 : Int)) (.int ((L.getD m 0 &&& t : Nat) : Int)) = .ok (.int ((L.getD (m + 1) 0 ||| (L.getD m 0 &&& t) : Nat) : Int)) := by
      show Except.ok (PyData.int (Builtin.bitOr _ _)) = _
      rw [bor_nat]
    have e : evS F FU (.seq augB .skip) [c0, c1, c2, .mu (dN L), .im (.int (t : Int)), .im (.int ((m + 1 : Nat) : Int))] = .ok (.nx, [c0, c1, c2, .mu (dN (L.set (m + 1) (L.getD (m + 1) 0 ||| (L.getD m 0 &&& t)))), .im (.int (t : Int)), .im (.int ((m + 1 : Nat) : Int))]) := by
      unfold augB
      simp only [evS_seq, evS_augx, evS_skip, evE_loc, evE_bin, evE_ixv, evE_int, lstAt, rd, peek, optI, ixD, List.getElem?_cons_succ, List.getElem?_cons_zero, bindC_ok, bindR_ok, sub_ok, hn, ha, hb, hband, hbor, List.set_cons_succ, List.set_cons_zero, dN_set]
    rw [e]
    simp only [bindR_ok]
    exact ih
def jtBody : S := (.seq (.for_ (.one 5) (.rng3 (.loc 1) (.int 0) (.neg (.int 1))) (.seq augB .skip)) .skip)
theorem rngD_down {k : Nat} (h : k ≤ 1000) : rngDD (.int (k : Int)) (.int 0) (.int (-1)) = .ok (rngL (k : Int) (-1) k) := by
  show rngD (k : Int) 0 (-1) = _
  unfold rngD
  rw [if_pos ⟨by omega, by omega, by decide, by decide⟩, if_neg (by decide), if_pos rfl]
  have : ((k : Int) - 0).toNat = k := by omega
  rw [this]
theorem outer {F : Fns} {c0 c2 : Cell} {least : Nat} : ∀ (ts L : List Nat) (c4 c5 : Cell), L.length = least + 1 → least ≤ 900 → ∃ c4' c5', forL (.one 4) (evS F FU jtBody) (dN ts) [c0, .im (.int (least : Int)), c2, .mu (dN L), c4, c5] = .ok (.nx, [c0, .im (.int (least : Int)), c2, .mu (dN (ts.foldl (fun L t => updTo t least L) L)), c4', c5'])
  | [], L, c4, c5, _, _ => ⟨c4, c5, rfl⟩
  | t :: ts, L, c4, c5, h, hl => by
    obtain ⟨c5a, e1⟩ := inner (F := F) (c0 := c0) (c1 := .im (.int (least : Int))) (c2 := c2) (t := t) least L c5 (by omega) (by omega)
    obtain ⟨c4', c5', ih⟩ := outer (F := F) (c0 := c0) (c2 := c2) (least := least) ts (updTo t least L) (.im (.int (t : Int))) c5a (by rw [updTo_len, h]) hl
    refine ⟨c4', c5', ?_⟩
    show forL _ _ (PyData.int (t : Int) :: dN ts) _ = _
    unfold forL
    have ht : tgt (.one 4) (.int (t : Int)) [c0, .im (.int (least : Int)), c2, .mu (dN L), c4, c5] = .ok [c0, .im (.int (least : Int)), c2, .mu (dN L), .im (.int (t : Int)), c5] := rfl
    rw [ht]
    simp only [bindC_ok]
    have hi : evI F (.rng3 (.loc 1) (.int 0) (.neg (.int 1))) [c0, .im (.int (least : Int)), c2, .mu (dN L), .im (.int (t : Int)), c5] = .ok (rngL (least : Int) (-1) least, [c0, .im (.int (least : Int)), c2, .mu (dN L), .im (.int (t : Int)), c5]) :=
      q_rng3 (q_loc rfl) rfl rfl (rngD_down (by omega))
    have e : evS F FU jtBody [c0, .im (.int (least : Int)), c2, .mu (dN L), .im (.int (t : Int)), c5] = .ok (.nx, [c0, .im (.int (least : Int)), c2, .mu (dN (updTo t least L)), .im (.int (t : Int)), c5a]) := by
      unfold jtBody
      rw [s_seq (s_for hi e1)]
      rfl
    rw [e]
    simp only [bindR_ok]
    exact ih
end FtLaw
/-! MTab2: which gates fail, plainly; tables_of tells it bit by bit; _law_stops. -/
namespace FtLaw
open PySem Ft
def inDown (fl : Str → Bool) (dn : List Bool) : D → Bool
  | .str s => fl s
  | .int i => dn.getD i.toNat false
  | _ => false
def gateDown (fl : Str → Bool) (dn : List Bool) (g : Int × List D) : Bool := decide (g.1 ≤ ((g.2.filter (inDown fl dn)).length : Int))
def downs (fl : Str → Bool) : List (Int × List D) → List Bool → List Bool
  | [], dn => dn
  | g :: gs, dn => downs fl gs (dn ++ [gateDown fl dn g])
theorem downs_len (fl : Str → Bool) : ∀ (gs : List (Int × List D)) (dn : List Bool), (downs fl gs dn).length = dn.length + gs.length
  | [], dn => rfl
  | g :: gs, dn => by
    unfold downs
    rw [downs_len fl gs]
    simp
    omega
theorem downs_app (fl : Str → Bool) : ∀ (gs hs : List (Int × List D)) (dn : List Bool), downs fl (gs ++ hs) dn = downs fl hs (downs fl gs dn)
  | [], _, _ => rfl
  | g :: gs, hs, dn => downs_app fl gs hs _
/-- what stood stays -/
theorem downs_pre (fl : Str → Bool) : ∀ (gs : List (Int × List D)) (dn : List Bool) (i : Nat), i < dn.length → (downs fl gs dn)[i]? = dn[i]?
  | [], _, _, _ => rfl
  | g :: gs, dn, i, h => by
    show (downs fl gs (dn ++ [gateDown fl dn g]))[i]? = _
    rw [downs_pre fl gs _ i (by simp; omega), List.getElem?_append_left h]
def GatesFrom (ps : List Str) (k : Nat) (gs : List (Int × List D)) : Prop := ∀ i g, gs[i]? = some g → GateOk ps (k + i) g
theorem GatesFrom.head {ps : List Str} {k : Nat} {g : Int × List D} {gs : List (Int × List D)} (h : GatesFrom ps k (g :: gs)) : GateOk ps k g := h 0 g rfl
theorem GatesFrom.tail {ps : List Str} {k : Nat} {g : Int × List D} {gs : List (Int × List D)} (h : GatesFrom ps k (g :: gs)) : GatesFrom ps (k + 1) gs := fun i g' e => by
  have := h (i + 1) g' e
  rw [show k + 1 + i = k + (i + 1) by omega]
  exact this
theorem GatesOk.from_ {ps : List Str} {gs : List (Int × List D)} (h : GatesOk ps gs) : GatesFrom ps 0 gs := fun i g e => by rw [Nat.zero_add]; exact h i g e
theorem inDown_congr {ps : List Str} {fl fl' : Str → Bool} (h : ∀ s ∈ ps, fl s = fl' s) {n : Nat} {dn : List Bool} {d : D} (hd : InOk ps n d) : inDown fl dn d = inDown fl' dn d := by
  rcases hd with ⟨s, hs, rfl⟩ | ⟨i, rfl, _⟩
  · exact h s hs
  · rfl
theorem downs_congr {ps : List Str} {fl fl' : Str → Bool} (h : ∀ s ∈ ps, fl s = fl' s) : ∀ (gs : List (Int × List D)) (k : Nat) (dn : List Bool), GatesFrom ps k gs → downs fl gs dn = downs fl' gs dn
  | [], _, _, _ => rfl
  | g :: gs, k, dn, hg => by
    unfold downs
    have : gateDown fl dn g = gateDown fl' dn g := by
      unfold gateDown
      rw [List.filter_congr fun d hd => inDown_congr h (hg.head.ins d hd)]
    rw [this]
    exact downs_congr h gs (k + 1) _ hg.tail
/-! ### tables -/
def inTab (n : Nat) (ps : List Str) (acc : List Nat) : D → Nat
  | .str s => partT n (ps.idxOf s)
  | .int i => acc.getD i.toNat 0
  | _ => 0
def tabs (n : Nat) (ps : List Str) : List (Int × List D) → List Nat → List Nat
  | [], acc => acc
  | g :: gs, acc => tabs n ps gs (acc ++ [jt (2 ^ n) g.1.toNat (g.2.map (inTab n ps acc))])
theorem tabs_len (n : Nat) (ps : List Str) : ∀ (gs : List (Int × List D)) (acc : List Nat), (tabs n ps gs acc).length = acc.length + gs.length
  | [], acc => rfl
  | g :: gs, acc => by
    unfold tabs
    rw [tabs_len n ps gs]
    simp
    omega
theorem inTab_bit {n : Nat} {ps : List Str} {acc : List Nat} {m : Nat} (hm : m < 2 ^ n) (d : D) : (inTab n ps acc d).testBit m = inDown (fun s => m.testBit (ps.idxOf s)) (acc.map fun t => t.testBit m) d := by
  cases d with
  | str s =>
    show (partT n (ps.idxOf s)).testBit m = _
    rw [partT_bit]
    simp [hm, inDown]
  | int i =>
    show (acc.getD i.toNat 0).testBit m = (acc.map fun t => t.testBit m).getD i.toNat false
    rw [List.getD_eq_getElem?_getD, List.getD_eq_getElem?_getD, List.getElem?_map]
    cases acc[i.toNat]? with
    | none => simp
    | some t => rfl
  | _ => simp [inTab, inDown]
theorem tabs_bit {n : Nat} {ps : List Str} {m : Nat} (hm : m < 2 ^ n) : ∀ (gs : List (Int × List D)) (acc : List Nat), (tabs n ps gs acc).map (fun t => t.testBit m) = downs (fun s => m.testBit (ps.idxOf s)) gs (acc.map fun t => t.testBit m)
  | [], acc => rfl
  | g :: gs, acc => by
    unfold tabs downs
    rw [tabs_bit hm gs, List.map_append]
    congr 2
    show [(jt (2 ^ n) g.1.toNat (g.2.map (inTab n ps acc))).testBit m] = _
    rw [jt_bit]
    have : cntB m (g.2.map (inTab n ps acc)) = (g.2.filter (inDown (fun s => m.testBit (ps.idxOf s)) (acc.map fun t => t.testBit m))).length := by
      unfold cntB
      rw [List.filter_map, List.length_map]
      congr 1
      exact List.filter_congr fun d _ => inTab_bit hm d
    rw [this]
    unfold gateDown
    simp only [hm, decide_true, Bool.true_and]
    congr 1
    refine decide_eq_decide.mpr ?_
    omega
theorem jt_lt (N least : Nat) (ts : List Nat) : jt N least ts < 2 ^ N := by
  refine Nat.lt_pow_two_of_testBit _ fun i hi => ?_
  rw [jt_bit]
  have : ¬ i < N := by omega
  simp [this]
theorem tabs_lt (n : Nat) (ps : List Str) : ∀ (gs : List (Int × List D)) (acc : List Nat), (∀ t ∈ acc, t < 2 ^ 2 ^ n) → ∀ t ∈ tabs n ps gs acc, t < 2 ^ 2 ^ n
  | [], acc, h, t, ht => h t ht
  | g :: gs, acc, h, t, ht => by
    refine tabs_lt n ps gs _ (fun u hu => ?_) t ht
    rcases List.mem_append.mp hu with hu | hu
    · exact h u hu
    · rw [List.mem_singleton.mp hu]
      exact jt_lt _ _ _
/-! ### the dict of the parts' tables -/
def ownK (n : Nat) : Nat → List Str → List (Sum Int Str × D)
  | _, [] => []
  | k, s :: r => (.inr s, .int (partT n k : Int)) :: ownK n (k + 1) r
theorem putA_new {kvs : List (Sum Int Str × D)} {k : Sum Int Str} {d : D} (h : ∀ p ∈ kvs, p.1 ≠ k) : putA kvs k d = kvs ++ [(k, d)] := by
  unfold putA
  have : (kvs.any fun kv => decide (kv.1 = k)) = false := by
    rw [List.any_eq_false]
    intro p hp
    simp [h p hp]
  rw [this]
  rfl
theorem own_loop {F : Fns} {n : Nat} (h1 : ∀ i : Nat, F.f "part_table" [.int (n : Int), .int (i : Int)] = .ok (.int (partT n i : Int))) {ps : List Str} (hn : ps.length = n) {c0 c1 c2 c4 c5 c6 c7 c10 : Cell} : ∀ (l : List Str) (k : Nat) (acc : List (Sum Int Str × D)), l.Nodup → (∀ s ∈ l, ∀ p ∈ acc, p.1 ≠ .inr s) →
    dcL (.two 8 9) (evT F .tt) (evE F (.loc 9)) (evE F (.call "part_table" (.cons (.prim .len (.loc 3)) (.cons (.loc 8) .nil)))) (enumL k (dS l)) [c0, c1, c2, .im (.tuple (dS ps)), c4, c5, c6, c7, .no, .no, c10] acc = .ok (acc ++ ownK n k l, [c0, c1, c2, .im (.tuple (dS ps)), c4, c5, c6, c7, .no, .no, c10])
  | [], k, acc, _, _ => by
    show Except.ok _ = _
    unfold ownK
    rw [List.append_nil]
  | s :: l, k, acc, hd, ha => by
    have hd' := List.nodup_cons.mp hd
    have ih := own_loop (F := F) h1 hn (c0 := c0) (c1 := c1) (c2 := c2) (c4 := c4) (c5 := c5) (c6 := c6) (c7 := c7) (c10 := c10) l (k + 1) (acc ++ [(.inr s, .int (partT n k : Int))]) hd'.2 (fun s' hs' p hp => by
      rcases List.mem_append.mp hp with hp | hp
      · exact ha s' (List.mem_cons_of_mem _ hs') p hp
      · rw [List.mem_singleton.mp hp]
        intro e
        cases e
        exact hd'.1 hs')
    show dcL _ _ _ _ (PyData.tuple [.int (k : Nat), .str s] :: enumL (k + 1) (dS l)) _ _ = _
    unfold dcL
    have ht : tgt (.two 8 9) (.tuple [.int (k : Nat), .str s]) [c0, c1, c2, .im (.tuple (dS ps)), c4, c5, c6, c7, .no, .no, c10] = .ok [c0, c1, c2, .im (.tuple (dS ps)), c4, c5, c6, c7, .im (.int (k : Nat)), .im (.str s), c10] := rfl
    rw [ht, bindC_ok, evT_tt, bindR_ok]
    dsimp only
    rw [if_pos rfl, q_loc rfl, bindR_ok]
    dsimp only
    show bindC (keyD (.str s)) _ = _
    rw [show keyD (.str s) = .ok (.inr s) from rfl, bindC_ok]
    have hlen : primD .len (.tuple (dS ps)) = .ok (.int (n : Nat)) := by rw [primD_lenT, List.length_map, hn]
    rw [q_call (q_cons (q_prim (qp_loc rfl) hlen) (q_cons (q_loc rfl) q_nil)) (h1 k), bindR_ok]
    dsimp only
    rw [putA_new fun p hp => ha s List.mem_cons_self p hp]
    have hc : clr (.two 8 9) [c0, c1, c2, .im (.tuple (dS ps)), c4, c5, c6, c7, .im (.int (k : Nat)), .im (.str s), c10] = [c0, c1, c2, .im (.tuple (dS ps)), c4, c5, c6, c7, .no, .no, c10] := rfl
    rw [hc, ih, List.append_assoc]
    rfl
theorem own_val (n : Nat) (s : Str) : ∀ (l : List Str) (k : Nat), s ∈ l → valA (ownK n k l) (.inr s) = some (.int (partT n (k + l.idxOf s) : Int))
  | a :: l, k, h => by
    show ((ownK n k (a :: l)).find? fun kv => decide (kv.1 = .inr s)).map (·.2) = _
    unfold ownK
    rw [List.find?_cons, List.idxOf_cons]
    by_cases e : a = s
    · subst e
      simp
    · have h' : s ∈ l := by
        rcases List.mem_cons.mp h with h | h
        · exact absurd h.symm e
        · exact h
      have ih := own_val n s l (k + 1) h'
      have e1 : decide ((Sum.inr a : Sum Int Str) = Sum.inr s) = false := by simp [e]
      have e2 : (a == s) = false := by simp [e]
      simp only [e1, e2, Bool.cond_false]
      show valA (ownK n (k + 1) l) (.inr s) = _
      rw [ih, show k + 1 + l.idxOf s = k + (l.idxOf s + 1) by omega]
def tabBody : S := (.seq (.asg 7 (.lc (.one 10) (.sq (.loc 6)) .tt (.ife (.tr (.isi (.loc 10) .str)) (.dget 1 (.loc 10)) (.ixv 2 (.loc 10))))) (.seq (.app 2 (.call "joined_table" (.cons (.prim .len (.loc 3)) (.cons (.loc 5) (.cons (.loc 7) .nil))))) .skip))
theorem map_dN {l : List D} (f : D → Nat) : l.map (fun d => PyData.int (f d : Int)) = dN (l.map f) := by
  show _ = List.map _ (List.map f l)
  rw [List.map_map]
  rfl
theorem tab_loop {F : Fns} {n : Nat} (h2 : ∀ (least : Nat) (ts : List Nat), least ≤ 80 → F.f "joined_table" [.int (n : Int), .int (least : Int), .list (dN ts)] = .ok (.int (jt (2 ^ n) least ts : Int))) {ps : List Str} (hn : ps.length = n) {c0 c4 : Cell} :
    ∀ (gs : List (Int × List D)) (acc : List Nat) (c5 c6 c7 : Cell), GatesFrom ps acc.length gs → acc.length + gs.length ≤ 80 → ∃ c5' c6' c7', forL (.two 5 6) (evS F FU tabBody) (gs.map gateD) [c0, .di (ownK n 0 ps), .mu (dN acc), .im (.tuple (dS ps)), c4, c5, c6, c7, .no, .no, .no]
      = .ok (.nx, [c0, .di (ownK n 0 ps), .mu (dN (tabs n ps gs acc)), .im (.tuple (dS ps)), c4, c5', c6', c7', .no, .no, .no])
  | [], acc, c5, c6, c7, _, _ => ⟨c5, c6, c7, rfl⟩
  | g :: gs, acc, c5, c6, c7, hg, hl => by
    have ok := hg.head
    have hlo := ok.lo
    have hhi := ok.hi
    have h80 := ok.len
    obtain ⟨c5', c6', c7', ih⟩ := tab_loop h2 hn (c0 := c0) (c4 := c4) gs (acc ++ [jt (2 ^ n) g.1.toNat (g.2.map (inTab n ps acc))]) (.im (.int g.1)) (.im (.tuple g.2)) (.im (.list (dN (g.2.map (inTab n ps acc))))) (by
      rw [List.length_append]
      exact hg.tail) (by simp at hl ⊢; omega)
    refine ⟨c5', c6', c7', ?_⟩
    rw [List.map_cons]
    unfold forL
    have ht : tgt (.two 5 6) (gateD g) [c0, .di (ownK n 0 ps), .mu (dN acc), .im (.tuple (dS ps)), c4, c5, c6, c7, .no, .no, .no] = .ok [c0, .di (ownK n 0 ps), .mu (dN acc), .im (.tuple (dS ps)), c4, .im (.int g.1), .im (.tuple g.2), c7, .no, .no, .no] := rfl
    rw [ht, bindC_ok]
    have hm := q_map (F := F) (ρ := [c0, .di (ownK n 0 ps), .mu (dN acc), .im (.tuple (dS ps)), c4, .im (.int g.1), .im (.tuple g.2), c7, .no, .no, .no]) (t := .one 10) (it := .sq (.loc 6)) (e := .ife (.tr (.isi (.loc 10) .str)) (.dget 1 (.loc 10)) (.ixv 2 (.loc 10))) (xs := g.2)
      (fun d => .int (inTab n ps acc d : Int)) rfl (by
        have : LIM = 1000000 := rfl
        omega) (fun d hd => by
        refine ⟨[c0, .di (ownK n 0 ps), .mu (dN acc), .im (.tuple (dS ps)), c4, .im (.int g.1), .im (.tuple g.2), c7, .no, .no, .im d], rfl, ?_, rfl⟩
        rcases ok.ins d hd with ⟨s, hs, rfl⟩ | ⟨i, rfl, hi0, hi1⟩
        · refine q_ife (x := true) (t_trB (q_isi (qp_loc rfl) rfl)) (fun _ => ?_) (fun h => by cases h)
          rw [evE_dget]
          show bindC (Except.ok (ownK n 0 ps)) _ = _
          rw [bindC_ok, q_loc rfl, bindR_ok]
          dsimp only
          rw [show keyD (.str s) = .ok (.inr s) from rfl, bindC_ok]
          show bindC (Except.ok (ownK n 0 ps)) _ = _
          rw [bindC_ok, own_val n s ps 0 hs, Nat.zero_add]
          rfl
        · refine q_ife (x := false) (t_trB (q_isi (qp_loc rfl) rfl)) (fun h => by cases h) (fun _ => ?_)
          rw [evE_ixv]
          show bindC (Except.ok _) _ = _
          rw [bindC_ok, q_loc rfl, bindR_ok]
          dsimp only
          show bindC (Except.ok (PyData.list (dN acc), _)) _ = _
          rw [bindC_ok]
          have : ixD (.list (dN acc)) (.int i) = .ok (.int (inTab n ps acc (.int i) : Int)) := by
            show atD (dN acc) i = _
            unfold atD
            rw [if_pos hi0, dN_get acc i.toNat (by omega)]
            rfl
          dsimp only
          rw [this, bindC_ok]) rfl
    rw [map_dN] at hm
    have hlen : primD .len (.tuple (dS ps)) = .ok (.int (n : Nat)) := by rw [primD_lenT, List.length_map, hn]
    have e : evS F FU tabBody [c0, .di (ownK n 0 ps), .mu (dN acc), .im (.tuple (dS ps)), c4, .im (.int g.1), .im (.tuple g.2), c7, .no, .no, .no] = .ok (.nx, [c0, .di (ownK n 0 ps), .mu (dN (acc ++ [jt (2 ^ n) g.1.toNat (g.2.map (inTab n ps acc))])), .im (.tuple (dS ps)), c4, .im (.int g.1), .im (.tuple g.2), .im (.list (dN (g.2.map (inTab n ps acc)))), .no, .no, .no]) := by
      unfold tabBody
      have e1 : evS F FU (.asg 7 (.lc (.one 10) (.sq (.loc 6)) .tt (.ife (.tr (.isi (.loc 10) .str)) (.dget 1 (.loc 10)) (.ixv 2 (.loc 10))))) [c0, .di (ownK n 0 ps), .mu (dN acc), .im (.tuple (dS ps)), c4, .im (.int g.1), .im (.tuple g.2), c7, .no, .no, .no] = .ok (.nx, [c0, .di (ownK n 0 ps), .mu (dN acc), .im (.tuple (dS ps)), c4, .im (.int g.1), .im (.tuple g.2), .im (.list (dN (g.2.map (inTab n ps acc)))), .no, .no, .no]) := by
        rw [evS_asg, hm]
        rfl
      rw [s_seq e1]
      have hj := h2 g.1.toNat (g.2.map (inTab n ps acc)) (by omega)
      rw [Int.toNat_of_nonneg (by omega)] at hj
      have hq := q_call (F := F) (ρ := [c0, .di (ownK n 0 ps), .mu (dN acc), .im (.tuple (dS ps)), c4, .im (.int g.1), .im (.tuple g.2), .im (.list (dN (g.2.map (inTab n ps acc)))), .no, .no, .no]) (q_cons (a := .prim .len (.loc 3)) (q_prim (qp_loc (m := 3) rfl) hlen) (q_cons (a := .loc 5) (q_loc rfl) (q_cons (a := .loc 7) (q_loc rfl) q_nil))) hj
      have hlim : (dN acc).length < LIM := by
        rw [dN_len]
        have : LIM = 1000000 := rfl
        simp at hl
        omega
      have e2 : evS F FU (.app 2 (.call "joined_table" (.cons (.prim .len (.loc 3)) (.cons (.loc 5) (.cons (.loc 7) .nil))))) [c0, .di (ownK n 0 ps), .mu (dN acc), .im (.tuple (dS ps)), c4, .im (.int g.1), .im (.tuple g.2), .im (.list (dN (g.2.map (inTab n ps acc)))), .no, .no, .no] = .ok (.nx, [c0, .di (ownK n 0 ps), .mu (dN (acc ++ [jt (2 ^ n) g.1.toNat (g.2.map (inTab n ps acc))])), .im (.tuple (dS ps)), c4, .im (.int g.1), .im (.tuple g.2), .im (.list (dN (g.2.map (inTab n ps acc)))), .no, .no, .no]) := by
        rw [evS_app]
        show bindC (Except.ok _) _ = _
        rw [bindC_ok, hq, bindR_ok]
        show bindC (Except.ok (dN acc, Cell.mu)) _ = _
        rw [bindC_ok]
        dsimp only
        rw [if_pos hlim]
        show Except.ok (Res.nx, [c0, _, Cell.mu (dN acc ++ [_]), _, c4, _, _, _, Cell.no, Cell.no, Cell.no]) = _
        have : dN acc ++ [PyData.int (jt (2 ^ n) g.1.toNat (g.2.map (inTab n ps acc)) : Int)] = dN (acc ++ [jt (2 ^ n) g.1.toNat (g.2.map (inTab n ps acc))]) := by
          show _ = List.map _ (acc ++ _)
          rw [List.map_append]
          rfl
        rw [this]
      rw [s_seq e2]
      rfl
    rw [e, bindR_ok]
    exact ih
theorem nodup_of_rise {ps : List Str} (h : ps.Pairwise fun a b => strLt a b = true) : ps.Nodup := by
  refine h.imp fun {a b} hab e => ?_
  subst e
  have := strLt_asymm hab
  rw [hab] at this
  cases this
def tabL (ps : List Str) (gs : List (Int × List D)) : Nat := (tabs ps.length ps gs []).getLastD 0
theorem at_last {α : Type} {l : List α} {d : α} (h : l ≠ []) : atD l (-1) = .ok (l.getLastD d) := by
  unfold atD
  have hl : 0 < l.length := List.length_pos_iff.mpr h
  rw [if_neg (by decide), if_pos (by omega)]
  have e : ((-1 : Int) + (l.length : Int)).toNat = l.length - 1 := by omega
  rw [e]
  have : l[l.length - 1]? = some (l.getLastD d) := by
    rw [← List.getLast?_eq_getElem?, List.getLastD_eq_getLast?]
    cases hq : l.getLast? with
    | none => exact absurd (List.getLast?_eq_none_iff.mp hq) h
    | some x => rfl
  rw [this]
theorem getLastD_map {α β : Type} (f : α → β) (l : List α) (d : α) : (l.map f).getLastD (f d) = f (l.getLastD d) := by
  rw [List.getLastD_eq_getLast?, List.getLastD_eq_getLast?, List.getLast?_map]
  cases l.getLast? <;> rfl
/-- the bit of a mask: whether the system stops -/
def stopB (fl : Str → Bool) (gs : List (Int × List D)) : Bool := (downs fl gs []).getLastD false
theorem tabL_bit {ps : List Str} {gs : List (Int × List D)} {m : Nat} (hm : m < 2 ^ ps.length) : (tabL ps gs).testBit m = stopB (fun s => m.testBit (ps.idxOf s)) gs := by
  unfold tabL stopB
  have h := tabs_bit (ps := ps) hm gs []
  rw [List.map_nil] at h
  rw [← h]
  have := getLastD_map (fun t : Nat => t.testBit m) (tabs ps.length ps gs []) 0
  rw [Nat.zero_testBit] at this
  exact this.symm
end FtLaw
/-! MSetsP: sets, plainly -/
namespace FtLaw
open PySem Ft
abbrev flOf (fs : List Str) : Str → Bool := fun s => decide (s ∈ fs)
def subsA : List Str → List (List Str) → List (List Str)
  | [], acc => acc
  | p :: l, acc => subsA l (acc ++ acc.map fun a => a ++ [p])
def subs (ps : List Str) : List (List Str) := subsA ps [[]]
theorem subsA_len : ∀ (l : List Str) (acc : List (List Str)), (subsA l acc).length = acc.length * 2 ^ l.length
  | [], acc => by simp [subsA]
  | p :: l, acc => by
    unfold subsA
    rw [subsA_len l, List.length_append, List.length_map, List.length_cons, Nat.pow_succ, ← Nat.two_mul, Nat.mul_comm 2, Nat.mul_assoc, Nat.mul_comm 2]
theorem mem_subsA : ∀ (l : List Str) (acc : List (List Str)) (fs : List Str), fs ∈ subsA l acc ↔ ∃ a ∈ acc, ∃ b, b.Sublist l ∧ fs = a ++ b
  | [], acc, fs => by
    constructor
    · intro h
      exact ⟨fs, h, [], List.Sublist.refl _, by simp⟩
    · rintro ⟨a, ha, b, hb, rfl⟩
      rw [List.sublist_nil.mp hb, List.append_nil]
      exact ha
  | p :: l, acc, fs => by
    unfold subsA
    rw [mem_subsA l]
    constructor
    · rintro ⟨a, ha, b, hb, rfl⟩
      rcases List.mem_append.mp ha with ha | ha
      · exact ⟨a, ha, b, hb.cons p, rfl⟩
      · obtain ⟨a', ha', rfl⟩ := List.mem_map.mp ha
        exact ⟨a', ha', p :: b, hb.cons_cons p, by simp⟩
    · rintro ⟨a, ha, b, hb, rfl⟩
      cases hb with
      | cons _ hb => exact ⟨a, List.mem_append_left _ ha, b, hb, rfl⟩
      | cons_cons _ hb => exact ⟨a ++ [p], List.mem_append_right _ (List.mem_map.mpr ⟨a, ha, rfl⟩), _, hb, by simp⟩
theorem mem_subs {ps fs : List Str} : fs ∈ subs ps ↔ fs.Sublist ps := by
  unfold subs
  rw [mem_subsA]
  constructor
  · rintro ⟨a, ha, b, hb, rfl⟩
    rw [List.mem_singleton.mp ha, List.nil_append]
    exact hb
  · intro h
    exact ⟨[], List.mem_singleton.mpr rfl, fs, h, rfl⟩
theorem subs_len (ps : List Str) : (subs ps).length = 2 ^ ps.length := by
  unfold subs
  rw [subsA_len]
  simp
abbrev rowD (fs : List Str) : D := .tuple (dS fs)
def pairD (fs : List Str) : D := .tuple [.int (fs.length : Nat), rowD fs]
def unPair : D → List Str
  | .tuple [_, .tuple xs] => xs.map unS
  | _ => []
theorem unPair_pair (fs : List Str) : unPair (pairD fs) = fs := unS_map fs
theorem perm_pre {α : Type} {f : α → D} {g : D → α} (hgf : ∀ a, g (f a) = a) {ys : List D} {l : List α} (h : ys.Perm (l.map f)) : ys = (ys.map g).map f ∧ (ys.map g).Perm l := by
  constructor
  · rw [List.map_map]
    have key : ∀ (zs : List D), (∀ y ∈ zs, y ∈ l.map f) → zs = zs.map (f ∘ g) := by
      intro zs
      induction zs with
      | nil => intro _; rfl
      | cons z zs ih =>
        intro hz
        obtain ⟨a, _, ea⟩ := List.mem_map.mp (hz z List.mem_cons_self)
        rw [List.map_cons, ← ih fun y hy => hz y (List.mem_cons_of_mem _ hy)]
        congr 1
        show z = f (g z)
        rw [← ea, hgf]
    exact key ys fun y hy => h.mem_iff.mp hy
  · have := h.map g
    rw [List.map_map] at this
    have e : l.map (g ∘ f) = l := by
      have : (g ∘ f) = id := funext hgf
      rw [this, List.map_id]
    rw [e] at this
    exact this
def setsL (ps : List Str) : List (List Str) := (((subs ps).map pairD).mergeSort (PySem.W.dataLe false id)).map unPair
theorem sets_pairs (ps : List Str) : ((subs ps).map pairD).mergeSort (PySem.W.dataLe false id) = (setsL ps).map pairD := (perm_pre unPair_pair (List.mergeSort_perm _ _)).1
theorem sets_perm (ps : List Str) : (setsL ps).Perm (subs ps) := (perm_pre unPair_pair (List.mergeSort_perm _ _)).2
theorem mem_sets {ps fs : List Str} : fs ∈ setsL ps ↔ fs.Sublist ps := by rw [(sets_perm ps).mem_iff, mem_subs]
theorem alike_dS : ∀ a b : List Str, PySem.W.alikeAll (dS a) (dS b) = true
  | [], _ => by simp [PySem.W.alikeAll]
  | _ :: _, [] => by simp [PySem.W.alikeAll]
  | x :: xs, y :: ys => by
    show PySem.W.alikeAll (.str x :: dS xs) (.str y :: dS ys) = true
    rw [PySem.W.alikeAll, alike_dS xs ys]
    simp [PySem.W.alike]
theorem depth_dS : ∀ a : List Str, PyData.depthAll (dS a) = 0
  | [] => by simp [PyData.depthAll]
  | x :: xs => by
    show PyData.depthAll (.str x :: dS xs) = 0
    rw [PyData.depthAll, depth_dS xs]
    simp [PyData.depth]
theorem alike_pair (a b : List Str) : PySem.W.alike (pairD a) (pairD b) = true := by
  unfold pairD
  rw [PySem.W.alike, PySem.W.alikeAll, PySem.W.alikeAll]
  have h : PySem.W.alike (rowD a) (rowD b) = true := by rw [PySem.W.alike]; exact alike_dS a b
  rw [h]
  simp [PySem.W.alike, PySem.W.alikeAll]
theorem depth_pair (a : List Str) : (pairD a).depth ≤ 60 := by
  unfold pairD
  simp [PyData.depth, PyData.depthAll, depth_dS]
theorem rows_pairs {l : List (List Str)} (h : l.length ≤ LIM) : rowsOk (l.map pairD) = true := by
  unfold rowsOk
  rw [Bool.and_eq_true, Bool.and_eq_true]
  refine ⟨⟨?_, ?_⟩, decide_eq_true (by rw [List.length_map]; exact h)⟩
  · rw [List.all_eq_true]
    intro d hd
    rw [List.all_eq_true]
    intro d' hd'
    obtain ⟨a, _, rfl⟩ := List.mem_map.mp hd
    obtain ⟨b, _, rfl⟩ := List.mem_map.mp hd'
    exact alike_pair a b
  · rw [List.all_eq_true]
    intro d hd
    obtain ⟨a, _, rfl⟩ := List.mem_map.mp hd
    exact decide_eq_true (depth_pair a)
theorem sorted_pairs {l : List (List Str)} (h : l.length ≤ LIM) (h1 : l ≠ []) : primD .sorted (.list (l.map pairD)) = .ok (.list ((l.map pairD).mergeSort (PySem.W.dataLe false id))) := by
  obtain ⟨a, r, rfl⟩ : ∃ a r, l = a :: r := by cases l with | nil => exact absurd rfl h1 | cons a r => exact ⟨a, r, rfl⟩
  exact primD_sortedR (e := .stuck) rfl (rows_pairs h)
end FtLaw
/-! MTab3: the row's own tables, masks plainly -/
namespace FtLaw
open PySem Ft
def maskN (ps fs : List Str) : Nat := psum (fun i => decide (ps.getD i ⟨#[]⟩ ∈ fs)) ps.length
theorem maskN_bit (ps fs : List Str) (i : Nat) : (maskN ps fs).testBit i = (decide (i < ps.length) && decide (ps.getD i ⟨#[]⟩ ∈ fs)) := psum_bit _ _ _
theorem maskN_lt (ps fs : List Str) : maskN ps fs < 2 ^ ps.length := psum_lt _ _
theorem stop_mask {ps fs : List Str} {gs : List (Int × List D)} (hg : GatesFrom ps 0 gs) : downs (fun s => (maskN ps fs).testBit (ps.idxOf s)) gs [] = downs (flOf fs) gs [] := by
  refine downs_congr (ps := ps) (fun s hs => ?_) gs 0 [] hg
  have hi := List.idxOf_lt_length_of_mem hs
  rw [maskN_bit]
  have : ps.getD (ps.idxOf s) ⟨#[]⟩ = s := by
    rw [List.getD_eq_getElem?_getD, List.getElem?_eq_getElem hi]
    exact List.getElem_idxOf hi
  rw [this]
  simp [hi]
theorem tab_mask {ps fs : List Str} {gs : List (Int × List D)} (ok : SysOk ps gs) : (tabL ps gs).testBit (maskN ps fs) = stopB (flOf fs) gs := by
  rw [tabL_bit (maskN_lt ps fs)]
  unfold stopB
  rw [stop_mask ok.gates.from_]
theorem take_downs (fl : Str → Bool) (gs : List (Int × List D)) {i : Nat} (h : i < gs.length) : stopB fl (gs.take (i + 1)) = (downs fl gs []).getD i false := by
  have hl : (gs.take (i + 1)).length = i + 1 := by rw [List.length_take]; omega
  have e : downs fl gs [] = downs fl (gs.drop (i + 1)) (downs fl (gs.take (i + 1)) []) := by rw [← downs_app, List.take_append_drop]
  have hd : (downs fl (gs.take (i + 1)) []).length = i + 1 := by rw [downs_len, hl]; simp
  unfold stopB
  rw [e, List.getD_eq_getElem?_getD, downs_pre fl _ _ i (by omega), List.getLastD_eq_getLast?, List.getLast?_eq_getElem?, hd]
  rfl
end FtLaw
/-! MSet: is_set, require_set. -/
namespace FtLaw
open PySem Ft
def memB (ps : List Str) : D → Bool
  | .str s => decide (s ∈ ps)
  | _ => false
def setB (ps : List Str) : D → Bool
  | .tuple xs => xs.all (memB ps) && ascB xs
  | _ => false
theorem mem_strs {ps : List Str} : ∀ {xs : List D}, xs.all (memB ps) = true → ∃ l : List Str, xs = dS l ∧ ∀ s ∈ l, s ∈ ps
  | [], _ => ⟨[], rfl, fun _ h => by cases h⟩
  | x :: xs, h => by
    rw [List.all_cons, Bool.and_eq_true] at h
    obtain ⟨l, e, hl⟩ := mem_strs h.2
    cases x with
    | str s =>
      refine ⟨s :: l, by rw [e]; rfl, fun z hz => ?_⟩
      rcases List.mem_cons.mp hz with rfl | hz
      · exact of_decide_eq_true h.1
      · exact hl z hz
    | _ => cases h.1
theorem is_set_ev {F : Fns} (h : ∀ l : List Str, l.length ≤ 1000 → F.f "is_ascending" [.tuple (dS l)] = .ok (.bool (ascB (dS l)))) {ps : List Str} {d : D} (hl : ∀ xs, d = .tuple xs → xs.length ≤ 1000) : evF F FU b_is_set [.tuple (dS ps), d] = .ok (.bool (setB ps d)) := by
  refine f_done rfl (ρ' := [.im (.tuple (dS ps)), .im d, .no]) ?_
  show evS F FU b_is_set.b [.im (.tuple (dS ps)), .im d, .no] = _
  unfold b_is_set
  dsimp only
  have hn : isTy .tuple d = false → setB ps d = false := by cases d <;> first | (intro h; rfl) | (intro h; cases h)
  cases hty : isTy .tuple d with
  | false =>
    have ht : evT F (.or (.not (.tr (.isi (.loc 1) .tuple))) (.not (.tr (.prim .all (.lc (.one 2) (.sq (.loc 1)) .tt (.and (.isi (.loc 2) .str) (.cmp .isin (.loc 2) (.loc 0)))))))) [.im (.tuple (dS ps)), .im d, .no] = .ok (true || false, [.im (.tuple (dS ps)), .im d, .no]) :=
      t_or' (t_not' (t_trB (q_isi (qp_loc rfl) hty))) fun h => by cases h
    rw [s_ifret (d := .bool false) ht fun _ => rfl, hn hty]
    rfl
  | true =>
    obtain ⟨xs, rfl⟩ : ∃ xs, d = .tuple xs := by cases d <;> first | exact ⟨_, rfl⟩ | cases hty
    have hlen := hl xs rfl
    have hL : LIM = 1000000 := rfl
    have ha := all_lc (F := F) (ρ := [.im (.tuple (dS ps)), .im (.tuple xs), .no]) (t := .one 2) (it := .sq (.loc 1)) (e := .and (.isi (.loc 2) .str) (.cmp .isin (.loc 2) (.loc 0))) (xs := xs) (memB ps) rfl (by omega) (fun x hx => by
      refine ⟨[.im (.tuple (dS ps)), .im (.tuple xs), .im x], rfl, ?_, rfl⟩
      cases x with
      | str s => exact q_and (x := true) (q_isi (qp_loc rfl) rfl) fun _ => q_cmp (q_loc rfl) (qp_loc rfl) (in_dec ps s)
      | _ => exact q_and (x := false) (y := false) (q_isi (qp_loc rfl) rfl) fun h => by cases h) rfl
    have ht : evT F (.or (.not (.tr (.isi (.loc 1) .tuple))) (.not (.tr (.prim .all (.lc (.one 2) (.sq (.loc 1)) .tt (.and (.isi (.loc 2) .str) (.cmp .isin (.loc 2) (.loc 0)))))))) [.im (.tuple (dS ps)), .im (.tuple xs), .no] = .ok (false || !(xs.all (memB ps)), [.im (.tuple (dS ps)), .im (.tuple xs), .no]) :=
      t_or' (t_not' (t_trB (q_isi (qp_loc rfl) rfl))) fun _ => t_not' (t_trB ha)
    rw [s_ifret (d := .bool false) ht fun _ => rfl]
    cases hal : xs.all (memB ps) with
    | false =>
      have : setB ps (.tuple xs) = false := by
        show (xs.all (memB ps) && ascB xs) = false
        rw [hal]
        rfl
      rw [this]
      rfl
    | true =>
      obtain ⟨l, rfl, _⟩ := mem_strs hal
      have : setB ps (.tuple (dS l)) = ascB (dS l) := by
        show ((dS l).all (memB ps) && ascB (dS l)) = _
        rw [hal]
        rfl
      rw [this]
      simp only [Bool.not_true, Bool.or_false, Bool.false_eq_true, if_false]
      rw [List.length_map] at hlen
      exact s_ret (q_call (q_cons (q_loc rfl) q_nil) (h l hlen))
theorem set_sub {ps fs : List Str} (hr : ps.Pairwise fun a b => strLt a b = true) (h : fs.Sublist ps) : setB ps (rowD fs) = true := by
  show ((dS fs).all (memB ps) && ascB (dS fs)) = true
  rw [Bool.and_eq_true]
  refine ⟨?_, asc_of (hr.sublist h)⟩
  rw [List.all_eq_true]
  intro d hd
  obtain ⟨s, hs, rfl⟩ := List.mem_map.mp hd
  exact decide_eq_true (h.subset hs)
theorem x_set {ps : List Str} {d : D} (hl : ∀ xs, d = .tuple xs → xs.length ≤ 1000) : f_is_set [.tuple (dS ps), d] = .ok (.bool (setB ps d)) := is_set_ev (fun l hl => by rw [lk_is_set__is_ascending]; exact is_asc_ev hl) hl
theorem strLt_trans {a b c : Str} (h1 : strLt a b = true) (h2 : strLt b c = true) : strLt a c = true := by
  cases h : strLt a c with
  | true => rfl
  | false =>
    have := strLe_trans (strLt_asymm h2) h
    rw [h1] at this
    cases this
theorem asc_pair : ∀ {l : List Str}, ascB (dS l) = true → l.Pairwise fun a b => strLt a b = true
  | [], _ => List.Pairwise.nil
  | [_], _ => List.pairwise_singleton _ _
  | a :: b :: r, h => by
    have h : (strLt a b && ascB (dS (b :: r))) = true := h
    rw [Bool.and_eq_true] at h
    have ih := asc_pair h.2
    refine List.pairwise_cons.mpr ⟨fun c hc => ?_, ih⟩
    rcases List.mem_cons.mp hc with rfl | hc
    · exact h.1
    · exact strLt_trans h.1 ((List.pairwise_cons.mp ih).1 c hc)
theorem asc_dup {l : List Str} (h : ¬ l.Nodup) : ascB (dS l) = false := by
  cases hq : ascB (dS l) with
  | false => rfl
  | true => exact absurd (nodup_of_rise (asc_pair hq)) h
theorem set_dup {ps l : List Str} (h : ¬ l.Nodup) : setB ps (rowD l) = false := by
  show ((dS l).all (memB ps) && ascB (dS l)) = false
  rw [asc_dup h, Bool.and_false]
theorem set_rev {ps l : List Str} (h : l.Pairwise fun a b => strLt a b = true) (h2 : 1 < l.length) : setB ps (rowD l.reverse) = false := by
  show ((dS l.reverse).all (memB ps) && ascB (dS l.reverse)) = false
  have : ascB (dS l.reverse) = false := by
    cases hq : ascB (dS l.reverse) with
    | false => rfl
    | true =>
      have h3 := List.pairwise_reverse.mp (asc_pair hq)
      match l, h2, h, h3 with
      | a :: b :: r, _, h, h3 =>
        have e1 := (List.pairwise_cons.mp h).1 b List.mem_cons_self
        have e2 := (List.pairwise_cons.mp h3).1 b List.mem_cons_self
        have := strLt_asymm e1
        rw [e2] at this
        cases this
  rw [this, Bool.and_false]
theorem set_out {ps l : List Str} {s : Str} (h : s ∈ l) (hs : s ∉ ps) : setB ps (rowD l) = false := by
  show ((dS l).all (memB ps) && ascB (dS l)) = false
  have : (dS l).all (memB ps) = false := by
    rw [List.all_eq_false]
    exact ⟨.str s, List.mem_map.mpr ⟨s, h, rfl⟩, by show ¬ decide (s ∈ ps) = true; simp [hs]⟩
  rw [this]
  rfl
theorem row_len {fs : List Str} (h : fs.length ≤ 1000) : ∀ xs, rowD fs = .tuple xs → xs.length ≤ 1000 := fun xs e => by
  cases e
  rw [List.length_map]
  exact h
theorem sub_len {ps fs : List Str} {gs : List (Int × List D)} (ok : SysOk ps gs) (h : fs.Sublist ps) : fs.length ≤ 1000 := by
  have := h.length_le
  have := ok.p8
  omega
end FtLaw
/-! MMin: plain: rows in order, sets and masks, smallest sets. -/
namespace FtLaw
open PySem Ft
/-! ### the order of data -/
theorem le_trans' (a b c : D) (h1 : PySem.W.dataLe false id a b = true) (h2 : PySem.W.dataLe false id b c = true) : PySem.W.dataLe false id a c = true := by
  have h1 : (!PySem.W.dataLt b a) = true := h1
  have h2 : (!PySem.W.dataLt c b) = true := h2
  show (!PySem.W.dataLt c a) = true
  rw [Bool.not_eq_true'] at h1 h2 ⊢
  cases h : PySem.W.dataLt c a with
  | false => rfl
  | true =>
    rcases PyProof.Rows.lex_negTrans (O := PyProof.Rows.itemOrd) _ (PySem.W.keyToks b) _ h with q | q
    · have q : PySem.W.dataLt c b = true := q
      rw [h2] at q
      cases q
    · have q : PySem.W.dataLt b a = true := q
      rw [h1] at q
      cases q
theorem le_total' (a b : D) : (PySem.W.dataLe false id a b || PySem.W.dataLe false id b a) = true := by
  show ((!PySem.W.dataLt b a) || (!PySem.W.dataLt a b)) = true
  cases h : PySem.W.dataLt b a with
  | false => rfl
  | true =>
    cases h2 : PySem.W.dataLt a b with
    | false => rfl
    | true =>
      have h3 := PyProof.Rows.lex_trans (O := PyProof.Rows.itemOrd) _ _ _ h h2
      rw [PyProof.Rows.lex_irrefl] at h3
      cases h3
theorem sort_pw (l : List D) : (l.mergeSort (PySem.W.dataLe false id)).Pairwise fun a b => PySem.W.dataLe false id a b = true := List.pairwise_mergeSort le_trans' le_total' l
theorem toks_row : ∀ a b : List Str, PySem.W.keyToksAll (dS a) = PySem.W.keyToksAll (dS b) → a = b
  | [], [], _ => rfl
  | [], _ :: _, h => by simp [PySem.W.keyToksAll] at h
  | _ :: _, [], h => by simp [PySem.W.keyToksAll] at h
  | x :: xs, y :: ys, h => by
    have h : PySem.W.keyToksAll (.str x :: dS xs) = PySem.W.keyToksAll (.str y :: dS ys) := h
    rw [PySem.W.toks_all_cons, PySem.W.toks_all_cons] at h
    have h' : PySem.W.keyToks (.str x) ++ PySem.W.keyToksAll (dS xs) = PySem.W.keyToks (.str y) ++ PySem.W.keyToksAll (dS ys) := (List.cons.inj h).2
    have h1 : (Sum.inr x.cps.toList : Int ⊕ List Nat) :: PySem.W.keyToksAll (dS xs) = Sum.inr y.cps.toList :: PySem.W.keyToksAll (dS ys) := by simpa [PySem.W.keyToks] using h'
    have h2 := List.cons.inj h1
    rw [PySem.W.str_of_cps (Sum.inr.inj h2.1), toks_row xs ys h2.2]
theorem row_anti {a b : List Str} (h1 : PySem.W.dataLe false id (rowD a) (rowD b) = true) (h2 : PySem.W.dataLe false id (rowD b) (rowD a) = true) : a = b := by
  have h1 : (!PySem.W.dataLt (rowD b) (rowD a)) = true := h1
  have h2 : (!PySem.W.dataLt (rowD a) (rowD b)) = true := h2
  rw [Bool.not_eq_true'] at h1 h2
  have := PyProof.Rows.lex_total (O := PyProof.Rows.itemOrd) _ _ h2 h1
  have this : PySem.W.keyToks (rowD a) = PySem.W.keyToks (rowD b) := this
  simp only [PySem.W.keyToks] at this
  exact toks_row a b this
def unRow : D → List Str
  | .tuple xs => xs.map unS
  | _ => []
theorem unRow_row (fs : List Str) : unRow (rowD fs) = fs := unS_map fs
/-- sorted rows -/
def sortR (l : List (List Str)) : List (List Str) := ((l.map rowD).mergeSort (PySem.W.dataLe false id)).map unRow
theorem sortR_map (l : List (List Str)) : (l.map rowD).mergeSort (PySem.W.dataLe false id) = (sortR l).map rowD := (perm_pre unRow_row (List.mergeSort_perm _ _)).1
theorem sortR_perm (l : List (List Str)) : (sortR l).Perm l := (perm_pre unRow_row (List.mergeSort_perm _ _)).2
theorem sortR_pw (l : List (List Str)) : (sortR l).Pairwise fun a b => PySem.W.dataLe false id (rowD a) (rowD b) = true := by
  have := sort_pw (l.map rowD)
  rw [sortR_map] at this
  exact List.pairwise_map.mp this
theorem sortR_eq {l m : List (List Str)} (h : l.Perm m) : sortR l = sortR m :=
  List.Perm.eq_of_pairwise (fun a b _ _ h1 h2 => row_anti h1 h2) (sortR_pw l) (sortR_pw m) ((sortR_perm l).trans (h.trans (sortR_perm m).symm))
theorem rows_rows {l : List (List Str)} (h : l.length ≤ LIM) (h1 : ∀ r ∈ l, r ≠ []) : rowsOk (l.map rowD) = true := by
  unfold rowsOk
  rw [Bool.and_eq_true, Bool.and_eq_true]
  refine ⟨⟨?_, ?_⟩, decide_eq_true (by rw [List.length_map]; exact h)⟩
  · rw [List.all_eq_true]
    intro d hd
    rw [List.all_eq_true]
    intro d' hd'
    obtain ⟨a, _, rfl⟩ := List.mem_map.mp hd
    obtain ⟨b, _, rfl⟩ := List.mem_map.mp hd'
    rw [PySem.W.alike]
    exact alike_dS a b
  · rw [List.all_eq_true]
    intro d hd
    obtain ⟨a, ha, rfl⟩ := List.mem_map.mp hd
    cases a with
    | nil => exact absurd rfl (h1 [] ha)
    | cons x r =>
      refine decide_eq_true ?_
      show PyData.depth (.tuple (dS (x :: r))) ≤ 60
      simp only [PyData.depth, depth_dS]
      omega
theorem sorted_rows {l : List (List Str)} (h : l.length ≤ LIM) (h1 : ∀ r ∈ l, r ≠ []) : primD .sorted (.list (l.map rowD)) = .ok (.list ((sortR l).map rowD)) := by
  rw [← sortR_map]
  cases l with
  | nil =>
    rw [List.map_nil, List.mergeSort_nil]
    rfl
  | cons a r => exact primD_sortedR (e := .stuck) rfl (rows_rows h h1)
/-! ### sets in the order of their sizes -/
theorem sets_size (ps : List Str) : (setsL ps).Pairwise fun a b => a.length ≤ b.length := by
  have := sort_pw ((subs ps).map pairD)
  rw [sets_pairs] at this
  refine (List.pairwise_map.mp this).imp fun {a b} h => ?_
  have h : (!PySem.W.dataLt (pairD b) (pairD a)) = true := h
  rw [Bool.not_eq_true'] at h
  unfold pairD at h
  have hr : PySem.W.alike (rowD b) (rowD a) = true := by rw [PySem.W.alike]; exact alike_dS b a
  rw [PySem.W.dataLt_pair (by simp [PySem.W.alike]) hr] at h
  rcases Nat.lt_or_ge b.length a.length with hlt | hge
  · have e1 : PyData.eqv (.int (b.length : Nat)) (.int (a.length : Nat)) = false := by
      show ((b.length : Int) == (a.length : Int)) = false
      rw [beq_eq_false_iff_ne]
      omega
    rw [e1, if_neg Bool.false_ne_true, PySem.W.dataLt_int] at h
    have := of_decide_eq_false h
    omega
  · exact hge
/-! ### sublists and filters -/
theorem filter_mono {p q : Str → Bool} : ∀ {l : List Str}, (∀ s ∈ l, p s = true → q s = true) → (l.filter p).Sublist (l.filter q)
  | [], _ => List.Sublist.refl _
  | x :: l, h => by
    have ih := filter_mono (l := l) fun s hs => h s (List.mem_cons_of_mem _ hs)
    rw [List.filter_cons, List.filter_cons]
    cases hp : p x with
    | true =>
      rw [h x List.mem_cons_self hp]
      exact ih.cons_cons x
    | false =>
      rw [if_neg Bool.false_ne_true]
      split
      · exact ih.cons x
      · exact ih
theorem sub_filter {ps fs : List Str} (h : fs.Sublist ps) : ps.Nodup → ps.filter (fun s => decide (s ∈ fs)) = fs := by
  induction h with
  | slnil => intro _; rfl
  | @cons l₁ l₂ a h ih =>
    intro hn
    have hn' := List.nodup_cons.mp hn
    have ha : a ∉ l₁ := fun q => hn'.1 (h.subset q)
    rw [List.filter_cons, if_neg (by simp [ha])]
    exact ih hn'.2
  | @cons_cons l₁ l₂ a h ih =>
    intro hn
    have hn' := List.nodup_cons.mp hn
    rw [List.filter_cons, if_pos (by simp)]
    congr 1
    have e : l₂.filter (fun s => decide (s ∈ a :: l₁)) = l₂.filter (fun s => decide (s ∈ l₁)) := by
      refine List.filter_congr fun s hs => ?_
      have : s ≠ a := fun e => hn'.1 (e ▸ hs)
      simp [this]
    rw [e]
    exact ih hn'.2
/-- two sublists of one row: contained is a sublist -/
theorem sub_of_subset {ps a b : List Str} (hn : ps.Nodup) (ha : a.Sublist ps) (hb : b.Sublist ps) (h : ∀ s ∈ a, s ∈ b) : a.Sublist b := by
  rw [← sub_filter ha hn, ← sub_filter hb hn]
  refine filter_mono fun s _ hs => ?_
  exact decide_eq_true (h s (of_decide_eq_true hs))
/-! ### masks -/
def namesN (ps : List Str) (m : Nat) : List Str := ps.filter fun s => m.testBit (ps.idxOf s)
theorem names_sub (ps : List Str) (m : Nat) : (namesN ps m).Sublist ps := List.filter_sublist
theorem idx_get {ps : List Str} (hn : ps.Nodup) {i : Nat} (hi : i < ps.length) : ps.idxOf (ps.getD i ⟨#[]⟩) = i := by
  rw [List.getD_eq_getElem?_getD, List.getElem?_eq_getElem hi]
  show ps.idxOf ps[i] = i
  exact hn.idxOf_getElem i hi
theorem get_mem {ps : List Str} {i : Nat} (hi : i < ps.length) : ps.getD i ⟨#[]⟩ ∈ ps := by
  rw [List.getD_eq_getElem?_getD, List.getElem?_eq_getElem hi]
  exact List.getElem_mem hi
theorem get_idx {ps : List Str} {s : Str} (h : s ∈ ps) : ps.getD (ps.idxOf s) ⟨#[]⟩ = s := by
  have hi := List.idxOf_lt_length_of_mem h
  rw [List.getD_eq_getElem?_getD, List.getElem?_eq_getElem hi]
  exact List.getElem_idxOf hi
theorem names_mask {ps fs : List Str} (hn : ps.Nodup) (h : fs.Sublist ps) : namesN ps (maskN ps fs) = fs := by
  unfold namesN
  refine Eq.trans (List.filter_congr fun s hs => ?_) (sub_filter h hn)
  rw [maskN_bit, get_idx hs]
  simp [List.idxOf_lt_length_of_mem hs]
theorem mask_names {ps : List Str} (hn : ps.Nodup) {m : Nat} (hm : m < 2 ^ ps.length) : maskN ps (namesN ps m) = m := by
  refine Nat.eq_of_testBit_eq fun i => ?_
  rw [maskN_bit]
  by_cases hi : i < ps.length
  · have : decide (ps.getD i ⟨#[]⟩ ∈ namesN ps m) = m.testBit i := by
      unfold namesN
      cases hb : m.testBit i with
      | true => exact decide_eq_true (List.mem_filter.mpr ⟨get_mem hi, by rw [idx_get hn hi]; exact hb⟩)
      | false =>
        refine decide_eq_false fun h => ?_
        have := (List.mem_filter.mp h).2
        rw [idx_get hn hi, hb] at this
        cases this
    rw [this]
    simp [hi]
  · have : m.testBit i = false := Nat.testBit_lt_two_pow (Nat.lt_of_lt_of_le hm (Nat.pow_le_pow_right (by decide) (by omega)))
    rw [this]
    simp [hi]
theorem psum_drop (p : Nat → Bool) (i : Nat) : ∀ n, i < n → p i = true → psum (fun k => p k && !decide (k = i)) n + 2 ^ i = psum p n
  | 0, h, _ => by omega
  | n + 1, h, hp => by
    show (psum (fun k => p k && !decide (k = i)) n + (if (p n && !decide (n = i)) then 2 ^ n else 0)) + 2 ^ i = psum p n + (if p n then 2 ^ n else 0)
    by_cases e : n = i
    · subst e
      have : psum (fun k => p k && !decide (k = n)) n = psum p n := psum_congr n fun k hk => by
        have : k ≠ n := by omega
        simp [this]
      rw [this]
      simp [hp]
    · have ih := psum_drop p i n (by omega) hp
      simp only [e, decide_false, Bool.not_false, Bool.and_true]
      omega
def less (fs : List Str) (s : Str) : List Str := fs.filter fun x => !decide (x = s)
theorem mem_less {fs : List Str} {s x : Str} : x ∈ less fs s ↔ x ∈ fs ∧ x ≠ s := by
  unfold less
  rw [List.mem_filter]
  simp
theorem mask_less {ps fs : List Str} (hn : ps.Nodup) {s : Str} (h1 : s ∈ ps) (h2 : s ∈ fs) : maskN ps (less fs s) + 2 ^ ps.idxOf s = maskN ps fs := by
  have hi := List.idxOf_lt_length_of_mem h1
  have := psum_drop (fun i => decide (ps.getD i ⟨#[]⟩ ∈ fs)) (ps.idxOf s) ps.length hi (by rw [get_idx h1]; exact decide_eq_true h2)
  have e : maskN ps (less fs s) = psum (fun k => decide (ps.getD k ⟨#[]⟩ ∈ fs) && !decide (k = ps.idxOf s)) ps.length := by
    unfold maskN
    refine psum_congr _ fun k hk => ?_
    rw [← decide_not, ← Bool.decide_and]
    refine decide_eq_decide.mpr ?_
    rw [mem_less]
    constructor
    · rintro ⟨a, b⟩
      exact ⟨a, fun e => b (by rw [e, get_idx h1])⟩
    · rintro ⟨a, b⟩
      refine ⟨a, fun e => b ?_⟩
      rw [← e, idx_get hn hk]
  rw [e]
  exact this
end FtLaw
/-! MMin2: plain: the smallest sets, found either way. -/
namespace FtLaw
open PySem Ft
def subB (a b : List Str) : Bool := a.all fun s => decide (s ∈ b)
theorem subB_iff {a b : List Str} : subB a b = true ↔ ∀ s ∈ a, s ∈ b := by
  unfold subB
  rw [List.all_eq_true]
  exact ⟨fun h s hs => of_decide_eq_true (h s hs), fun h s hs => decide_eq_true (h s hs)⟩
def greedy : List (List Str) → List (List Str) → List (List Str)
  | [], acc => acc
  | r :: rs, acc => if acc.any (fun o => subB o r) then greedy rs acc else greedy rs (acc ++ [r])
def MinIn (R : List (List Str)) (f : List Str) : Prop := ∀ g ∈ R, (∀ s ∈ g, s ∈ f) → ∀ s ∈ f, s ∈ g
theorem greedy_inv {ps : List Str} (hn : ps.Nodup) {R : List (List Str)} (hR : ∀ r ∈ R, r.Sublist ps) (hs : R.Pairwise fun a b => a.length ≤ b.length) :
    ∀ (R2 R1 acc : List (List Str)), R = R1 ++ R2 → (∀ g ∈ R1, ∃ o ∈ acc, ∀ s ∈ o, s ∈ g) → (∀ f ∈ acc, f ∈ R1) → (∀ f ∈ acc, MinIn R f) → acc.Nodup →
      (∀ g ∈ R, ∃ o ∈ greedy R2 acc, ∀ s ∈ o, s ∈ g) ∧ (∀ f ∈ greedy R2 acc, f ∈ R) ∧ (∀ f ∈ greedy R2 acc, MinIn R f) ∧ (greedy R2 acc).Nodup
  | [], R1, acc, e, h1, h2, h3, h4 => by
    rw [List.append_nil] at e
    subst e
    exact ⟨h1, h2, h3, h4⟩
  | r :: R2, R1, acc, e, h1, h2, h3, h4 => by
    have e' : R = (R1 ++ [r]) ++ R2 := by rw [e]; simp
    have hrR : r ∈ R := by rw [e]; simp
    unfold greedy
    by_cases hc : acc.any (fun o => subB o r) = true
    · rw [if_pos hc]
      refine greedy_inv hn hR hs R2 (R1 ++ [r]) acc e' (fun g hg => ?_) (fun f hf => List.mem_append_left _ (h2 f hf)) h3 h4
      rcases List.mem_append.mp hg with hg | hg
      · exact h1 g hg
      · rw [List.mem_singleton.mp hg]
        obtain ⟨o, ho, hq⟩ := List.any_eq_true.mp hc
        exact ⟨o, ho, subB_iff.mp hq⟩
    · rw [if_neg hc]
      have hno : ∀ o ∈ acc, ¬ ∀ s ∈ o, s ∈ r := fun o ho hq => hc (List.any_eq_true.mpr ⟨o, ho, subB_iff.mpr hq⟩)
      refine greedy_inv hn hR hs R2 (R1 ++ [r]) (acc ++ [r]) e' (fun g hg => ?_) (fun f hf => ?_) (fun f hf => ?_) ?_
      · rcases List.mem_append.mp hg with hg | hg
        · obtain ⟨o, ho, hq⟩ := h1 g hg
          exact ⟨o, List.mem_append_left _ ho, hq⟩
        · rw [List.mem_singleton.mp hg]
          exact ⟨r, List.mem_append_right _ (List.mem_singleton.mpr rfl), fun s hs => hs⟩
      · rcases List.mem_append.mp hf with hf | hf
        · exact List.mem_append_left _ (h2 f hf)
        · exact List.mem_append_right _ hf
      · rcases List.mem_append.mp hf with hf | hf
        · exact h3 f hf
        · rw [List.mem_singleton.mp hf]
          intro g hg hgr
          rw [e] at hg
          rcases List.mem_append.mp hg with hg | hg
          · obtain ⟨o, ho, hq⟩ := h1 g hg
            exact absurd (fun s hs => hgr s (hq s hs)) (hno o ho)
          · have hlen : r.length ≤ g.length := by
              rw [e] at hs
              have hp := (List.pairwise_append.mp hs).2.1
              rcases List.mem_cons.mp hg with rfl | hg
              · exact Nat.le_refl _
              · exact (List.pairwise_cons.mp hp).1 g hg
            have hgR : g ∈ R := by rw [e]; exact List.mem_append_right _ hg
            have hsub := sub_of_subset hn (hR g hgR) (hR r hrR) hgr
            rw [hsub.eq_of_length_le hlen]
            exact fun s hs => hs
      · refine List.nodup_append.mpr ⟨h4, by simp, fun a ha b hb => ?_⟩
        rw [List.mem_singleton.mp hb]
        intro e2
        subst e2
        exact hno a ha fun s hs => hs
theorem greedy_mem {ps : List Str} (hn : ps.Nodup) {R : List (List Str)} (hR : ∀ r ∈ R, r.Sublist ps) (hs : R.Pairwise fun a b => a.length ≤ b.length) : (∀ f, f ∈ greedy R [] ↔ f ∈ R ∧ MinIn R f) ∧ (greedy R []).Nodup ∧ (R ≠ [] → greedy R [] ≠ []) := by
  obtain ⟨h1, h2, h3, h4⟩ := greedy_inv hn hR hs R [] [] rfl (fun g hg => by cases hg) (fun f hf => by cases hf) (fun f hf => by cases hf) List.nodup_nil
  refine ⟨fun f => ⟨fun hf => ⟨h2 f hf, h3 f hf⟩, fun ⟨hf, hm⟩ => ?_⟩, h4, fun hne => ?_⟩
  · obtain ⟨o, ho, hq⟩ := h1 f hf
    have hoR := h2 o ho
    have h5 := hm o hoR hq
    have e : o = f := (sub_of_subset hn (hR o hoR) (hR f hf) hq).eq_of_length_le (sub_of_subset hn (hR f hf) (hR o hoR) h5).length_le
    rw [← e]
    exact ho
  · obtain ⟨g, hg⟩ := List.exists_mem_of_ne_nil R hne
    obtain ⟨o, ho, _⟩ := h1 g hg
    exact List.ne_nil_of_mem ho
/-- a property of sets that holds of larger ones, too -/
def Mono (ps : List Str) (B : List Str → Bool) : Prop := ∀ a b : List Str, a.Sublist ps → b.Sublist ps → (∀ s ∈ a, s ∈ b) → B a = true → B b = true
def minB (B : List Str → Bool) (fs : List Str) : Bool := B fs && !(fs.any fun s => B (less fs s))
theorem minB_iff {ps : List Str} (hn : ps.Nodup) {B : List Str → Bool} (hB : Mono ps B) {fs : List Str} (hf : fs.Sublist ps) : minB B fs = true ↔ B fs = true ∧ ∀ g : List Str, g.Sublist ps → B g = true → (∀ s ∈ g, s ∈ fs) → ∀ s ∈ fs, s ∈ g := by
  unfold minB
  rw [Bool.and_eq_true, Bool.not_eq_true', List.any_eq_false]
  refine and_congr_right fun hBf => ⟨fun h g hg hBg hgf s hs => ?_, fun h s hs => ?_⟩
  · rcases Decidable.em (s ∈ g) with q | q
    · exact q
    · exact absurd (hB g (less fs s) hg ((List.filter_sublist).trans hf) (fun x hx => mem_less.mpr ⟨hgf x hx, fun e => q (e ▸ hx)⟩) hBg) (by simpa using h s hs)
  · intro hc
    have := h (less fs s) ((List.filter_sublist).trans hf) hc (fun x hx => (mem_less.mp hx).1) s hs
    exact (mem_less.mp this).2 rfl
/-- by hand: of all sets, sorted by size -/
def handL (ps : List Str) (B : List Str → Bool) : List (List Str) := greedy ((setsL ps).filter B) []
theorem hand_mem {ps : List Str} (hn : ps.Nodup) {B : List Str → Bool} (hB : Mono ps B) (f : List Str) : f ∈ handL ps B ↔ f.Sublist ps ∧ minB B f = true := by
  have hR : ∀ r ∈ (setsL ps).filter B, r.Sublist ps := fun r hr => mem_sets.mp (List.mem_filter.mp hr).1
  obtain ⟨h1, _, _⟩ := greedy_mem hn hR ((sets_size ps).filter B)
  unfold handL
  rw [h1, List.mem_filter, mem_sets]
  constructor
  · rintro ⟨⟨hs, hBf⟩, hm⟩
    refine ⟨hs, (minB_iff hn hB hs).mpr ⟨hBf, fun g hg hBg hgf => hm g (List.mem_filter.mpr ⟨mem_sets.mpr hg, hBg⟩) hgf⟩⟩
  · rintro ⟨hs, hm⟩
    obtain ⟨hBf, h2⟩ := (minB_iff hn hB hs).mp hm
    exact ⟨⟨hs, hBf⟩, fun g hg hgf => h2 g (mem_sets.mp (List.mem_filter.mp hg).1) (List.mem_filter.mp hg).2 hgf⟩
theorem hand_nodup {ps : List Str} (hn : ps.Nodup) (B : List Str → Bool) : (handL ps B).Nodup :=
  (greedy_mem hn (R := (setsL ps).filter B) (fun r hr => mem_sets.mp (List.mem_filter.mp hr).1) ((sets_size ps).filter B)).2.1
theorem hand_ne {ps : List Str} (hn : ps.Nodup) {B : List Str → Bool} (h : B ps = true) : handL ps B ≠ [] :=
  (greedy_mem hn (R := (setsL ps).filter B) (fun r hr => mem_sets.mp (List.mem_filter.mp hr).1) ((sets_size ps).filter B)).2.2 (List.ne_nil_of_mem (List.mem_filter.mpr ⟨mem_sets.mpr (List.Sublist.refl ps), h⟩))
/-- by a table: the masks of smallest sets -/
def minM (n t m : Nat) : Bool := t.testBit m && !(((List.range n).filter fun i => m.testBit i).any fun i => t.testBit (m - 2 ^ i))
def tabN (ps : List Str) (t : Nat) : List (List Str) := ((List.range (2 ^ ps.length)).filter (minM ps.length t)).map (namesN ps)
theorem minM_of {ps : List Str} (hn : ps.Nodup) {B : List Str → Bool} {t : Nat} (ht : ∀ fs : List Str, fs.Sublist ps → t.testBit (maskN ps fs) = B fs) {fs : List Str} (hf : fs.Sublist ps) : minM ps.length t (maskN ps fs) = minB B fs := by
  unfold minM minB
  rw [ht fs hf]
  congr 2
  rw [Bool.eq_iff_iff, List.any_eq_true, List.any_eq_true]
  constructor
  · rintro ⟨i, hi, hq⟩
    obtain ⟨h1, h2⟩ := List.mem_filter.mp hi
    rw [List.mem_range] at h1
    rw [maskN_bit, Bool.and_eq_true] at h2
    have hm := of_decide_eq_true h2.2
    refine ⟨ps.getD i ⟨#[]⟩, hm, ?_⟩
    have e := mask_less hn (get_mem h1) hm
    rw [idx_get hn h1] at e
    rw [← ht (less fs _) ((List.filter_sublist).trans hf), ← hq]
    congr 1
    omega
  · rintro ⟨s, hs, hq⟩
    have hp := hf.subset hs
    have hi := List.idxOf_lt_length_of_mem hp
    refine ⟨ps.idxOf s, List.mem_filter.mpr ⟨List.mem_range.mpr hi, ?_⟩, ?_⟩
    · rw [maskN_bit, get_idx hp]
      simp [hi, hs]
    · have e := mask_less hn hp hs
      rw [← ht (less fs s) ((List.filter_sublist).trans hf)] at hq
      rw [← hq]
      congr 1
      omega
theorem tabN_mem {ps : List Str} (hn : ps.Nodup) {B : List Str → Bool} {t : Nat} (ht : ∀ fs : List Str, fs.Sublist ps → t.testBit (maskN ps fs) = B fs) (f : List Str) : f ∈ tabN ps t ↔ f.Sublist ps ∧ minB B f = true := by
  unfold tabN
  rw [List.mem_map]
  constructor
  · rintro ⟨m, hm, rfl⟩
    obtain ⟨h1, h2⟩ := List.mem_filter.mp hm
    rw [List.mem_range] at h1
    refine ⟨names_sub ps m, ?_⟩
    rw [← minM_of hn ht (names_sub ps m), mask_names hn h1]
    exact h2
  · rintro ⟨hs, hm⟩
    exact ⟨maskN ps f, List.mem_filter.mpr ⟨List.mem_range.mpr (maskN_lt ps f), by rw [minM_of hn ht hs]; exact hm⟩, names_mask hn hs⟩
theorem tabN_nodup {ps : List Str} (hn : ps.Nodup) (t : Nat) : (tabN ps t).Nodup := by
  unfold tabN
  refine List.pairwise_map.mpr ?_
  refine List.Pairwise.imp_of_mem ?_ (List.nodup_range.filter _)
  intro a b ha hb hab e
  refine hab ?_
  have h1 := List.mem_range.mp (List.mem_filter.mp ha).1
  have h2 := List.mem_range.mp (List.mem_filter.mp hb).1
  rw [← mask_names hn h1, ← mask_names hn h2, e]
theorem tab_hand {ps : List Str} (hn : ps.Nodup) {B : List Str → Bool} (hB : Mono ps B) {t : Nat} (ht : ∀ fs : List Str, fs.Sublist ps → t.testBit (maskN ps fs) = B fs) : sortR (tabN ps t) = sortR (handL ps B) :=
  sortR_eq ((List.perm_ext_iff_of_nodup (tabN_nodup hn t) (hand_nodup hn B)).mpr fun f => by rw [tabN_mem hn ht, hand_mem hn hB])
/-! ### the systems' own -/
theorem downs_mono {fl fl' : Str → Bool} (h : ∀ s, fl s = true → fl' s = true) : ∀ (gs : List (Int × List D)) (dn dn' : List Bool), dn.length = dn'.length → (∀ i, dn.getD i false = true → dn'.getD i false = true) → ∀ i, (downs fl gs dn).getD i false = true → (downs fl' gs dn').getD i false = true
  | [], _, _, _, h2 => h2
  | g :: gs, dn, dn', hl, h2 => by
    refine downs_mono h gs _ _ (by simp [hl]) fun i hi => ?_
    have hin : ∀ d, inDown fl dn d = true → inDown fl' dn' d = true := fun d hd => by
      cases d with
      | str s => exact h s hd
      | int i => exact h2 _ hd
      | _ => cases hd
    have hg : gateDown fl dn g = true → gateDown fl' dn' g = true := fun hq => by
      unfold gateDown at hq ⊢
      refine decide_eq_true ?_
      have h3 := of_decide_eq_true hq
      have h4 : (g.2.filter (inDown fl dn)).length ≤ (g.2.filter (inDown fl' dn')).length := by
        rw [← List.countP_eq_length_filter, ← List.countP_eq_length_filter]
        exact List.countP_mono_left fun d _ hd => hin d hd
      omega
    rw [List.getD_eq_getElem?_getD, List.getElem?_append] at hi ⊢
    rw [← hl]
    split at hi
    · rename_i hlt
      rw [if_pos hlt]
      have := h2 i
      rw [List.getD_eq_getElem?_getD, List.getD_eq_getElem?_getD] at this
      exact this hi
    · rename_i hlt
      rw [if_neg hlt]
      cases hk : i - dn.length with
      | zero =>
        rw [hk] at hi
        exact hg hi
      | succ k =>
        rw [hk] at hi
        cases hi
theorem stop_at (fl : Str → Bool) {gs : List (Int × List D)} (h : 1 ≤ gs.length) : stopB fl gs = (downs fl gs []).getD (gs.length - 1) false := by
  unfold stopB
  have hl : (downs fl gs []).length = gs.length := by rw [downs_len]; simp
  rw [List.getLastD_eq_getLast?, List.getLast?_eq_getElem?, List.getD_eq_getElem?_getD, hl]
theorem stop_mono {fl fl' : Str → Bool} (h : ∀ s, fl s = true → fl' s = true) {gs : List (Int × List D)} (hg : 1 ≤ gs.length) (hs : stopB fl gs = true) : stopB fl' gs = true := by
  rw [stop_at _ hg] at hs ⊢
  exact downs_mono h gs [] [] rfl (fun i hi => hi) _ hs
abbrev cutB (gs : List (Int × List D)) (fs : List Str) : Bool := stopB (flOf fs) gs
abbrev pathB (ps : List Str) (gs : List (Int × List D)) (fs : List Str) : Bool := !stopB (flOf (ps.filter fun s => !decide (s ∈ fs))) gs
theorem cut_mono {ps : List Str} {gs : List (Int × List D)} (hg : 1 ≤ gs.length) : Mono ps (cutB gs) := fun a b _ _ h ha => stop_mono (fun s hs => decide_eq_true (h s (of_decide_eq_true hs))) hg ha
theorem path_mono {ps : List Str} {gs : List (Int × List D)} (hg : 1 ≤ gs.length) : Mono ps (pathB ps gs) := fun a b _ _ h ha => by
  show (!stopB _ gs) = true
  rw [Bool.not_eq_true']
  have ha : (!stopB (flOf (ps.filter fun s => !decide (s ∈ a))) gs) = true := ha
  rw [Bool.not_eq_true'] at ha
  cases hq : stopB (flOf (ps.filter fun s => !decide (s ∈ b))) gs with
  | false => rfl
  | true =>
    have := stop_mono (fl' := flOf (ps.filter fun s => !decide (s ∈ a))) (fun s hs => by
      have hs := of_decide_eq_true hs
      obtain ⟨h1, h2⟩ := List.mem_filter.mp hs
      refine decide_eq_true (List.mem_filter.mpr ⟨h1, ?_⟩)
      simp at h2 ⊢
      exact fun q => h2 (h s q)) hg hq
    rw [ha] at this
    cases this
theorem downs_none {ps : List Str} : ∀ (gs : List (Int × List D)) (dn : List Bool), GatesFrom ps dn.length gs → (∀ i, dn.getD i false = false) → ∀ i, (downs (flOf []) gs dn).getD i false = false
  | [], _, _, h => h
  | g :: gs, dn, hg, h => by
    have ok := hg.head
    have hz : gateDown (flOf []) dn g = false := by
      unfold gateDown
      have : g.2.filter (inDown (flOf []) dn) = [] := by
        rw [List.filter_eq_nil_iff]
        intro d hd
        rcases ok.ins d hd with ⟨s, _, rfl⟩ | ⟨i, rfl, _⟩
        · simp [inDown]
        · show ¬ dn.getD i.toNat false = true
          rw [h]
          exact Bool.false_ne_true
      rw [this]
      have := ok.lo
      exact decide_eq_false (by simp; omega)
    refine downs_none gs _ (by rw [List.length_append]; exact hg.tail) fun i => ?_
    rw [hz, List.getD_eq_getElem?_getD, List.getElem?_append]
    split
    · rw [← List.getD_eq_getElem?_getD]
      exact h i
    · cases i - dn.length <;> rfl
theorem downs_all {ps : List Str} : ∀ (gs : List (Int × List D)) (dn : List Bool), GatesFrom ps dn.length gs → (∀ i, i < dn.length → dn.getD i false = true) → ∀ i, i < dn.length + gs.length → (downs (flOf ps) gs dn).getD i false = true
  | [], _, _, h => h
  | g :: gs, dn, hg, h => by
    have ok := hg.head
    have hz : gateDown (flOf ps) dn g = true := by
      unfold gateDown
      have : g.2.filter (inDown (flOf ps) dn) = g.2 := by
        rw [List.filter_eq_self]
        intro d hd
        rcases ok.ins d hd with ⟨s, hs, rfl⟩ | ⟨i, rfl, h0, h1⟩
        · exact decide_eq_true hs
        · exact h _ (by omega)
      rw [this]
      exact decide_eq_true ok.hi
    intro i hi
    refine downs_all gs _ (by rw [List.length_append]; exact hg.tail) (fun i hi => ?_) i (by simp at hi ⊢; omega)
    rw [hz, List.getD_eq_getElem?_getD, List.getElem?_append]
    split
    · rename_i hlt
      rw [← List.getD_eq_getElem?_getD]
      exact h i hlt
    · rename_i hlt
      simp at hi
      have : i - dn.length = 0 := by omega
      rw [this]
      rfl
theorem cut_none {ps : List Str} {gs : List (Int × List D)} (ok : SysOk ps gs) : cutB gs [] = false := by
  show stopB _ gs = false
  rw [stop_at _ ok.g1]
  exact downs_none gs [] ok.gates.from_ (fun i => rfl) _
theorem cut_all {ps : List Str} {gs : List (Int × List D)} (ok : SysOk ps gs) : cutB gs ps = true := by
  show stopB _ gs = true
  have := ok.g1
  rw [stop_at _ ok.g1]
  exact downs_all gs [] ok.gates.from_ (fun i h => by cases h) _ (by simp; omega)
theorem path_none {ps : List Str} {gs : List (Int × List D)} (ok : SysOk ps gs) : pathB ps gs [] = false := by
  have e : (ps.filter fun s => !decide (s ∈ ([] : List Str))) = ps := by simp
  show (!stopB _ gs) = false
  rw [e, show stopB (flOf ps) gs = true from cut_all ok]
  rfl
theorem path_all {ps : List Str} {gs : List (Int × List D)} (ok : SysOk ps gs) : pathB ps gs ps = true := by
  have e : (ps.filter fun s => !decide (s ∈ ps)) = [] := by
    rw [List.filter_eq_nil_iff]
    intro s hs
    simp [hs]
  show (!stopB _ gs) = true
  rw [e, show stopB (flOf []) gs = false from cut_none ok]
  rfl
end FtLaw
/-! MOthP: the rest of a set, plainly -/
namespace FtLaw
open PySem Ft
def othersL (ps fs : List Str) : List Str := ps.filter fun s => !decide (s ∈ fs)
theorem others_sub (ps fs : List Str) : (othersL ps fs).Sublist ps := List.filter_sublist
theorem mem_others {ps fs : List Str} {s : Str} : s ∈ othersL ps fs ↔ s ∈ ps ∧ s ∉ fs := by
  unfold othersL
  rw [List.mem_filter]
  simp
def notMem (fs : List Str) : D → Bool
  | .str s => !decide (s ∈ fs)
  | _ => false
theorem notin_dec (fs : List Str) (s : Str) : cmpD .notin (.str s) (.tuple (dS fs)) = .ok (!decide (s ∈ fs)) := by
  have := in_dec fs s
  have this : inD (.str s) (.tuple (dS fs)) = .ok (decide (s ∈ fs)) := this
  show bindR (inD (.str s) (.tuple (dS fs))) _ = _
  rw [this]
  rfl
theorem psum_compl (p : Nat → Bool) : ∀ n, psum p n + psum (fun i => !p i) n + 1 = 2 ^ n
  | 0 => rfl
  | n + 1 => by
    have ih := psum_compl p n
    show (psum p n + (if p n then 2 ^ n else 0)) + (psum (fun i => !p i) n + (if !p n then 2 ^ n else 0)) + 1 = _
    rw [Nat.pow_succ]
    cases p n <;> simp <;> omega
theorem mask_others (ps fs : List Str) : maskN ps fs + maskN ps (othersL ps fs) + 1 = 2 ^ ps.length := by
  have h := psum_compl (fun i => decide (ps.getD i ⟨#[]⟩ ∈ fs)) ps.length
  have e : maskN ps (othersL ps fs) = psum (fun i => !decide (ps.getD i ⟨#[]⟩ ∈ fs)) ps.length := by
    unfold maskN
    refine psum_congr _ fun i hi => ?_
    have hm : ps.getD i ⟨#[]⟩ ∈ ps := by
      rw [List.getD_eq_getElem?_getD, List.getElem?_eq_getElem hi]
      exact List.getElem_mem hi
    rw [← decide_not]
    refine decide_eq_decide.mpr ?_
    rw [mem_others]
    exact ⟨fun h => h.2, fun h => ⟨hm, h⟩⟩
  rw [e]
  exact h
end FtLaw
/-! MLaw: what every law's proof uses: `.._or` defs, checks, the turns. -/
namespace FtLaw
open PySem Ft
theorem or_ok {F : Fns} {n : Nat} {b : Def} {e : E} {hs : List (Str × Str)} {ks : List Str} {ds : List D} {d : D} {ρ' : Ft.Env} (hb : b.b = .seq (.tryr e hs ks) .skip) (hl : ds.length = b.ps) (h : evE F e (startE b.n ds) = .ok (d, ρ')) : evF F n b ds = .ok d := by
  refine f_done hl (ρ' := ρ') ?_
  rw [hb, evS_seq]
  have : evS F n (.tryr e hs ks) (startE b.n ds) = .ok (.rt d, ρ') := by
    unfold evS
    rw [h]
  rw [this]
  rfl
theorem or_exc {F : Fns} {n : Nat} {b : Def} {e : E} {hs : List (Str × Str)} {ks : List Str} {ds : List D} {x t : Str} (hb : b.b = .seq (.tryr e hs ks) .skip) (hl : ds.length = b.ps) (h : evE F e (startE b.n ds) = .error (.exc x)) (hx : x ∈ ks) (hc : caught x hs = some t) : evF F n b ds = .ok (.str t) := by
  refine f_done hl (ρ' := (startE b.n ds).map fun _ => .no) ?_
  rw [hb, evS_seq]
  have : evS F n (.tryr e hs ks) (startE b.n ds) = .ok (.rt (.str t), (startE b.n ds).map fun _ => .no) := by
    unfold evS
    rw [h]
    dsimp only
    rw [if_pos hx, hc]
  rw [this]
  rfl
theorem q_exc {F : Fns} {ρ : Ft.Env} {f : Str} {a : E} {ds : List D} {x : Str} (ha : evA F a ρ = .ok (ds, ρ)) (hf : F.f f ds = .error (.exc x)) : evE F (.call f a) ρ = .error (.exc x) := by
  rw [evE_call, ha, bindR_ok]
  dsimp only
  rw [hf]
  rfl
theorem s_exn {F : Fns} {n : Nat} {ρ : Ft.Env} {e : E} {s2 : S} {d : D} (h : evE F e ρ = .ok (d, ρ)) : evS F n (.seq (.ex e) s2) ρ = evS F n s2 ρ := by
  rw [evS_seq, evS_ex, h]
  rfl
theorem s_exx {F : Fns} {n : Nat} {ρ : Ft.Env} {e : E} {s2 : S} {x : Str} (h : evE F e ρ = .error (.exc x)) : evS F n (.seq (.ex e) s2) ρ = .error (.exc x) := by
  rw [evS_seq, evS_ex, h]
  rfl
/-- if t: return False -/
theorem s_chk {F : Fns} {n : Nat} {ρ : Ft.Env} {t : E} {s2 : S} (ht : evT F t ρ = .ok (false, ρ)) : evS F n (.seq (.ite t (.seq (.ret (.bl false)) .skip) .skip) s2) ρ = evS F n s2 ρ := by
  rw [s_ifret (d := .bool false) ht fun h => by cases h]
  simp only [Bool.false_eq_true, if_false]
theorem s_asg {F : Fns} {n : Nat} {ρ : Ft.Env} {i : Nat} {e : E} {s2 : S} {d : D} (h : evE F e ρ = .ok (d, ρ)) : evS F n (.seq (.asg i e) s2) ρ = evS F n s2 (ρ.set i (.im d)) := by
  rw [evS_seq, evS_asg, h]
  rfl
theorem s_asgF {F : Fns} {n : Nat} {ρ : Ft.Env} {i : Nat} {e : E} {ds : List D} (h : evE F e ρ = .ok (.list ds, ρ)) : evS F n (.asgF i e) ρ = .ok (.nx, ρ.set i (.mu ds)) := by
  rw [evS_asgF, h]
  rfl
theorem ne_str (a : Str) : cmpD .ne (.str a) (.str a) = .ok false := by
  show Except.ok (!(a == a)) = _
  rw [beq_self_eq_true]
  rfl
theorem ne_bool (a : Bool) : cmpD .ne (.bool a) (.bool a) = .ok false := by cases a <;> rfl
theorem eqv_all {xs : List D} (h : ∀ x ∈ xs, PyData.eqv x x = true) : PyData.eqvAll xs xs = true := by
  induction xs with
  | nil => simp [PyData.eqvAll]
  | cons x xs ih =>
    rw [PyData.eqvAll, h x List.mem_cons_self, ih fun y hy => h y (List.mem_cons_of_mem _ hy)]
    rfl
theorem eq_lists {xs : List D} (h1 : SeqAt.shaped (.list xs) = true) (h2 : ∀ x ∈ xs, PyData.eqv x x = true) : eqD (.list xs) (.list xs) = .ok true := by
  unfold eqD
  rw [h1, PyData.eqv, eqv_all h2]
  rfl
theorem ne_lists {xs : List D} (h1 : SeqAt.shaped (.list xs) = true) (h2 : ∀ x ∈ xs, PyData.eqv x x = true) : cmpD .ne (.list xs) (.list xs) = .ok false := by
  show bindR (eqD (.list xs) (.list xs)) _ = _
  rw [eq_lists h1 h2]
  rfl
theorem ne_dN (l : List Nat) : cmpD .ne (.list (dN l)) (.list (dN l)) = .ok false := by
  refine ne_lists (shaped_list (n := 0) (by omega) fun x hx => ?_) fun x hx => ?_
  · obtain ⟨m, _, rfl⟩ := List.mem_map.mp hx
    exact ⟨by simp [PyData.canLay0], by simp [PyData.depth]⟩
  · obtain ⟨m, _, rfl⟩ := List.mem_map.mp hx
    simp [PyData.eqv]
theorem q_slcHi {F : Fns} {ρ : Ft.Env} {a h : E} {d z : D} {k : Int} (ha : evE F a ρ = .ok (d, ρ)) (hh : evE F h ρ = .ok (.int k, ρ)) (hz : slcD none (some k) d = .ok z) : evE F (.slc a .nil (.tr h)) ρ = .ok (z, ρ) := by
  have e1 : evO F .nil ρ = .ok (none, ρ) := rfl
  have e2 : evO F (.tr h) ρ = .ok (some k, ρ) := by
    unfold evO
    rw [hh]
    rfl
  rw [evE_slc, ha, bindR_ok]
  dsimp only
  rw [e1, bindR_ok]
  dsimp only
  rw [e2, bindR_ok]
  dsimp only
  rw [hz, bindC_ok]
theorem q_slcLo {F : Fns} {ρ : Ft.Env} {a h : E} {d z : D} {k : Int} (ha : evE F a ρ = .ok (d, ρ)) (hh : evE F h ρ = .ok (.int k, ρ)) (hz : slcD (some k) none d = .ok z) : evE F (.slc a (.tr h) .nil) ρ = .ok (z, ρ) := by
  have e1 : evO F .nil ρ = .ok (none, ρ) := rfl
  have e2 : evO F (.tr h) ρ = .ok (some k, ρ) := by
    unfold evO
    rw [hh]
    rfl
  rw [evE_slc, ha, bindR_ok]
  dsimp only
  rw [e2, bindR_ok]
  dsimp only
  rw [e1, bindR_ok]
  dsimp only
  rw [hz, bindC_ok]
/-- the turns of a law -/
def Turn (F : Fns) (body : S) (ns : List Int) (P : List Cell → Prop) : Prop := ∀ (l : List Int) (cs : List Cell), P cs → l.length < 600000 → ∃ (l' : List Int) (cs' : List Cell), P cs' ∧ l'.length ≤ l.length + 20000 ∧ evS F FU body (.im (.list (dI ns)) :: .mu (dI l) :: cs) = .ok (.nx, .im (.list (dI ns)) :: .mu (dI l') :: cs')
theorem law_go {F : Fns} {P : List Cell → Prop} {body : S} {j : Nat} (hP : ∀ cs i, P cs → P (cs.set j (.im (.int i)))) {ns : List Int} (turn : Turn F body ns P) :
    ∀ (m : Nat) (i : Int) (l : List Int) (cs : List Cell), P cs → l.length + 20000 * m < 600000 → ∃ ρ', forL (.one (j + 2)) (evS F FU body) (rngL i 1 m) (.im (.list (dI ns)) :: .mu (dI l) :: cs) = .ok (.nx, ρ')
  | 0, _, _, _, _, _ => ⟨_, rfl⟩
  | m + 1, i, l, cs, hc, hl => by
    obtain ⟨l', cs', h1, h2, h3⟩ := turn l (cs.set j (.im (.int i))) (hP cs i hc) (by omega)
    obtain ⟨ρ', ih⟩ := law_go hP turn m (i + 1) l' cs' h1 (by omega)
    refine ⟨ρ', ?_⟩
    show forL _ _ (.int i :: rngL (i + 1) 1 m) _ = _
    unfold forL
    have ht : tgt (.one (j + 2)) (.int i) (.im (.list (dI ns)) :: .mu (dI l) :: cs) = .ok (.im (.list (dI ns)) :: .mu (dI l) :: cs.set j (.im (.int i))) := rfl
    rw [ht, bindC_ok, h3, bindR_ok]
    exact ih
theorem law_fin {F : Fns} {N K : Nat} {P : List Cell → Prop} {body : S} {j : Nat} {b : Def} (hK : K ≤ 29) (hps : b.ps = 1) (hn : b.n = N + 2) (hb : b.b = .seq (.asgF 1 (.lst .nil)) (.seq (.for_ (.one (j + 2)) (.rng1 (.int (K : Int))) body) (.seq (.ret (.bl true)) .skip))) {ns : List Int}
    (hP0 : P (List.replicate N .no)) (hP : ∀ cs i, P cs → P (cs.set j (.im (.int i)))) (turn : Turn F body ns P) : evF F FU b [.list (ns.map .int)] = .ok (.bool true) := by
  obtain ⟨ρ', e⟩ := law_go hP turn K 0 [] (List.replicate N .no) hP0 (by simp; omega)
  refine f_done (by rw [hps]; rfl) (ρ' := ρ') ?_
  rw [hb, hn]
  have hst : startE (N + 2) [.list (ns.map .int)] = .im (.list (dI ns)) :: .no :: List.replicate N .no := by
    show [Cell.im (.list (dI ns))] ++ List.replicate (N + 2 - 1) .no = _
    rw [show N + 2 - 1 = N + 1 by omega, List.replicate_succ]
    rfl
  rw [hst]
  have e1 : evS F FU (.asgF 1 (.lst .nil)) (.im (.list (dI ns)) :: .no :: List.replicate N .no) = .ok (.nx, .im (.list (dI ns)) :: .mu (dI []) :: List.replicate N .no) := rfl
  rw [s_seq e1]
  have hi : evI F (.rng1 (.int (K : Int))) (.im (.list (dI ns)) :: .mu (dI []) :: List.replicate N .no) = .ok (rngL 0 1 K, .im (.list (dI ns)) :: .mu (dI []) :: List.replicate N .no) := by
    rw [evI_rng1, evE_int, bindR_ok]
    have : rngDD (.int 0) (.int (K : Int)) (.int 1) = .ok (rngL 0 1 K) := by
      show rngD 0 (K : Int) 1 = _
      unfold rngD
      rw [if_pos ⟨by decide, by decide, by omega, by omega⟩, if_pos rfl]
      have : ((K : Int) - 0).toNat = K := by omega
      rw [this]
    dsimp only
    rw [this, bindC_ok]
  rw [s_seq (s_for hi e)]
  rfl
def sndD : D → D
  | .tuple [_, y] => y
  | d => d
end FtLaw
/-! MLay: texts that can be laid; smallest sets one by one, plainly -/
namespace FtLaw
open PySem Ft
/-- texts that can be laid -/
def Lay (l : List Str) : Prop := ∀ s ∈ l, PyData.strOk s = true
theorem lay_words {ps : List Str} (h : ∀ s ∈ ps, WordS s) : Lay ps := fun s hs => by
  unfold PyData.strOk
  rw [Array.all_eq_true_iff_forall_mem]
  intro c hc
  have := (h s hs).2.2 c (Array.mem_toList_iff.mpr hc)
  exact decide_eq_true (by omega)
theorem Lay.sub {l m : List Str} (h : Lay m) (hs : ∀ s ∈ l, s ∈ m) : Lay l := fun s q => h s (hs s q)
theorem lay_row {l : List Str} (h : Lay l) : PyData.canLay0 (rowD l) = true ∧ PyData.depth (rowD l) ≤ 1 := by
  obtain ⟨h1, h2⟩ := lay_all (xs := dS l) (n := 0) fun x hx => by
    obtain ⟨s, hs, rfl⟩ := List.mem_map.mp hx
    exact ⟨by simp [PyData.canLay0, h s hs], by simp [PyData.depth]⟩
  exact ⟨by simp only [PyData.canLay0]; exact h1, by simp only [PyData.depth]; omega⟩
theorem shaped_strs {l : List Str} (h : Lay l) : SeqAt.shaped (.list (dS l)) = true := shaped_list (n := 0) (by omega) fun x hx => by
  obtain ⟨s, hs, rfl⟩ := List.mem_map.mp hx
  exact ⟨by simp [PyData.canLay0, h s hs], by simp [PyData.depth]⟩
theorem shaped_rows {l : List (List Str)} (h : ∀ r ∈ l, Lay r) : SeqAt.shaped (.list (l.map rowD)) = true := shaped_list (n := 1) (by omega) fun x hx => by
  obtain ⟨r, hr, rfl⟩ := List.mem_map.mp hx
  exact lay_row (h r hr)
theorem eq_nil {xs : List D} (h : SeqAt.shaped (.list xs) = true) : cmpD .eq (.list xs) (.list []) = .ok xs.isEmpty := by
  have h0 : SeqAt.shaped (.list ([] : List D)) = true := shaped_list (n := 0) (by omega) fun x hx => by cases hx
  show eqD _ _ = _
  unfold eqD
  rw [h, h0]
  cases xs with
  | nil => simp [PyData.eqv, PyData.eqvAll]
  | cons x r => simp [PyData.eqv, PyData.eqvAll]
theorem ne_rows {l : List (List Str)} (h : ∀ r ∈ l, Lay r) : cmpD .ne (.list (l.map rowD)) (.list (l.map rowD)) = .ok false :=
  ne_lists (shaped_rows h) fun x hx => by
    obtain ⟨r, _, rfl⟩ := List.mem_map.mp hx
    have : PyData.eqvAll (dS r) (dS r) = true := eqv_all fun y hy => by
      obtain ⟨s, _, rfl⟩ := List.mem_map.mp hy
      simp [PyData.eqv]
    simp only [PyData.eqv]
    exact this
theorem not_any_empty {α : Type} (p : α → Bool) (l : List α) : (l.filter p).isEmpty = !l.any p := by
  induction l with
  | nil => rfl
  | cons a l ih =>
    rw [List.filter_cons, List.any_cons]
    cases p a <;> simp [ih]
theorem sub_empty (a r : List Str) : ((dS a).filter (notMem r)).isEmpty = subB a r := by
  rw [not_any_empty]
  unfold subB
  induction a with
  | nil => rfl
  | cons x a ih =>
    show (!(notMem r (.str x) || (dS a).any (notMem r))) = (decide (x ∈ r) && _)
    rw [Bool.not_or, ih]
    show (!!decide (x ∈ r) && _) = _
    rw [Bool.not_not]
theorem greedy_sub : ∀ (l acc : List (List Str)), ∀ f ∈ greedy l acc, f ∈ acc ∨ f ∈ l
  | [], acc, f, h => .inl h
  | r :: l, acc, f, h => by
    unfold greedy at h
    split at h
    · rcases greedy_sub l acc f h with q | q
      · exact .inl q
      · exact .inr (List.mem_cons_of_mem _ q)
    · rcases greedy_sub l _ f h with q | q
      · rcases List.mem_append.mp q with q | q
        · exact .inl q
        · rw [List.mem_singleton.mp q]
          exact .inr List.mem_cons_self
      · exact .inr (List.mem_cons_of_mem _ q)
theorem greedy_len : ∀ (l acc : List (List Str)), (greedy l acc).length ≤ acc.length + l.length
  | [], acc => by simp [greedy]
  | r :: l, acc => by
    unfold greedy
    split
    · have := greedy_len l acc
      rw [List.length_cons]
      omega
    · have := greedy_len l (acc ++ [r])
      simp at this ⊢
      omega
def rowIs (B : List Str → Bool) (d : D) : Bool := B (unRow d)
theorem rows_filter (B : List Str → Bool) (l : List (List Str)) : (l.map rowD).filter (rowIs B) = (l.filter B).map rowD := by
  rw [List.filter_map]
  congr 1
  refine List.filter_congr fun r _ => ?_
  show B (unRow (rowD r)) = B r
  rw [unRow_row]
theorem sets_lay {ps : List Str} {gs : List (Int × List D)} (ok : SysOk ps gs) {r : List Str} (h : r.Sublist ps) : Lay r ∧ r.length ≤ 1000 := by
  have := h.length_le
  have := ok.p8
  exact ⟨(lay_words ok.words).sub fun s hs => h.subset hs, by omega⟩
theorem sets_len {ps : List Str} {gs : List (Int × List D)} (ok : SysOk ps gs) : (setsL ps).length ≤ 256 := by
  rw [(sets_perm ps).length_eq, subs_len]
  exact pow_lim ok.p8
theorem greedy_snoc (y : List Str) : ∀ (l acc : List (List Str)), greedy (l ++ [y]) acc = if (greedy l acc).any (fun o => subB o y) then greedy l acc else greedy l acc ++ [y]
  | [], acc => rfl
  | r :: l, acc => by
    rw [List.cons_append]
    unfold greedy
    split
    · exact greedy_snoc y l acc
    · exact greedy_snoc y l _
theorem cat_rows {a b : List Str} (h : a.length + b.length ≤ 1000) : binD .add (rowD a) (rowD b) = .ok (rowD (a ++ b)) := by
  have h1 : (dS a).length = a.length := List.length_map _
  have h2 : (dS b).length = b.length := List.length_map _
  have hL : LIM = 1000000 := rfl
  show (if (dS a).length + (dS b).length ≤ LIM then Except.ok (PyData.tuple (dS a ++ dS b)) else stk) = _
  rw [if_pos (by omega)]
  show _ = Except.ok (PyData.tuple (List.map _ (a ++ b)))
  rw [List.map_append]
/-! ### an empty row -/
theorem greedy_unit : ∀ (l : List (List Str)), greedy l [[]] = [[]]
  | [] => rfl
  | r :: l => by
    unfold greedy
    rw [if_pos (by simp [subB])]
    exact greedy_unit l
theorem greedy_ne {R : List (List Str)} (hs : R.Pairwise fun a b => a.length ≤ b.length) : (∀ r ∈ greedy R [], r ≠ []) ∨ greedy R [] = [[]] := by
  cases R with
  | nil => exact .inl fun r h => by cases h
  | cons a R =>
    by_cases e : a = []
    · subst e
      right
      show (if ([] : List (List Str)).any (fun o => subB o []) then greedy R [] else greedy R ([] ++ [[]])) = _
      rw [if_neg (by simp)]
      exact greedy_unit R
    · left
      intro r hr e2
      rcases greedy_sub _ _ r hr with q | q
      · cases q
      · rcases List.mem_cons.mp q with q | q
        · exact e (by rw [← q, e2])
        · have := (List.pairwise_cons.mp hs).1 r q
          rw [e2] at this
          exact e (List.eq_nil_of_length_eq_zero (Nat.le_zero.mp this))
theorem sorted_rowsE {l : List (List Str)} (h : l.length ≤ LIM) (h1 : (∀ r ∈ l, r ≠ []) ∨ l = [[]]) : primD .sorted (.list (l.map rowD)) = .ok (.list ((sortR l).map rowD)) := by
  rcases h1 with h1 | h1
  · exact sorted_rows h h1
  · subst h1
    have e : sortR [[]] = [[]] := by simp [sortR, unRow]
    rw [e]
    rfl
end FtLaw
/-! FtT: comprehensions and loops over lists that stand for typed ones. -/
namespace Ft
open PySem
section
variable {F : Fns} {ρ : Ft.Env} {α β : Type} {t t2 : Tg} {it it2 c e a : E}
theorem i_lst {xs : List D} (h : evE F a ρ = .ok (.list xs, ρ)) : evI F (.sq a) ρ = .ok (xs, ρ) := by
  rw [evI_sq, h]
  rfl
theorem i_tup {xs : List D} (h : evE F a ρ = .ok (.tuple xs, ρ)) : evI F (.sq a) ρ = .ok (xs, ρ) := by
  rw [evI_sq, h]
  rfl
theorem lcL_T {c' : Ft.Env → R (Bool × Ft.Env)} {e' : Ft.Env → R (D × Ft.Env)} (enc : α → D) (p : α → Bool) (g : α → D) : ∀ {l : List α}, (∀ x ∈ l, ∃ ρ1, tgt t (enc x) ρ = .ok ρ1 ∧ c' ρ1 = .ok (p x, ρ1) ∧ (p x = true → e' ρ1 = .ok (g x, ρ1)) ∧ clr t ρ1 = ρ) → lcL t c' e' (l.map enc) ρ = .ok ((l.filter p).map g, ρ)
  | [], _ => rfl
  | x :: l, h => by
    obtain ⟨ρ1, h1, h2, h3, h4⟩ := h x List.mem_cons_self
    have ih := lcL_T enc p g (l := l) fun y hy => h y (List.mem_cons_of_mem _ hy)
    rw [List.map_cons]
    unfold lcL
    cases hp : p x with
    | true =>
      rw [hp] at h2
      simp [h1, h2, h3 hp, h4, ih, hp]
    | false =>
      rw [hp] at h2
      simp [h1, h2, h4, ih, hp]
theorem q_filterT {l : List α} (enc : α → D) (p : α → Bool) (g : α → D) (hi : evI F it ρ = .ok (l.map enc, ρ)) (hl : l.length < LIM)
    (h : ∀ x ∈ l, ∃ ρ1, tgt t (enc x) (clr t ρ) = .ok ρ1 ∧ evT F c ρ1 = .ok (p x, ρ1) ∧ (p x = true → evE F e ρ1 = .ok (g x, ρ1)) ∧ clr t ρ1 = clr t ρ) (hb : back t ρ (clr t ρ) = ρ) :
    evE F (.lc t it c e) ρ = .ok (.list ((l.filter p).map g), ρ) := by
  have := lcL_T (t := t) (c' := evT F c) (e' := evE F e) (ρ := clr t ρ) enc p g (l := l) h
  rw [evE_lc, hi]
  simp only [bindR_ok]
  rw [if_pos (by rw [List.length_map]; exact hl), this]
  simp only [calmR, bindR_ok, hb]
theorem q_mapT {l : List α} (enc : α → D) (g : α → D) (hi : evI F it ρ = .ok (l.map enc, ρ)) (hl : l.length < LIM)
    (h : ∀ x ∈ l, ∃ ρ1, tgt t (enc x) (clr t ρ) = .ok ρ1 ∧ evE F e ρ1 = .ok (g x, ρ1) ∧ clr t ρ1 = clr t ρ) (hb : back t ρ (clr t ρ) = ρ) :
    evE F (.lc t it .tt e) ρ = .ok (.list (l.map g), ρ) := by
  have := q_filterT (F := F) (ρ := ρ) (t := t) (it := it) (c := .tt) (e := e) enc (fun _ => true) g hi hl (fun x hx => by
    obtain ⟨ρ1, h1, h2, h3⟩ := h x hx
    exact ⟨ρ1, h1, rfl, fun _ => h2, h3⟩) hb
  have ef : l.filter (fun _ => true) = l := List.filter_eq_self.mpr fun _ _ => rfl
  rw [ef] at this
  exact this
theorem bools_map (p : α → Bool) : ∀ l : List α, boolsD (l.map fun x => PyData.bool (p x)) = .ok (l.map p)
  | [] => rfl
  | x :: l => by
    show bindR (boolsD (l.map fun x => PyData.bool (p x))) _ = _
    rw [bools_map p l]
    rfl
theorem q_anyT {l : List α} (enc : α → D) (p : α → Bool) (hi : evI F it ρ = .ok (l.map enc, ρ)) (hl : l.length < LIM)
    (h : ∀ x ∈ l, ∃ ρ1, tgt t (enc x) (clr t ρ) = .ok ρ1 ∧ evE F e ρ1 = .ok (.bool (p x), ρ1) ∧ clr t ρ1 = clr t ρ) (hb : back t ρ (clr t ρ) = ρ) :
    evE F (.prim .any (.lc t it .tt e)) ρ = .ok (.bool (l.any p), ρ) := by
  refine q_prim (qp_of (q_mapT enc (fun x => .bool (p x)) hi hl h hb)) ?_
  rw [primD_any, bools_map, bindR_ok, List.any_map]
  rfl
theorem q_allT {l : List α} (enc : α → D) (p : α → Bool) (hi : evI F it ρ = .ok (l.map enc, ρ)) (hl : l.length < LIM)
    (h : ∀ x ∈ l, ∃ ρ1, tgt t (enc x) (clr t ρ) = .ok ρ1 ∧ evE F e ρ1 = .ok (.bool (p x), ρ1) ∧ clr t ρ1 = clr t ρ) (hb : back t ρ (clr t ρ) = ρ) :
    evE F (.prim .all (.lc t it .tt e)) ρ = .ok (.bool (l.all p), ρ) := by
  refine q_prim (qp_of (q_mapT enc (fun x => .bool (p x)) hi hl h hb)) ?_
  rw [primD_all, bools_map, bindR_ok, List.all_map]
  rfl
/-- over a list of one's own -/
theorem q_filterVT {s : Nat} {l : List α} (enc : α → D) (p : α → Bool) (g : α → D) (hs : ρ[s]? = some (.mu (l.map enc))) (hl : l.length < LIM)
    (h : ∀ x ∈ l, ∃ ρ1, tgt t (enc x) (clr t (ρ.set s .no)) = .ok ρ1 ∧ evT F c ρ1 = .ok (p x, ρ1) ∧ (p x = true → evE F e ρ1 = .ok (g x, ρ1)) ∧ clr t ρ1 = clr t (ρ.set s .no)) (hb : (back t (ρ.set s .no) (clr t (ρ.set s .no))).set s (.mu (l.map enc)) = ρ) :
    evE F (.lcv t s c e) ρ = .ok (.list ((l.filter p).map g), ρ) := by
  have := lcL_T (t := t) (c' := evT F c) (e' := evE F e) (ρ := clr t (ρ.set s .no)) enc p g (l := l) h
  rw [evE_lcv, hs]
  dsimp only
  rw [if_pos (by rw [List.length_map]; exact hl), this]
  simp only [calmR, bindR_ok, hb]
theorem q_anyVT {s : Nat} {l : List α} (enc : α → D) (p : α → Bool) (hs : ρ[s]? = some (.mu (l.map enc))) (hl : l.length < LIM)
    (h : ∀ x ∈ l, ∃ ρ1, tgt t (enc x) (clr t (ρ.set s .no)) = .ok ρ1 ∧ evE F e ρ1 = .ok (.bool (p x), ρ1) ∧ clr t ρ1 = clr t (ρ.set s .no)) (hb : (back t (ρ.set s .no) (clr t (ρ.set s .no))).set s (.mu (l.map enc)) = ρ) :
    evE F (.prim .any (.lcv t s .tt e)) ρ = .ok (.bool (l.any p), ρ) := by
  have := q_filterVT (F := F) (ρ := ρ) (t := t) (c := .tt) (e := e) enc (fun _ => true) (fun x => .bool (p x)) hs hl (fun x hx => by
    obtain ⟨ρ1, h1, h2, h3⟩ := h x hx
    exact ⟨ρ1, h1, rfl, fun _ => h2, h3⟩) hb
  have ef : l.filter (fun _ => true) = l := List.filter_eq_self.mpr fun _ _ => rfl
  rw [ef] at this
  refine q_prim (qp_of this) ?_
  rw [primD_any, bools_map, bindR_ok, List.any_map]
  rfl
/-- two clauses -/
theorem lc2L_T {inner : Ft.Env → R (List D × Ft.Env)} (enc : α → D) (g : α → List D) : ∀ {l : List α}, (∀ x ∈ l, ∃ ρ1 ρ2, tgt t (enc x) ρ = .ok ρ1 ∧ inner ρ1 = .ok (g x, ρ2) ∧ clr t ρ2 = ρ) → lc2L t inner (l.map enc) ρ = .ok (l.flatMap g, ρ)
  | [], _ => rfl
  | x :: l, h => by
    obtain ⟨ρ1, ρ2, h1, h2, h3⟩ := h x List.mem_cons_self
    have ih := lc2L_T (inner := inner) enc g (l := l) fun y hy => h y (List.mem_cons_of_mem _ hy)
    rw [List.map_cons]
    unfold lc2L
    rw [h1, bindC_ok, h2]
    simp only [bindR_ok, h3, ih]
    rw [List.flatMap_cons]
theorem evE_lc2 {x : D × Ft.Env} : evE F (.lc2 t it t2 it2 c e) ρ = bindR (evI F it ρ) fun q => bindR (calmR (lc2L t (fun ρ2 => bindR (evI F it2 ρ2) fun q => lcL t2 (evT F c) (evE F e) q.1 (clr t2 q.2)) q.1 (clr t (clr t2 q.2)))) fun r => if r.1.length < LIM then .ok (.list r.1, back t2 q.2 (back t (clr t2 q.2) r.2)) else stk := by
  rw [evE]
theorem q_lc2T {l : List α} {m : List β} (enc : α → D) (enc2 : β → D) (p : α → β → Bool) (g : α → β → D) (hi : evI F it ρ = .ok (l.map enc, ρ))
    (h : ∀ x ∈ l, ∃ ρ1, tgt t (enc x) (clr t (clr t2 ρ)) = .ok ρ1 ∧ evI F it2 ρ1 = .ok (m.map enc2, ρ1) ∧ (∀ y ∈ m, ∃ ρ2, tgt t2 (enc2 y) (clr t2 ρ1) = .ok ρ2 ∧ evT F c ρ2 = .ok (p x y, ρ2) ∧ (p x y = true → evE F e ρ2 = .ok (g x y, ρ2)) ∧ clr t2 ρ2 = clr t2 ρ1) ∧ clr t (clr t2 ρ1) = clr t (clr t2 ρ))
    (hlen : (l.flatMap fun x => (m.filter (p x)).map (g x)).length < LIM) (hb : back t2 ρ (back t (clr t2 ρ) (clr t (clr t2 ρ))) = ρ) :
    evE F (.lc2 t it t2 it2 c e) ρ = .ok (.list (l.flatMap fun x => (m.filter (p x)).map (g x)), ρ) := by
  rw [evE_lc2 (x := (.none, ρ)), hi]
  simp only [bindR_ok]
  rw [lc2L_T (t := t) (ρ := clr t (clr t2 ρ)) enc (fun x => (m.filter (p x)).map (g x)) fun x hx => by
    obtain ⟨ρ1, h1, h2, h3, h4⟩ := h x hx
    refine ⟨ρ1, clr t2 ρ1, h1, ?_, h4⟩
    rw [h2]
    simp only [bindR_ok]
    exact lcL_T enc2 (p x) (g x) h3]
  simp only [calmR, bindR_ok]
  rw [if_pos hlen, hb]
/-- loops -/
theorem forT {b : Ft.Env → R (Res × Ft.Env)} (enc : α → D) (I : β → Ft.Env → Prop) (step : β → α → β) : ∀ (l : List α), (∀ x, ∀ y ∈ l, ∀ ρ, I x ρ → ∃ ρ1 ρ2, tgt t (enc y) ρ = .ok ρ1 ∧ b ρ1 = .ok (.nx, ρ2) ∧ I (step x y) ρ2) → ∀ (x : β) (ρ : Ft.Env), I x ρ → ∃ ρ', forL t b (l.map enc) ρ = .ok (.nx, ρ') ∧ I (l.foldl step x) ρ'
  | [], _, x, ρ, h => ⟨ρ, rfl, h⟩
  | y :: l, hs, x, ρ, h => by
    obtain ⟨ρ1, ρ2, h1, h2, h3⟩ := hs x y List.mem_cons_self ρ h
    obtain ⟨ρ', h4, h5⟩ := forT enc I step l (fun x z hz => hs x z (List.mem_cons_of_mem _ hz)) (step x y) ρ2 h3
    refine ⟨ρ', ?_, h5⟩
    rw [List.map_cons]
    unfold forL
    rw [h1]
    simp only [bindC_ok]
    rw [h2]
    exact h4
/-- a loop, by what has been gone through -/
theorem forP {b : Ft.Env → R (Res × Ft.Env)} (enc : α → D) (J : List α → Ft.Env → Prop) (l : List α) (hs : ∀ pre y post, l = pre ++ y :: post → ∀ ρ, J pre ρ → ∃ ρ1 ρ2, tgt t (enc y) ρ = .ok ρ1 ∧ b ρ1 = .ok (.nx, ρ2) ∧ J (pre ++ [y]) ρ2) (ρ : Ft.Env) (h : J [] ρ) : ∃ ρ', forL t b (l.map enc) ρ = .ok (.nx, ρ') ∧ J l ρ' := by
  have key : ∀ (post pre : List α) (ρ : Ft.Env), l = pre ++ post → J pre ρ → ∃ ρ', forL t b (post.map enc) ρ = .ok (.nx, ρ') ∧ J l ρ' := by
    intro post
    induction post with
    | nil =>
      intro pre ρ e h
      rw [List.append_nil] at e
      subst e
      exact ⟨ρ, rfl, h⟩
    | cons y post ih =>
      intro pre ρ e h
      obtain ⟨ρ1, ρ2, h1, h2, h3⟩ := hs pre y post e ρ h
      obtain ⟨ρ', h4, h5⟩ := ih (pre ++ [y]) ρ2 (by rw [e, List.append_assoc]; rfl) h3
      refine ⟨ρ', ?_, h5⟩
      rw [List.map_cons]
      unfold forL
      rw [h1]
      simp only [bindC_ok]
      rw [h2]
      exact h4
  exact key l [] ρ rfl h
def resO : Option D → Res
  | some d => .rt d
  | none => .nx
/-- a loop that may return -/
theorem forO {b : Ft.Env → R (Res × Ft.Env)} (enc : α → D) (I : Ft.Env → Prop) (r : α → Option D) : ∀ (l : List α), (∀ y ∈ l, ∀ ρ, I ρ → ∃ ρ1 ρ2, tgt t (enc y) ρ = .ok ρ1 ∧ b ρ1 = .ok (resO (r y), ρ2) ∧ I ρ2) → ∀ (ρ : Ft.Env), I ρ → ∃ ρ', forL t b (l.map enc) ρ = .ok (resO (l.findSome? r), ρ') ∧ I ρ'
  | [], _, ρ, h => ⟨ρ, rfl, h⟩
  | y :: l, hs, ρ, h => by
    obtain ⟨ρ1, ρ2, h1, h2, h3⟩ := hs y List.mem_cons_self ρ h
    rw [List.map_cons, List.findSome?_cons]
    unfold forL
    rw [h1]
    simp only [bindC_ok]
    rw [h2]
    cases hr : r y with
    | some d => exact ⟨ρ2, rfl, h3⟩
    | none => exact forO enc I r l (fun z hz => hs z (List.mem_cons_of_mem _ hz)) ρ2 h3
theorem s_forR {n : Nat} {ρ1 ρ' : Ft.Env} {b : S} {xs : List D} {r : Res} (hi : evI F it ρ = .ok (xs, ρ1)) (h : forL t (evS F n b) xs ρ1 = .ok (r, ρ')) : evS F n (.for_ t it b) ρ = .ok (r, ρ') := by
  rw [evS_for, hi]
  exact h
theorem s_ext {n s : Nat} {ds xs : List D} (hs : ρ[s]? = some (.mu ds)) (he : evE F e ρ = .ok (.list xs, ρ)) (hl : ds.length + xs.length < LIM) : evS F n (.ext s e) ρ = .ok (.nx, ρ.set s (.mu (ds ++ xs))) := by
  have hq : lstAt ρ s = .ok (ds, .mu) := by unfold lstAt; rw [hs]
  rw [evS, hq]
  simp only [bindC_ok]
  rw [he]
  simp only [bindR_ok]
  show bindC (.ok xs) _ = _
  simp only [bindC_ok]
  rw [hq]
  simp only [bindC_ok]
  rw [if_pos hl]
theorem s_app {n s : Nat} {ds : List D} {d : D} (hs : ρ[s]? = some (.mu ds)) (he : evE F e ρ = .ok (d, ρ)) (hl : ds.length < LIM) : evS F n (.app s e) ρ = .ok (.nx, ρ.set s (.mu (ds ++ [d]))) := by
  have hq : lstAt ρ s = .ok (ds, .mu) := by unfold lstAt; rw [hs]
  rw [evS, hq]
  simp only [bindC_ok]
  rw [he]
  simp only [bindR_ok]
  rw [hq]
  simp only [bindC_ok]
  rw [if_pos hl]
theorem q_callS {f : Str} {i : Nat} {b : E} {ss ss' : List D} {mk : List D → Cell} {a0 d : D} {ds : List D} (h0 : lstAt ρ i = .ok (ss, mk)) (ha : evE F a ρ = .ok (a0, ρ)) (hb : evA F b ρ = .ok (ds, ρ)) (hg : F.g f (a0 :: ds) ss = .ok (d, ss')) : evE F (.callS f i a b) ρ = .ok (d, ρ.set i (mk ss')) := by
  rw [evE_callS, h0, bindC_ok, ha, bindR_ok]
  dsimp only
  rw [hb, bindR_ok]
  dsimp only
  rw [h0, bindC_ok]
  dsimp only
  rw [hg, bindC_ok]
theorem s_asgS {n i : Nat} {ρ' : Ft.Env} {d : D} (h : evE F e ρ = .ok (d, ρ')) : evS F n (.asg i e) ρ = .ok (.nx, ρ'.set i (.im d)) := by
  rw [evS_asg, h]
  rfl
theorem s_unpS {n i j : Nat} {ρ' : Ft.Env} {x y : D} (h : evE F e ρ = .ok (.tuple [x, y], ρ')) : evS F n (.unp i j e) ρ = .ok (.nx, (ρ'.set i (.im x)).set j (.im y)) := by
  rw [evS, h]
  rfl
theorem s_par2 {n i j : Nat} {b : E} {x y : D} (ha : evE F a ρ = .ok (x, ρ)) (hb : evE F b ρ = .ok (y, ρ)) : evS F n (.par2 i j false false a b) ρ = .ok (.nx, (ρ.set i (.im x)).set j (.im y)) := by
  rw [evS, ha, bindR_ok]
  dsimp only
  show bindC (.ok _) _ = _
  rw [bindC_ok, hb, bindR_ok]
  rfl
theorem s_raise {n : Nat} {x : Str} {s2 : S} : evS F n (.seq (.raise x) s2) ρ = .error (.exc x) := rfl
/-- if t: raise x -/
theorem s_rsT {n : Nat} {s2 : S} {x : Str} (ht : evT F c ρ = .ok (true, ρ)) : evS F n (.seq (.ite c (.seq (.raise x) .skip) .skip) s2) ρ = .error (.exc x) := by
  rw [evS_seq, evS_ite, ht]
  rfl
theorem s_rsF {n : Nat} {s2 s3 : S} (ht : evT F c ρ = .ok (false, ρ)) : evS F n (.seq (.ite c s3 .skip) s2) ρ = evS F n s2 ρ := by
  rw [evS_seq, evS_ite, ht]
  rfl
/-- a def that raises -/
theorem f_exc {n : Nat} {d0 : Def} {ds : List D} {x : Str} (hl : ds.length = d0.ps) (h : evS F n d0.b (startE d0.n ds) = .error (.exc x)) : evF F n d0 ds = .error (.exc x) := by
  rw [evF_of hl, h]
  rfl
theorem i_exc {x : Str} (h : evE F a ρ = .error (.exc x)) : evI F (.sq a) ρ = .error (.exc x) := by
  rw [evI_sq, h]
  rfl
theorem s_forX {n : Nat} {b s2 : S} {x : Str} (hi : evI F it ρ = .error (.exc x)) : evS F n (.seq (.for_ t it b) s2) ρ = .error (.exc x) := by
  rw [evS_seq, evS_for, hi]
  rfl
theorem s_asgX {n i : Nat} {s2 : S} {x : Str} (h : evE F e ρ = .error (.exc x)) : evS F n (.seq (.asg i e) s2) ρ = .error (.exc x) := by
  rw [evS_seq, evS_asg, h]
  rfl
theorem s_retX {n : Nat} {s2 : S} {x : Str} (h : evE F e ρ = .error (.exc x)) : evS F n (.seq (.ret e) s2) ρ = .error (.exc x) := by
  rw [evS_seq, evS_ret, h]
  rfl
/-- a later argument that raises -/
theorem q_consX1 {b : E} {x : Str} (ha : evE F a ρ = .error (.exc x)) : evA F (.cons a b) ρ = .error (.exc x) := by
  rw [evA_cons, ha]
  rfl
theorem q_consX {b : E} {d : D} {x : Str} (ha : evE F a ρ = .ok (d, ρ)) (hb : evA F b ρ = .error (.exc x)) : evA F (.cons a b) ρ = .error (.exc x) := by
  rw [evA_cons, ha, bindR_ok]
  dsimp only
  rw [hb]
  rfl
theorem q_callX {f : Str} {x : Str} (ha : evA F a ρ = .error (.exc x)) : evE F (.call f a) ρ = .error (.exc x) := by
  rw [evE_call, ha]
  rfl
theorem s_ite {n : Nat} {s1 s2 : S} {x : Bool} (ht : evT F c ρ = .ok (x, ρ)) : evS F n (.ite c s1 s2) ρ = if x then evS F n s1 ρ else evS F n s2 ρ := by
  rw [evS_ite, ht]
  rfl
end
end Ft
/-! MChoiceP: rows in order, choices plainly. -/
namespace FtLaw
open PySem Ft
abbrev Asc (l : List Str) : Prop := l.Pairwise fun a b => strLt a b = true
theorem strLt_irr (a : Str) : strLt a a = false := by
  unfold strLt
  exact decide_eq_false (List.lt_irrefl _)
theorem strLt_ne {a b : Str} (h : strLt a b = true) : a ≠ b := fun e => by
  rw [e, strLt_irr] at h
  cases h
theorem strLt_asym {a b : Str} (h : strLt a b = true) : strLt b a = false := by
  cases h2 : strLt b a with
  | false => rfl
  | true =>
    have := strLt_trans h h2
    rw [strLt_irr] at this
    cases this
/-- the order of rows -/
def lexS : List Str → List Str → Bool
  | _, [] => false
  | [], _ :: _ => true
  | a :: as, b :: bs => if a = b then lexS as bs else strLt a b
theorem lexS_cons (a b : Str) (as bs : List Str) : lexS (a :: as) (b :: bs) = if a = b then lexS as bs else strLt a b := rfl
theorem lexS_nil (a : List Str) : lexS a [] = false := by cases a <;> rfl
theorem nodup_len {α : Type} [DecidableEq α] : ∀ {l m : List α}, l.Nodup → (∀ x ∈ l, x ∈ m) → l.length ≤ m.length
  | [], _, _, _ => Nat.zero_le _
  | a :: l, m, h, hs => by
    rw [List.nodup_cons] at h
    have ha := hs a List.mem_cons_self
    have ih := nodup_len (m := m.erase a) h.2 fun x hx => (List.mem_erase_of_ne (fun e => h.1 (by rw [← e]; exact hx))).mpr (hs x (List.mem_cons_of_mem _ hx))
    rw [List.length_erase_of_mem ha] at ih
    have : 0 < m.length := List.length_pos_of_mem ha
    rw [List.length_cons]
    omega
theorem lexS_irr : ∀ a : List Str, lexS a a = false
  | [] => rfl
  | x :: a => by
    rw [lexS_cons, if_pos rfl]
    exact lexS_irr a
theorem lexS_app : ∀ {a b : List Str} (x y : List Str), a.length = b.length → lexS a b = true → lexS (a ++ x) (b ++ y) = true
  | [], [], _, _, _, h => by cases h
  | [], _ :: _, _, _, h, _ => by cases h
  | _ :: _, [], _, _, h, _ => by cases h
  | p :: a, q :: b, x, y, hl, h => by
    rw [lexS_cons] at h
    show (if p = q then lexS (a ++ x) (b ++ y) else strLt p q) = true
    by_cases e : p = q
    · rw [if_pos e] at h ⊢
      exact lexS_app x y (by simpa using hl) h
    · rw [if_neg e] at h ⊢
      exact h
theorem lexS_pre : ∀ (a x y : List Str), lexS (a ++ x) (a ++ y) = lexS x y
  | [], _, _ => rfl
  | p :: a, x, y => by
    show (if p = p then lexS (a ++ x) (a ++ y) else strLt p p) = _
    rw [if_pos rfl]
    exact lexS_pre a x y
theorem dataLt_rows : ∀ a b : List Str, PySem.W.dataLt (rowD a) (rowD b) = lexS a b := by
  have key : ∀ a b : List Str, PyProof.Rows.lexLt PyProof.Rows.itemOrd (PySem.W.keyToksAll (dS a)) (PySem.W.keyToksAll (dS b)) = lexS a b := by
    intro a
    induction a with
    | nil =>
      intro b
      cases b with
      | nil => exact PyProof.Rows.lex_irrefl _
      | cons y b =>
        show PyProof.Rows.lexLt PyProof.Rows.itemOrd (PySem.W.keyToksAll []) (PySem.W.keyToksAll (.str y :: dS b)) = true
        rw [PySem.W.toks_all_cons]
        simp [PySem.W.keyToksAll, PySem.W.keyToks, PyProof.Rows.lexLt]
        exact .inl rfl
    | cons x a ih =>
      intro b
      cases b with
      | nil =>
        show PyProof.Rows.lexLt PyProof.Rows.itemOrd (PySem.W.keyToksAll (.str x :: dS a)) (PySem.W.keyToksAll []) = false
        rw [PySem.W.toks_all_cons]
        simp [PySem.W.keyToksAll, PySem.W.keyToks, PyProof.Rows.lexLt]
        rfl
      | cons y b =>
        show PyProof.Rows.lexLt PyProof.Rows.itemOrd (PySem.W.keyToksAll (.str x :: dS a)) (PySem.W.keyToksAll (.str y :: dS b)) = _
        rw [PySem.W.dataLt_cons (by simp [PySem.W.alike]), ih b, PySem.W.dataLt_str, lexS_cons]
        by_cases e : x = y
        · subst e
          rw [if_pos (by simp [PyData.eqv]), if_pos rfl]
        · rw [if_neg (by simp [PyData.eqv, e]), if_neg e]
          rfl
  intro a b
  rw [PySem.W.dataLt_tuple]
  exact key a b
theorem le_rows (a b : List Str) : PySem.W.dataLe false id (rowD a) (rowD b) = !lexS b a := by
  show (!PySem.W.dataLt (rowD b) (rowD a)) = _
  rw [dataLt_rows]
theorem le_pairs (a b : List Str) : PySem.W.dataLe false id (pairD a) (pairD b) = !(if a.length = b.length then lexS b a else decide (b.length < a.length)) := by
  show (!PySem.W.dataLt (pairD b) (pairD a)) = _
  unfold pairD
  rw [PySem.W.dataLt_pair (by simp [PySem.W.alike]) (by simp [PySem.W.alike, alike_dS]), dataLt_rows, PySem.W.dataLt_int]
  congr 1
  by_cases e : a.length = b.length
  · rw [if_pos (by simp [PyData.eqv, e]), if_pos e]
    split
    · rename_i h
      have : b = a := by
        have h : PyData.eqvAll (dS b) (dS a) = true := by simpa [PyData.eqv] using h
        have key : ∀ x y : List Str, PyData.eqvAll (dS x) (dS y) = true → x = y := by
          intro x
          induction x with
          | nil => intro y h; cases y with
            | nil => rfl
            | cons _ _ => simp [PyData.eqvAll] at h
          | cons p x ih => intro y h; cases y with
            | nil => simp [PyData.eqvAll] at h
            | cons q y =>
              simp [PyData.eqvAll, PyData.eqv] at h
              rw [h.1, ih y h.2]
        exact key b a h
      rw [this, lexS_irr]
    · rfl
  · rw [if_neg (by simp [PyData.eqv]; omega), if_neg e]
    congr 1
    exact propext ⟨fun h => by omega, fun h => by omega⟩
theorem lexS_trans : ∀ {a b c : List Str}, lexS a b = true → lexS b c = true → lexS a c = true
  | a, [], _, h, _ => by
    rw [lexS_nil] at h
    cases h
  | _, _ :: _, [], _, h => by cases h
  | [], _ :: _, _ :: _, _, _ => rfl
  | x :: a, y :: b, z :: c, h1, h2 => by
    rw [lexS_cons] at h1 h2 ⊢
    by_cases e1 : x = y
    · subst e1
      rw [if_pos rfl] at h1
      by_cases e2 : x = z
      · rw [if_pos e2] at h2 ⊢
        exact lexS_trans h1 h2
      · rw [if_neg e2] at h2 ⊢
        exact h2
    · rw [if_neg e1] at h1
      by_cases e2 : y = z
      · subst e2
        rw [if_neg e1]
        exact h1
      · rw [if_neg e2] at h2
        have h3 := strLt_trans h1 h2
        rw [if_neg (strLt_ne h3)]
        exact h3
/-- two lists in strict order with the same members -/
theorem lex_unique : ∀ {l m : List (List Str)}, l.Pairwise (fun a b => lexS a b = true) → m.Pairwise (fun a b => lexS a b = true) → (∀ r, r ∈ l ↔ r ∈ m) → l = m
  | [], [], _, _, _ => rfl
  | [], b :: m, _, _, h => by
    have := (h b).mpr List.mem_cons_self
    cases this
  | a :: l, [], _, _, h => by
    have := (h a).mp List.mem_cons_self
    cases this
  | a :: l, b :: m, h1, h2, h => by
    rw [List.pairwise_cons] at h1 h2
    have e : a = b := by
      rcases List.mem_cons.mp ((h a).mp List.mem_cons_self) with q | q
      · exact q
      · rcases List.mem_cons.mp ((h b).mpr List.mem_cons_self) with q' | q'
        · exact q'.symm
        · have := lexS_trans (h1.1 b q') (h2.1 a q)
          rw [lexS_irr] at this
          cases this
    subst e
    congr 1
    refine lex_unique h1.2 h2.2 fun r => ⟨fun hr => ?_, fun hr => ?_⟩
    · rcases List.mem_cons.mp ((h r).mp (List.mem_cons_of_mem _ hr)) with q | q
      · subst q
        have := h1.1 r hr
        rw [lexS_irr] at this
        cases this
      · exact q
    · rcases List.mem_cons.mp ((h r).mpr (List.mem_cons_of_mem _ hr)) with q | q
      · subst q
        have := h2.1 r hr
        rw [lexS_irr] at this
        cases this
      · exact q
/-! ### choices -/
def chcB (r : List Str) (p : Str) : Bool := match r.getLast? with
  | none => true
  | some q => strLt q p
def chL (ps : List Str) : Nat → List (List Str)
  | 0 => [[]]
  | k + 1 => (chL ps k).flatMap fun r => (ps.filter (chcB r)).map fun p => r ++ [p]
theorem asc_snoc {r : List Str} {p : Str} (h : Asc r) : Asc (r ++ [p]) ↔ chcB r p = true := by
  unfold Asc
  rw [List.pairwise_append]
  constructor
  · rintro ⟨_, _, h3⟩
    unfold chcB
    cases hq : r.getLast? with
    | none => rfl
    | some q => exact h3 q (List.mem_of_getLast? hq) p List.mem_cons_self
  · intro hb
    refine ⟨h, List.pairwise_singleton _ _, fun a ha b hb' => ?_⟩
    rw [List.mem_singleton.mp hb']
    unfold chcB at hb
    cases hq : r.getLast? with
    | none =>
      rw [List.getLast?_eq_none_iff] at hq
      rw [hq] at ha
      cases ha
    | some q =>
      rw [hq] at hb
      obtain ⟨r', rfl⟩ := List.getLast?_eq_some_iff.mp hq
      rcases List.mem_append.mp ha with q1 | q1
      · exact strLt_trans ((List.pairwise_append.mp h).2.2 a q1 q List.mem_cons_self) hb
      · rw [List.mem_singleton.mp q1]
        exact hb
theorem mem_chL {ps : List Str} : ∀ {k : Nat} {r : List Str}, r ∈ chL ps k ↔ Asc r ∧ (∀ s ∈ r, s ∈ ps) ∧ r.length = k
  | 0, r => by
    unfold chL
    rw [List.mem_singleton]
    constructor
    · rintro rfl
      exact ⟨List.Pairwise.nil, (fun _ h => by cases h), rfl⟩
    · rintro ⟨_, _, h⟩
      exact List.eq_nil_of_length_eq_zero h
  | k + 1, r => by
    unfold chL
    rw [List.mem_flatMap]
    constructor
    · rintro ⟨r0, h0, hr⟩
      obtain ⟨p, hp, rfl⟩ := List.mem_map.mp hr
      obtain ⟨h1, h2, h3⟩ := mem_chL.mp h0
      obtain ⟨h4, h5⟩ := List.mem_filter.mp hp
      refine ⟨(asc_snoc h1).mpr h5, fun s hs => ?_, by simp [h3]⟩
      rcases List.mem_append.mp hs with q | q
      · exact h2 s q
      · rw [List.mem_singleton.mp q]
        exact h4
    · rintro ⟨h1, h2, h3⟩
      have hne : r ≠ [] := fun e => by rw [e] at h3; cases h3
      obtain ⟨r0, p, rfl⟩ : ∃ r0 p, r = r0 ++ [p] := ⟨r.dropLast, r.getLast hne, (List.dropLast_concat_getLast hne).symm⟩
      have h0 : Asc r0 := (List.pairwise_append.mp h1).1
      refine ⟨r0, mem_chL.mpr ⟨h0, fun s hs => h2 s (List.mem_append_left _ hs), by simpa using h3⟩, List.mem_map.mpr ⟨p, List.mem_filter.mpr ⟨h2 p (List.mem_append_right _ List.mem_cons_self), (asc_snoc h0).mp h1⟩, rfl⟩⟩
theorem chL_pw {ps : List Str} (h : Asc ps) : ∀ k, (chL ps k).Pairwise fun a b => lexS a b = true
  | 0 => List.pairwise_singleton _ _
  | k + 1 => by
    unfold chL
    rw [List.pairwise_flatMap]
    refine ⟨fun r hr => ?_, ?_⟩
    · rw [List.pairwise_map]
      refine (h.sublist List.filter_sublist).imp fun {a b} hab => ?_
      rw [lexS_pre, lexS_cons, if_neg (strLt_ne hab)]
      exact hab
    · refine (chL_pw h k).imp_of_mem fun {a b} ha hb hab x hx y hy => ?_
      obtain ⟨p, _, rfl⟩ := List.mem_map.mp hx
      obtain ⟨q, _, rfl⟩ := List.mem_map.mp hy
      exact lexS_app _ _ (by rw [(mem_chL.mp ha).2.2, (mem_chL.mp hb).2.2]) hab
theorem asc_sub {ps : List Str} : ∀ {r : List Str}, Asc ps → (r.Sublist ps ↔ Asc r ∧ ∀ s ∈ r, s ∈ ps) := by
  intro r hp
  refine ⟨fun h => ⟨hp.sublist h, fun s hs => h.subset hs⟩, ?_⟩
  induction ps generalizing r with
  | nil =>
    rintro ⟨_, h⟩
    cases r with
    | nil => exact List.Sublist.refl _
    | cons a r => cases h a List.mem_cons_self
  | cons p ps ih =>
    rintro ⟨h1, h2⟩
    unfold Asc at hp h1
    rw [List.pairwise_cons] at hp
    cases r with
    | nil => exact List.nil_sublist _
    | cons a r =>
      rw [List.pairwise_cons] at h1
      rcases List.mem_cons.mp (h2 a List.mem_cons_self) with e | e
      · subst e
        refine List.Sublist.cons_cons a (ih hp.2 ⟨h1.2, fun s hs => ?_⟩)
        rcases List.mem_cons.mp (h2 s (List.mem_cons_of_mem _ hs)) with q | q
        · have := h1.1 s hs
          rw [q, strLt_irr] at this
          cases this
        · exact q
      · refine List.Sublist.cons p (ih hp.2 ⟨List.pairwise_cons.mpr h1, fun s hs => ?_⟩)
        rcases List.mem_cons.mp (h2 s hs) with q | q
        · subst q
          rcases List.mem_cons.mp hs with q2 | q2
          · rw [q2]
            exact e
          · have := strLt_trans (hp.1 a e) (h1.1 s q2)
            rw [strLt_irr] at this
            cases this
        · exact q
theorem mem_ch {ps : List Str} (h : Asc ps) {k : Nat} {r : List Str} : r ∈ chL ps k ↔ r.Sublist ps ∧ r.length = k := by
  rw [mem_chL, asc_sub h, and_assoc]
theorem asc_nodup {ps : List Str} (h : Asc ps) : ps.Nodup := h.imp fun hab => strLt_ne hab
theorem lex_nodup {l : List (List Str)} (h : l.Pairwise fun a b => lexS a b = true) : l.Nodup := h.imp fun {a b} hab e => by
  rw [e, lexS_irr] at hab
  cases hab
theorem chL_len {ps : List Str} (h : Asc ps) (h8 : ps.length ≤ 8) (k : Nat) : (chL ps k).length ≤ 256 := by
  have h1 : (chL ps k).length ≤ (subs ps).length := nodup_len (lex_nodup (chL_pw h k)) fun r hr => mem_subs.mpr ((mem_ch h).mp hr).1
  rw [subs_len] at h1
  have := pow_lim h8
  omega
/-- sets by size, in order -/
theorem sets_lex (ps : List Str) : (setsL ps).Pairwise fun a b => a.length ≤ b.length ∧ (a.length = b.length → lexS b a = false) := by
  have h := sort_pw ((subs ps).map pairD)
  rw [sets_pairs, List.pairwise_map] at h
  refine h.imp fun {a b} hab => ?_
  have hab : PySem.W.dataLe false id (pairD a) (pairD b) = true := hab
  rw [le_pairs] at hab
  by_cases e : a.length = b.length
  · rw [if_pos e, Bool.not_eq_true'] at hab
    exact ⟨by omega, fun _ => hab⟩
  · rw [if_neg e, Bool.not_eq_true', decide_eq_false_iff_not] at hab
    exact ⟨by omega, fun q => absurd q e⟩
end FtLaw
/-! MExplP: explanations, plainly. -/
namespace FtLaw
open PySem Ft
/-- all explanations, the ones with fewer parts first -/
def exL (us : List Str) (B : List Str → Bool) : List (List Str) := (List.range (us.length + 1)).flatMap fun k => (chL us k).filter B
theorem mem_exL {us : List Str} (h : Asc us) {B : List Str → Bool} {r : List Str} : r ∈ exL us B ↔ r.Sublist us ∧ B r = true := by
  unfold exL
  rw [List.mem_flatMap]
  constructor
  · rintro ⟨k, _, hr⟩
    obtain ⟨h1, h2⟩ := List.mem_filter.mp hr
    exact ⟨((mem_ch h).mp h1).1, h2⟩
  · rintro ⟨h1, h2⟩
    have := h1.length_le
    exact ⟨r.length, List.mem_range.mpr (by omega), List.mem_filter.mpr ⟨(mem_ch h).mpr ⟨h1, rfl⟩, h2⟩⟩
/-- by size, then in order -/
def sizeLt (a b : List Str) : Prop := a.length < b.length ∨ (a.length = b.length ∧ lexS a b = true)
theorem exL_pw {us : List Str} (h : Asc us) (B : List Str → Bool) : (exL us B).Pairwise sizeLt := by
  unfold exL
  rw [List.pairwise_flatMap]
  refine ⟨fun k _ => ?_, ?_⟩
  · refine ((chL_pw h k).sublist List.filter_sublist).imp_of_mem fun {a b} ha hb hab => ?_
    exact .inr ⟨by rw [(mem_chL.mp (List.mem_filter.mp ha).1).2.2, (mem_chL.mp (List.mem_filter.mp hb).1).2.2], hab⟩
  · refine List.pairwise_lt_range.imp fun {i j} hij x hx y hy => ?_
    left
    rw [(mem_chL.mp (List.mem_filter.mp hx).1).2.2, (mem_chL.mp (List.mem_filter.mp hy).1).2.2]
    exact hij
theorem sizeLt_irr (a : List Str) : ¬ sizeLt a a := fun h => by
  rcases h with h | ⟨_, h⟩
  · omega
  · rw [lexS_irr] at h
    cases h
theorem sizeLt_trans {a b c : List Str} (h1 : sizeLt a b) (h2 : sizeLt b c) : sizeLt a c := by
  rcases h1 with h1 | ⟨e1, h1⟩ <;> rcases h2 with h2 | ⟨e2, h2⟩
  · exact .inl (by omega)
  · exact .inl (by omega)
  · exact .inl (by omega)
  · exact .inr ⟨by omega, lexS_trans h1 h2⟩
theorem lexS_tri : ∀ {a b : List Str}, lexS a b = false → lexS b a = false → a = b
  | [], [], _, _ => rfl
  | [], _ :: _, h, _ => by cases h
  | _ :: _, [], _, h => by cases h
  | x :: a, y :: b, h1, h2 => by
    rw [lexS_cons] at h1 h2
    by_cases e : x = y
    · subst e
      rw [if_pos rfl] at h1 h2
      rw [lexS_tri h1 h2]
    · rw [if_neg e] at h1
      rw [if_neg (fun q => e q.symm)] at h2
      exact absurd (strLt_tri h1 h2) e
theorem subsA_nodup : ∀ (l : List Str) (acc : List (List Str)), l.Nodup → acc.Nodup → (∀ a ∈ acc, ∀ p ∈ l, p ∉ a) → (subsA l acc).Nodup
  | [], _, _, h, _ => h
  | p :: l, acc, hl, h, hd => by
    rw [List.nodup_cons] at hl
    unfold subsA
    refine subsA_nodup l _ hl.2 (List.nodup_append.mpr ⟨h, ?_, fun a ha b hb e => ?_⟩) fun a ha q hq => ?_
    · refine List.Pairwise.map _ (fun a b (hab : a ≠ b) e => hab ?_) h
      exact List.append_cancel_right e
    · obtain ⟨c, hc, rfl⟩ := List.mem_map.mp hb
      exact hd a ha p List.mem_cons_self (by rw [e]; simp)
    · rcases List.mem_append.mp ha with ha | ha
      · exact hd a ha q (List.mem_cons_of_mem _ hq)
      · obtain ⟨c, hc, rfl⟩ := List.mem_map.mp ha
        intro hm
        rcases List.mem_append.mp hm with hm | hm
        · exact hd c hc q (List.mem_cons_of_mem _ hq) hm
        · rw [List.mem_singleton.mp hm] at hq
          exact hl.1 hq
theorem subs_nodup {us : List Str} (h : us.Nodup) : (subs us).Nodup := subsA_nodup us [[]] h (List.nodup_cons.mpr ⟨by simp, List.nodup_nil⟩) fun a ha p _ hp => by
  rw [List.mem_singleton.mp ha] at hp
  cases hp
theorem sets_pw {us : List Str} (hn : us.Nodup) : (setsL us).Pairwise sizeLt := by
  have h := sets_lex us
  have hd : (setsL us).Nodup := (sets_perm us).nodup_iff.mpr (subs_nodup hn)
  have := h.and hd
  refine this.imp fun {a b} ⟨⟨h1, h2⟩, h3⟩ => ?_
  by_cases e : a.length = b.length
  · right
    refine ⟨e, ?_⟩
    cases hl : lexS a b with
    | true => rfl
    | false => exact absurd (lexS_tri hl (h2 e)) h3
  · exact .inl (by omega)
theorem size_unique : ∀ {l m : List (List Str)}, l.Pairwise sizeLt → m.Pairwise sizeLt → (∀ r, r ∈ l ↔ r ∈ m) → l = m
  | [], [], _, _, _ => rfl
  | [], b :: m, _, _, h => by
    have := (h b).mpr List.mem_cons_self
    cases this
  | a :: l, [], _, _, h => by
    have := (h a).mp List.mem_cons_self
    cases this
  | a :: l, b :: m, h1, h2, h => by
    rw [List.pairwise_cons] at h1 h2
    have e : a = b := by
      rcases List.mem_cons.mp ((h a).mp List.mem_cons_self) with q | q
      · exact q
      · rcases List.mem_cons.mp ((h b).mpr List.mem_cons_self) with q' | q'
        · exact q'.symm
        · exact absurd (sizeLt_trans (h1.1 b q') (h2.1 a q)) (sizeLt_irr _)
    subst e
    congr 1
    refine size_unique h1.2 h2.2 fun r => ⟨fun hr => ?_, fun hr => ?_⟩
    · rcases List.mem_cons.mp ((h r).mp (List.mem_cons_of_mem _ hr)) with q | q
      · subst q
        exact absurd (h1.1 r hr) (sizeLt_irr _)
      · exact q
    · rcases List.mem_cons.mp ((h r).mpr (List.mem_cons_of_mem _ hr)) with q | q
      · subst q
        exact absurd (h2.1 r hr) (sizeLt_irr _)
      · exact q
theorem ex_sets {us : List Str} (h : Asc us) (B : List Str → Bool) : exL us B = (setsL us).filter B := by
  refine size_unique (exL_pw h B) ((sets_pw (asc_nodup h)).sublist List.filter_sublist) fun r => ?_
  rw [mem_exL h, List.mem_filter, mem_sets]
theorem ch_sets {us : List Str} (h : Asc us) (k : Nat) : chL us k = (setsL us).filter fun r => decide (r.length = k) := by
  refine size_unique ((chL_pw h k).imp_of_mem fun {a b} ha hb hab => .inr ⟨by rw [(mem_chL.mp ha).2.2, (mem_chL.mp hb).2.2], hab⟩) ((sets_pw (asc_nodup h)).sublist List.filter_sublist) fun r => ?_
  rw [mem_ch h, List.mem_filter, mem_sets, decide_eq_true_eq]
theorem sets_le {us : List Str} (h : us.length ≤ 8) : (setsL us).length ≤ 256 := by
  rw [(sets_perm us).length_eq, subs_len]
  exact pow_lim h
theorem flat_len {α β : Type} {f : α → List β} {n : Nat} (h : ∀ a, (f a).length ≤ n) : ∀ l : List α, (l.flatMap f).length ≤ n * l.length
  | [] => by simp
  | a :: l => by
    rw [List.flatMap_cons, List.length_append, List.length_cons, Nat.mul_succ]
    have := h a
    have := flat_len h l
    omega
end FtLaw
/-! MChoice: choices. -/
namespace FtLaw
open PySem Ft
theorem eq_unit {r : List Str} (h : Lay r) : cmpD .eq (rowD r) (.tuple []) = .ok r.isEmpty := by
  have h1 : SeqAt.shaped (rowD r) = true := by
    have := lay_row h
    simp [SeqAt.shaped, this.1]
    omega
  have h2 : SeqAt.shaped (.tuple []) = true := by
    have := lay_row (l := []) (fun _ h => by cases h)
    simp only [SeqAt.shaped, Bool.and_eq_true, decide_eq_true_eq]
    exact ⟨this.1, by have h9 : PyData.depth (.tuple []) ≤ 1 := this.2; omega⟩
  show eqD (rowD r) (.tuple []) = _
  unfold eqD
  rw [h1, h2]
  simp only [Bool.and_self, Bool.or_true, if_true]
  cases r with
  | nil => simp [PyData.eqv, PyData.eqvAll]
  | cons a r => simp [PyData.eqv, PyData.eqvAll]
theorem ix_last {r : List Str} (h : r ≠ []) : ixD (rowD r) (.int (-1)) = .ok (.str (r.getLast h)) := by
  show atD (dS r) (-1) = _
  unfold atD
  have hl : 0 < r.length := List.length_pos_iff.mpr h
  have hd : (dS r).length = r.length := List.length_map _
  rw [if_neg (by decide), if_pos (by rw [hd]; omega)]
  have e : ((-1 : Int) + ((dS r).length : Nat)).toNat = r.length - 1 := by rw [hd]; omega
  rw [e]
  have : (dS r)[r.length - 1]? = some (.str (r.getLast h)) := by
    show (r.map PyData.str)[r.length - 1]? = _
    rw [List.getElem?_map, ← List.getLast?_eq_getElem?, List.getLast?_eq_some_getLast h]
    rfl
  rw [this]
theorem chB_ne {r : List Str} (h : r ≠ []) (p : Str) : chcB r p = strLt (r.getLast h) p := by
  unfold chcB
  rw [List.getLast?_eq_some_getLast h]
theorem count_fold : ∀ (l : List Nat) (m : Nat), l.foldl (fun m _ => m + 1) m = m + l.length
  | [], m => rfl
  | _ :: l, m => by
    rw [List.foldl_cons, count_fold l, List.length_cons]
    omega
end FtLaw
namespace FtLaw
open PySem Ft
def pathT (n t : Nat) : Nat := psum (fun m => !t.testBit (2 ^ n - 1 - m)) (2 ^ n)
abbrev cutsR (ps : List Str) (gs : List (Int × List D)) : List (List Str) := sortR (handL ps (cutB gs))
abbrev pathsR (ps : List Str) (gs : List (Int × List D)) : List (List Str) := sortR (handL ps (pathB ps gs))
theorem tabN_ne {ps : List Str} (hn : ps.Nodup) {B : List Str → Bool} {t : Nat} (ht : ∀ fs : List Str, fs.Sublist ps → t.testBit (maskN ps fs) = B fs) (h0 : B [] = false) : ∀ r ∈ tabN ps t, r ≠ [] := fun r hr e => by
  have h := ((tabN_mem hn ht r).mp hr).2
  unfold minB at h
  rw [Bool.and_eq_true] at h
  rw [e, h0] at h
  cases h.1
theorem cuts_lay {ps : List Str} {gs : List (Int × List D)} (ok : SysOk ps gs) {B : List Str → Bool} : ∀ r ∈ sortR (handL ps B), Lay r ∧ r.length ≤ 1000 := fun r hr => by
  have h := (sortR_perm _).mem_iff.mp hr
  unfold handL at h
  rcases greedy_sub _ _ r h with q | q
  · cases q
  · exact sets_lay ok (mem_sets.mp (List.mem_filter.mp q).1)
theorem cuts_len {ps : List Str} {gs : List (Int × List D)} (ok : SysOk ps gs) {B : List Str → Bool} : (sortR (handL ps B)).length ≤ 256 := by
  rw [(sortR_perm _).length_eq]
  unfold handL
  have h1 := greedy_len ((setsL ps).filter B) []
  have h2 := List.length_filter_le B (setsL ps)
  have h3 := sets_len ok
  simp at h1
  omega
theorem minI_le : ∀ (l : List Int) (m : Int), minI m l ≤ m ∧ (∀ x ∈ l, minI m l ≤ x) ∧ (minI m l = m ∨ minI m l ∈ l)
  | [], m => ⟨Int.le_refl _, (fun _ h => by cases h), .inl rfl⟩
  | x :: l, m => by
    obtain ⟨h1, h2, h3⟩ := minI_le l (if x < m then x else m)
    have e : minI m (x :: l) = minI (if x < m then x else m) l := rfl
    rw [e]
    by_cases q : x < m
    · rw [if_pos q] at h1 h2 h3 ⊢
      refine ⟨by omega, fun y hy => ?_, .inr ?_⟩
      · rcases List.mem_cons.mp hy with r | r
        · rw [r]; exact h1
        · exact h2 y r
      · rcases h3 with r | r
        · rw [r]; exact List.mem_cons_self
        · exact List.mem_cons_of_mem _ r
    · rw [if_neg q] at h1 h2 h3 ⊢
      refine ⟨h1, fun y hy => ?_, ?_⟩
      · rcases List.mem_cons.mp hy with r | r
        · rw [r]; omega
        · exact h2 y r
      · rcases h3 with r | r
        · exact .inl r
        · exact .inr (List.mem_cons_of_mem _ r)
/-- the least number -/
theorem min_nat {l : List Nat} (h : l ≠ []) : ∃ n ∈ l, (∀ m ∈ l, n ≤ m) ∧ primD .min (.list (dN l)) = .ok (.int (n : Int)) := by
  cases l with
  | nil => exact absurd rfl h
  | cons a r =>
    obtain ⟨h1, h2, h3⟩ := minI_le (r.map fun n : Nat => (n : Int)) (a : Int)
    have hv : ∃ n ∈ a :: r, minI (a : Int) (r.map fun n : Nat => (n : Int)) = (n : Int) := by
      rcases h3 with q | q
      · exact ⟨a, List.mem_cons_self, q⟩
      · obtain ⟨n, hn, e⟩ := List.mem_map.mp q
        exact ⟨n, List.mem_cons_of_mem _ hn, e.symm⟩
    obtain ⟨n, hn, e⟩ := hv
    rw [e] at h1 h2
    refine ⟨n, hn, fun m hm => ?_, ?_⟩
    · rcases List.mem_cons.mp hm with q | q
      · rw [q]; omega
      · have := h2 (m : Int) (List.mem_map.mpr ⟨m, q, rfl⟩)
        omega
    · show minLD (dN (a :: r)) = _
      unfold minLD
      rw [ints_dN]
      show Except.ok (PyData.int (minI (a : Int) (r.map fun n : Nat => (n : Int)))) = _
      rw [e]
theorem min_ex {l : List Nat} (h : l ≠ []) : ∃ v : Int, primD .min (.list (dN l)) = .ok (.int v) := by
  obtain ⟨n, _, _, e⟩ := min_nat h
  exact ⟨_, e⟩
theorem lens_lc {F : Fns} {ρ : Ft.Env} {i : Nat} {it : E} {rows : List (List Str)} (hi : evI F it ρ = .ok (rows.map rowD, ρ)) (hl : rows.length ≤ 256) (hj : ∀ x, (clr (.one i) ρ).set i (.im x) = ρ.set i (.im x)) (hg : ∀ x, (ρ.set i (.im x))[i]? = some (.im x)) (hc : ∀ x, clr (.one i) (ρ.set i (.im x)) = clr (.one i) ρ) (hb : back (.one i) ρ (clr (.one i) ρ) = ρ) :
    evE F (.lc (.one i) it .tt (.prim .len (.loc i))) ρ = .ok (.list (dN (rows.map List.length)), ρ) := by
  have hL : LIM = 1000000 := rfl
  have := q_map (F := F) (ρ := ρ) (t := .one i) (it := it) (e := .prim .len (.loc i)) (xs := rows.map rowD) (fun d => .int ((unRow d).length : Nat)) hi (by rw [List.length_map]; omega) (fun x hx => by
    obtain ⟨r, _, rfl⟩ := List.mem_map.mp hx
    refine ⟨ρ.set i (.im (rowD r)), by show Except.ok _ = _; rw [hj], ?_, hc _⟩
    rw [unRow_row]
    exact q_prim (qp_loc (hg _)) (by rw [primD_lenT, List.length_map])) hb
  rw [List.map_map] at this
  rw [this]
  congr 3
  show List.map _ rows = List.map _ (List.map _ rows)
  rw [List.map_map]
  refine List.map_congr_left fun r _ => ?_
  show PyData.int ((unRow (rowD r)).length : Nat) = _
  rw [unRow_row]
  rfl
end FtLaw
/-! MRows: comparisons of rows. -/
namespace FtLaw
open PySem Ft
theorem shaped_row {r : List Str} (h : Lay r) : SeqAt.shaped (rowD r) = true := by
  obtain ⟨h1, h2⟩ := lay_row h
  unfold SeqAt.shaped
  rw [Bool.and_eq_true]
  exact ⟨h1, decide_eq_true (by omega)⟩
theorem eqvAll_dS : ∀ a b : List Str, PyData.eqvAll (dS a) (dS b) = decide (a = b)
  | [], [] => by simp [PyData.eqvAll]
  | [], _ :: _ => by simp [PyData.eqvAll]
  | _ :: _, [] => by simp [PyData.eqvAll]
  | x :: a, y :: b => by
    show PyData.eqvAll (.str x :: dS a) (.str y :: dS b) = _
    rw [PyData.eqvAll, eqvAll_dS a b]
    by_cases h1 : x = y <;> by_cases h2 : a = b <;> simp [PyData.eqv, h1, h2]
theorem eqv_row (a b : List Str) : PyData.eqv (rowD a) (rowD b) = decide (a = b) := by
  show PyData.eqv (.tuple (dS a)) (.tuple (dS b)) = _
  simp only [PyData.eqv]
  exact eqvAll_dS a b
theorem eq_row {a b : List Str} (ha : Lay a) (hb : Lay b) : cmpD .eq (rowD a) (rowD b) = .ok (decide (a = b)) := by
  show eqD _ _ = _
  unfold eqD
  rw [shaped_row ha, shaped_row hb, Bool.and_self, Bool.or_true, if_pos rfl, eqv_row]
theorem ne_row {a b : List Str} (ha : Lay a) (hb : Lay b) : cmpD .ne (rowD a) (rowD b) = .ok (!decide (a = b)) := by
  show bindR (eqD (rowD a) (rowD b)) _ = _
  have : eqD (rowD a) (rowD b) = .ok (decide (a = b)) := eq_row ha hb
  rw [this, bindR_ok]
theorem eqvAll_rows : ∀ a b : List (List Str), PyData.eqvAll (a.map rowD) (b.map rowD) = decide (a = b)
  | [], [] => by simp [PyData.eqvAll]
  | [], _ :: _ => by simp [PyData.eqvAll]
  | _ :: _, [] => by simp [PyData.eqvAll]
  | x :: a, y :: b => by
    rw [List.map_cons, List.map_cons, PyData.eqvAll, eqvAll_rows a b, eqv_row]
    by_cases h1 : x = y <;> by_cases h2 : a = b <;> simp [h1, h2]
theorem eq_rows {a b : List (List Str)} (ha : ∀ r ∈ a, Lay r) (hb : ∀ r ∈ b, Lay r) : cmpD .eq (.list (a.map rowD)) (.list (b.map rowD)) = .ok (decide (a = b)) := by
  show eqD _ _ = _
  unfold eqD
  rw [shaped_rows ha, shaped_rows hb, Bool.and_self, Bool.or_true, if_pos rfl, PyData.eqv, eqvAll_rows]
theorem ne_rows2 {a b : List (List Str)} (ha : ∀ r ∈ a, Lay r) (hb : ∀ r ∈ b, Lay r) : cmpD .ne (.list (a.map rowD)) (.list (b.map rowD)) = .ok (!decide (a = b)) := by
  show bindR (eqD _ _) _ = _
  have := eq_rows ha hb
  have : eqD (.list (a.map rowD)) (.list (b.map rowD)) = .ok (decide (a = b)) := this
  rw [this, bindR_ok]
theorem in_rows {r : List Str} {l : List (List Str)} (hr : Lay r) (hl : ∀ r ∈ l, Lay r) : cmpD .isin (rowD r) (.list (l.map rowD)) = .ok (decide (r ∈ l)) := by
  show inD (rowD r) (.list (l.map rowD)) = _
  unfold inD
  show bindR (.ok (l.map rowD)) _ = _
  rw [bindR_ok, shaped_row hr, shaped_rows hl, Bool.and_self, Bool.or_true, if_pos rfl]
  congr 1
  rw [List.any_map, Bool.eq_iff_iff, List.any_eq_true, decide_eq_true_iff]
  constructor
  · rintro ⟨o, ho, h⟩
    have h : PyData.eqv (rowD o) (rowD r) = true := h
    rw [eqv_row] at h
    rw [← of_decide_eq_true h]
    exact ho
  · exact fun h => ⟨r, h, by show PyData.eqv (rowD r) (rowD r) = true; rw [eqv_row]; simp⟩
theorem notin_rows {r : List Str} {l : List (List Str)} (hr : Lay r) (hl : ∀ r ∈ l, Lay r) : cmpD .notin (rowD r) (.list (l.map rowD)) = .ok (!decide (r ∈ l)) := by
  show bindR (inD (rowD r) (.list (l.map rowD))) _ = _
  have : inD (rowD r) (.list (l.map rowD)) = .ok (decide (r ∈ l)) := in_rows hr hl
  rw [this, bindR_ok]
theorem ne_intI (i j : Int) : cmpD .ne (.int i) (.int j) = .ok (!decide (i = j)) := rfl
theorem len_row (r : List Str) : primD .len (rowD r) = .ok (.int (r.length : Int)) := by
  show Except.ok (PyData.int (((dS r).length : Nat) : Int)) = _
  rw [List.length_map]
theorem rep_flat (v : D) : ∀ n : Nat, (List.replicate n [v]).flatten = List.replicate n v
  | 0 => rfl
  | n + 1 => by
    rw [List.replicate_succ, List.flatten_cons, rep_flat v n, List.replicate_succ]
    rfl
theorem rep_mul (v : D) {n : Nat} (h1 : 1 ≤ n) (h2 : n ≤ 1000) : binD .mul (.tuple [v]) (.int (n : Int)) = .ok (.tuple (List.replicate n v)) := by
  show (if [v] ≠ [] ∧ 1 ≤ (n : Int) ∧ (n : Int) ≤ 1000 ∧ [v].length ≤ 1000 then Except.ok (PyData.tuple (List.replicate (n : Int).toNat [v]).flatten) else stk) = _
  rw [if_pos ⟨by simp, by omega, by omega, by simp⟩, Int.toNat_natCast, rep_flat]
end FtLaw
/-! MLawB: more of what laws use. -/
namespace FtLaw
open PySem Ft
theorem or1_ok {F : Fns} {b : Def} {f : Str} {hs : List (Str × Str)} {ks : List Str} {d0 d : D} (hb : b = ⟨1, 1, .seq (.tryr (.call f (.cons (.loc 0) .nil)) hs ks) .skip⟩) (h : F.f f [d0] = .ok d) : evF F FU b [d0] = .ok d := by
  subst hb
  exact or_ok rfl rfl (q_call (q_cons (q_loc rfl) q_nil) h)
theorem or2_ok {F : Fns} {b : Def} {f : Str} {hs : List (Str × Str)} {ks : List Str} {d0 d1 d : D} (hb : b = ⟨2, 2, .seq (.tryr (.call f (.cons (.loc 0) (.cons (.loc 1) .nil))) hs ks) .skip⟩) (h : F.f f [d0, d1] = .ok d) : evF F FU b [d0, d1] = .ok d := by
  subst hb
  exact or_ok rfl rfl (q_call (q_cons (q_loc rfl) (q_cons (q_loc rfl) q_nil)) h)
theorem or3_ok {F : Fns} {b : Def} {f : Str} {hs : List (Str × Str)} {ks : List Str} {d0 d1 d2 d : D} (hb : b = ⟨3, 3, .seq (.tryr (.call f (.cons (.loc 0) (.cons (.loc 1) (.cons (.loc 2) .nil)))) hs ks) .skip⟩) (h : F.f f [d0, d1, d2] = .ok d) : evF F FU b [d0, d1, d2] = .ok d := by
  subst hb
  exact or_ok rfl rfl (q_call (q_cons (q_loc rfl) (q_cons (q_loc rfl) (q_cons (q_loc rfl) q_nil))) h)
theorem or4_ok {F : Fns} {b : Def} {f : Str} {hs : List (Str × Str)} {ks : List Str} {d0 d1 d2 d3 d : D} (hb : b = ⟨4, 4, .seq (.tryr (.call f (.cons (.loc 0) (.cons (.loc 1) (.cons (.loc 2) (.cons (.loc 3) .nil))))) hs ks) .skip⟩) (h : F.f f [d0, d1, d2, d3] = .ok d) : evF F FU b [d0, d1, d2, d3] = .ok d := by
  subst hb
  exact or_ok rfl rfl (q_call (q_cons (q_loc rfl) (q_cons (q_loc rfl) (q_cons (q_loc rfl) (q_cons (q_loc rfl) q_nil)))) h)
theorem or1_exc {F : Fns} {b : Def} {f x t : Str} {hs : List (Str × Str)} {ks : List Str} {d0 : D} (hb : b = ⟨1, 1, .seq (.tryr (.call f (.cons (.loc 0) .nil)) hs ks) .skip⟩) (h : F.f f [d0] = .error (.exc x)) (hx : x ∈ ks) (hc : caught x hs = some t) : evF F FU b [d0] = .ok (.str t) := by
  subst hb
  exact or_exc rfl rfl (q_exc (q_cons (q_loc rfl) q_nil) h) hx hc
theorem or2_exc {F : Fns} {b : Def} {f x t : Str} {hs : List (Str × Str)} {ks : List Str} {d0 d1 : D} (hb : b = ⟨2, 2, .seq (.tryr (.call f (.cons (.loc 0) (.cons (.loc 1) .nil))) hs ks) .skip⟩) (h : F.f f [d0, d1] = .error (.exc x)) (hx : x ∈ ks) (hc : caught x hs = some t) : evF F FU b [d0, d1] = .ok (.str t) := by
  subst hb
  exact or_exc rfl rfl (q_exc (q_cons (q_loc rfl) (q_cons (q_loc rfl) q_nil)) h) hx hc
theorem or3_exc {F : Fns} {b : Def} {f x t : Str} {hs : List (Str × Str)} {ks : List Str} {d0 d1 d2 : D} (hb : b = ⟨3, 3, .seq (.tryr (.call f (.cons (.loc 0) (.cons (.loc 1) (.cons (.loc 2) .nil)))) hs ks) .skip⟩) (h : F.f f [d0, d1, d2] = .error (.exc x)) (hx : x ∈ ks) (hc : caught x hs = some t) : evF F FU b [d0, d1, d2] = .ok (.str t) := by
  subst hb
  exact or_exc rfl rfl (q_exc (q_cons (q_loc rfl) (q_cons (q_loc rfl) (q_cons (q_loc rfl) q_nil))) h) hx hc
theorem or4_exc {F : Fns} {b : Def} {f x t : Str} {hs : List (Str × Str)} {ks : List Str} {d0 d1 d2 d3 : D} (hb : b = ⟨4, 4, .seq (.tryr (.call f (.cons (.loc 0) (.cons (.loc 1) (.cons (.loc 2) (.cons (.loc 3) .nil))))) hs ks) .skip⟩) (h : F.f f [d0, d1, d2, d3] = .error (.exc x)) (hx : x ∈ ks) (hc : caught x hs = some t) : evF F FU b [d0, d1, d2, d3] = .ok (.str t) := by
  subst hb
  exact or_exc rfl rfl (q_exc (q_cons (q_loc rfl) (q_cons (q_loc rfl) (q_cons (q_loc rfl) (q_cons (q_loc rfl) q_nil)))) h) hx hc
/-- a def that begins with require_..(first argument) -/
theorem rq_no {F : Fns} {b : Def} {s2 : S} {f x : Str} {d0 : D} {ds : List D} (hb : b.b = .seq (.ex (.call f (.cons (.loc 0) .nil))) s2) (hl : (d0 :: ds).length = b.ps) (h : F.f f [d0] = .error (.exc x)) : evF F FU b (d0 :: ds) = .error (.exc x) := by
  refine f_exc hl ?_
  rw [hb]
  have h0 : (startE b.n (d0 :: ds))[(0 : Nat)]? = some (.im d0) := rfl
  exact s_exx (q_exc (q_cons (q_loc h0) q_nil) h)
theorem rq_ok {F : Fns} {s2 : S} {f : Str} {d0 : D} {ρ : Ft.Env} (h0 : ρ[(0 : Nat)]? = some (.im d0)) (h : F.f f [d0] = .ok .none) : evS F FU (.seq (.ex (.call f (.cons (.loc 0) .nil))) s2) ρ = evS F FU s2 ρ := s_exn (q_call (q_cons (q_loc h0) q_nil) h)
theorem parts_small {ps : List Str} : ∀ xs y, (rowD ps : D) = .tuple [.tuple xs, y] → ∀ x ∈ xs, smallS x := fun xs y e => by
  have e : dS ps = [.tuple xs, y] := by injection e
  cases ps with
  | nil => cases e
  | cons a r => cases e
theorem q_rep1 {F : Fns} {ρ : Ft.Env} {a k : E} {d : D} {b : Bool} (ha : evE F a ρ = .ok (d, ρ)) (hk : evE F k ρ = .ok (.int (if b then 1 else 0), ρ)) : evE F (.rep (.cons a .nil) k) ρ = .ok (.list (if b then [d] else []), ρ) := by
  rw [evE]
  rw [q_cons ha q_nil, bindR_ok]
  dsimp only
  rw [hk, bindR_ok]
  cases b <;> rfl
theorem q_intB {F : Fns} {ρ : Ft.Env} {a : E} {b : Bool} (ha : evE F a ρ = .ok (.bool b, ρ)) (hp : ∀ r, pk a ρ r = r := by intro _; rfl) : evE F (.prim .int a) ρ = .ok (.int (if b then 1 else 0), ρ) := q_prim (qp_of ha hp) rfl
theorem eq_int (i j : Int) : cmpD .eq (.int i) (.int j) = .ok (decide (i = j)) := by
  show Except.ok (i == j) = _
  rfl
theorem cat_strs {a b : List Str} (h : a.length + b.length ≤ 1000) : binD .add (.list (dS a)) (.list (dS b)) = .ok (.list (dS (a ++ b))) := by
  have h1 : (dS a).length = a.length := List.length_map _
  have h2 : (dS b).length = b.length := List.length_map _
  have hL : LIM = 1000000 := rfl
  rw [addl_ok (by omega)]
  show _ = Except.ok (PyData.list (List.map _ (a ++ b)))
  rw [List.map_append]
theorem dS_if (b : Bool) (s : Str) : (if b then [PyData.str s] else []) = dS (if b then [s] else []) := by cases b <;> rfl
/-- the turns of a law, with what holds when a turn begins -/
def Turn2 (F : Fns) (body : S) (ns : List Int) (Q P : List Cell → Prop) : Prop := ∀ (l : List Int) (cs : List Cell), Q cs → l.length < 600000 → ∃ (l' : List Int) (cs' : List Cell), P cs' ∧ l'.length ≤ l.length + 20000 ∧ evS F FU body (.im (.list (dI ns)) :: .mu (dI l) :: cs) = .ok (.nx, .im (.list (dI ns)) :: .mu (dI l') :: cs')
theorem law_go2 {F : Fns} {P Q : List Cell → Prop} {body : S} {j : Nat} (hP : ∀ cs (i : Int), 0 ≤ i → P cs → Q (cs.set j (.im (.int i)))) {ns : List Int} (turn : Turn2 F body ns Q P) :
    ∀ (m : Nat) (i : Int) (l : List Int) (cs : List Cell), 0 ≤ i → P cs → l.length + 20000 * m < 600000 → ∃ l' cs', forL (.one (j + 2)) (evS F FU body) (rngL i 1 m) (.im (.list (dI ns)) :: .mu (dI l) :: cs) = .ok (.nx, .im (.list (dI ns)) :: .mu (dI l') :: cs') ∧ P cs' ∧ l'.length ≤ l.length + 20000 * m
  | 0, _, l, cs, _, hc, _ => ⟨l, cs, rfl, hc, by simp⟩
  | m + 1, i, l, cs, hi, hc, hl => by
    obtain ⟨l1, cs1, h1, h2, h3⟩ := turn l (cs.set j (.im (.int i))) (hP cs i hi hc) (by omega)
    obtain ⟨l', cs', ih, q1, q2⟩ := law_go2 hP turn m (i + 1) l1 cs1 (by omega) h1 (by omega)
    refine ⟨l', cs', ?_, q1, by omega⟩
    show forL _ _ (.int i :: rngL (i + 1) 1 m) _ = _
    unfold forL
    have ht : tgt (.one (j + 2)) (.int i) (.im (.list (dI ns)) :: .mu (dI l) :: cs) = .ok (.im (.list (dI ns)) :: .mu (dI l) :: cs.set j (.im (.int i))) := rfl
    rw [ht, bindC_ok, h3, bindR_ok]
    exact ih
theorem rng_at {F : Fns} {K : Nat} (hK : K ≤ 29) (ρ : Ft.Env) : evI F (.rng1 (.int (K : Int))) ρ = .ok (rngL 0 1 K, ρ) := by
  rw [evI_rng1, evE_int, bindR_ok]
  have : rngDD (.int 0) (.int (K : Int)) (.int 1) = .ok (rngL 0 1 K) := by
    show rngD 0 (K : Int) 1 = _
    unfold rngD
    rw [if_pos ⟨by decide, by decide, by omega, by omega⟩, if_pos rfl]
    have : ((K : Int) - 0).toNat = K := by omega
    rw [this]
  dsimp only
  rw [this, bindC_ok]
/-- state = []; for k in range(K): body; the rest -/
theorem law_fin2 {F : Fns} {N K : Nat} {P Q : List Cell → Prop} {body rest : S} {j : Nat} {b : Def} (hK : K ≤ 29) (hps : b.ps = 1) (hn : b.n = N + 2) (hb : b.b = .seq (.asgF 1 (.lst .nil)) (.seq (.for_ (.one (j + 2)) (.rng1 (.int (K : Int))) body) rest)) {ns : List Int}
    (hP0 : P (List.replicate N .no)) (hP : ∀ cs (i : Int), 0 ≤ i → P cs → Q (cs.set j (.im (.int i)))) (turn : Turn2 F body ns Q P) (hr : ∀ (l : List Int) (cs : List Cell), P cs → ∃ ρ', evS F FU rest (.im (.list (dI ns)) :: .mu (dI l) :: cs) = .ok (.rt (.bool true), ρ')) : evF F FU b [.list (ns.map .int)] = .ok (.bool true) := by
  obtain ⟨l', cs', e, hp', _⟩ := law_go2 hP turn K 0 [] (List.replicate N .no) (by decide) hP0 (by simp; omega)
  obtain ⟨ρ', er⟩ := hr l' cs' hp'
  refine f_done (by rw [hps]; rfl) (ρ' := ρ') ?_
  rw [hb, hn]
  have hst : startE (N + 2) [.list (ns.map .int)] = .im (.list (dI ns)) :: .no :: List.replicate N .no := by
    show [Cell.im (.list (dI ns))] ++ List.replicate (N + 2 - 1) .no = _
    rw [show N + 2 - 1 = N + 1 by omega, List.replicate_succ]
    rfl
  rw [hst]
  have e1 : evS F FU (.asgF 1 (.lst .nil)) (.im (.list (dI ns)) :: .no :: List.replicate N .no) = .ok (.nx, .im (.list (dI ns)) :: .mu (dI []) :: List.replicate N .no) := rfl
  rw [s_seq e1, s_seq (s_for (rng_at hK _) e)]
  exact er
/-- a loop of checks -/
theorem for_chk {i : Nat} {b : Ft.Env → R (Res × Ft.Env)} {ρ : Ft.Env} : ∀ {xs : List D}, xs ≠ [] → (∀ x ∈ xs, b (ρ.set i (.im x)) = .ok (.nx, ρ.set i (.im x))) → ∃ d, forL (.one i) b xs ρ = .ok (.nx, ρ.set i (.im d)) := by
  have key : ∀ (xs : List D) (d : D), (∀ x ∈ xs, b (ρ.set i (.im x)) = .ok (.nx, ρ.set i (.im x))) → ∃ d', forL (.one i) b xs (ρ.set i (.im d)) = .ok (.nx, ρ.set i (.im d')) := by
    intro xs
    induction xs with
    | nil => exact fun d _ => ⟨d, rfl⟩
    | cons x xs ih =>
      intro d h
      obtain ⟨d', e⟩ := ih x fun y hy => h y (List.mem_cons_of_mem _ hy)
      refine ⟨d', ?_⟩
      unfold forL
      show bindC (.ok ((ρ.set i (.im d)).set i (.im x))) _ = _
      rw [bindC_ok, List.set_set, h x List.mem_cons_self, bindR_ok]
      exact e
  intro xs hne h
  cases xs with
  | nil => exact absurd rfl hne
  | cons x xs =>
    obtain ⟨d', e⟩ := key xs x fun y hy => h y (List.mem_cons_of_mem _ hy)
    refine ⟨d', ?_⟩
    unfold forL
    show bindC (.ok (ρ.set i (.im x))) _ = _
    rw [bindC_ok, h x List.mem_cons_self, bindR_ok]
    exact e
end FtLaw
/-! MLists: is_valid_list, require_list, require_words. -/
namespace FtLaw
open PySem Ft
theorem f_fall {F : Fns} {n : Nat} {d0 : Def} {ds : List D} (hl : ds.length = d0.ps) {ρ' : Ft.Env} (h : evS F n d0.b (startE d0.n ds) = .ok (.nx, ρ')) : evF F n d0 ds = .ok .none := by rw [evF_of hl, h]; rfl
theorem cnt_iff : ∀ l : List (List Str), cntR l = l.length ↔ l.Nodup
  | [] => by simp [cntR]
  | k :: r => by
    have ih := cnt_iff r
    have hle := cnt_le r
    unfold cntR
    rw [List.length_cons, List.nodup_cons]
    by_cases h : k ∈ r
    · rw [if_pos h]
      exact ⟨fun e => by omega, fun e => absurd h e.1⟩
    · rw [if_neg h]
      exact ⟨fun e => ⟨h, ih.mp (by omega)⟩, fun e => by rw [ih.mpr e.2]⟩
theorem rowsK_map : ∀ l : List (List Str), rowsK (l.map rowD) = .ok l
  | [] => rfl
  | r :: l => by
    show bindR (rowK (rowD r)) _ = _
    have e : rowK (rowD r) = .ok r := strs_map r
    rw [e, bindR_ok, rowsK_map l]
    rfl
theorem lenset_rows {l : List (List Str)} (h0 : l ≠ []) (h : l.length ≤ 75) : primD .lenset (.list (l.map rowD)) = .ok (.int (cntR l : Nat)) := by
  show lensetL (l.map rowD) = _
  unfold lensetL
  cases l with
  | nil => exact absurd rfl h0
  | cons r l =>
    have e : keysD ((r :: l).map rowD) = .error .stuck := rfl
    rw [e]
    show bindR (rowsK ((r :: l).map rowD)) _ = _
    rw [rowsK_map, bindR_ok, if_pos h]
/-- a list of sets -/
def listB (ps : List Str) (l : List (List Str)) : Bool := (l.all fun r => setB ps (rowD r) && !decide (r = [])) && decide l.Nodup
theorem lay_nil : Lay [] := fun s h => by cases h
section
variable {ps : List Str} {l : List (List Str)}
theorem y_validR (h0 : l ≠ []) (h : l.length ≤ 75) (hl : ∀ r ∈ l, Lay r ∧ r.length ≤ 1000) : f_is_valid_list [rowD ps, .list (l.map rowD)] = .ok (.bool (listB ps l)) := by
  have hL : LIM = 1000000 := rfl
  refine f_done rfl (ρ' := [.im (rowD ps), .im (.list (l.map rowD)), .no]) ?_
  show evS FT_is_valid_list FU b_is_valid_list.b [.im (rowD ps), .im (.list (l.map rowD)), .no] = _
  unfold b_is_valid_list
  dsimp only
  have he : (l.map rowD).isEmpty = false := by
    cases l with
    | nil => exact absurd rfl h0
    | cons a b => rfl
  have hz := eq_nil (shaped_rows fun r hr => (hl r hr).1)
  rw [he] at hz
  have t1 : evT FT_is_valid_list (.or (.not (.tr (.isi (.loc 1) .list))) (.tr (.cmp .eq (.loc 1) (.lst .nil)))) [.im (rowD ps), .im (.list (l.map rowD)), .no] = .ok (false, [.im (rowD ps), .im (.list (l.map rowD)), .no]) := t_or' (x := false) (y := false) (t_not' (x := true) (t_trB rfl)) (fun _ => t_trB (q_cmp (q_loc rfl) (qp_of (q_lst q_nil)) hz))
  have hq := q_allT (F := FT_is_valid_list) (ρ := [.im (rowD ps), .im (.list (l.map rowD)), .no]) (t := .one 2) (it := .sq (.loc 1)) (e := .and (.call "is_set" (.cons (.loc 0) (.cons (.loc 2) .nil))) (.cmp .ne (.loc 2) (.tup .nil))) (l := l) rowD (fun r => setB ps (rowD r) && !decide (r = [])) (i_lst (q_loc rfl)) (by omega) (fun r hr => by
    refine ⟨_, rfl, q_and (q_call (q_cons (q_loc rfl) (q_cons (q_loc rfl) q_nil)) (by rw [lk_is_valid_list__is_set]; exact x_set (fun xs e => by cases e; rw [List.length_map]; exact (hl r hr).2))) (fun _ => q_cmp (q_loc rfl) (qp_of rfl) (ne_row (hl r hr).1 lay_nil)), rfl⟩) rfl
  rw [s_rsF t1]
  have t2 := t_not' (t_trB hq)
  have e3 : evE FT_is_valid_list (.cmp .eq (.prim .lenset (.loc 1)) (.prim .len (.loc 1))) [.im (rowD ps), .im (.list (l.map rowD)), .no] = .ok (.bool (decide l.Nodup), [.im (rowD ps), .im (.list (l.map rowD)), .no]) := by
    have hc : cmpD .eq (.int (cntR l : Nat)) (.int ((l.map rowD).length : Nat)) = .ok (decide l.Nodup) := by
      rw [eq_int, List.length_map]
      congr 1
      rw [decide_eq_decide, ← cnt_iff]
      omega
    exact q_cmp (q_prim (qp_loc rfl) (lenset_rows h0 h)) (qp_of (q_prim (qp_loc rfl) rfl)) hc
  unfold listB
  cases hb : l.all fun r => setB ps (rowD r) && !decide (r = []) with
  | false =>
    rw [hb] at t2
    have e : evS FT_is_valid_list FU (.ite (.not (.tr (.prim .all (.lc (.one 2) (.sq (.loc 1)) .tt (.and (.call "is_set" (.cons (.loc 0) (.cons (.loc 2) .nil))) (.cmp .ne (.loc 2) (.tup .nil))))))) (.seq (.ret (.bl false)) .skip) .skip) [.im (rowD ps), .im (.list (l.map rowD)), .no] = .ok (.rt (.bool false), [.im (rowD ps), .im (.list (l.map rowD)), .no]) := (s_ite t2).trans rfl
    rw [evS_seq, e]
    rfl
  | true =>
    rw [hb] at t2
    rw [s_rsF t2]
    exact s_ret e3
theorem y_valid0 {d : D} (h : isTy .list d = false) : f_is_valid_list [rowD ps, d] = .ok (.bool false) := by
  refine f_done rfl (ρ' := [.im (rowD ps), .im d, .no]) ?_
  show evS FT_is_valid_list FU b_is_valid_list.b [.im (rowD ps), .im d, .no] = _
  unfold b_is_valid_list
  dsimp only
  have t1 : evT FT_is_valid_list (.or (.not (.tr (.isi (.loc 1) .list))) (.tr (.cmp .eq (.loc 1) (.lst .nil)))) [.im (rowD ps), .im d, .no] = .ok (true || true, [.im (rowD ps), .im d, .no]) := t_or' (t_not' (x := false) (t_trB (q_isi (qp_loc rfl) h))) (fun e => by cases e)
  rw [evS_seq, (s_ite t1).trans (show _ = Except.ok (Res.rt (.bool false), [Cell.im (rowD ps), Cell.im d, Cell.no]) from rfl)]
  rfl
theorem y_validN : f_is_valid_list [rowD ps, .list []] = .ok (.bool false) := by
  refine f_done rfl (ρ' := [.im (rowD ps), .im (.list []), .no]) ?_
  show evS FT_is_valid_list FU b_is_valid_list.b [.im (rowD ps), .im (.list []), .no] = _
  unfold b_is_valid_list
  dsimp only
  have hz := eq_nil (xs := []) (shaped_rows (l := []) fun r hr => by cases hr)
  have t1 : evT FT_is_valid_list (.or (.not (.tr (.isi (.loc 1) .list))) (.tr (.cmp .eq (.loc 1) (.lst .nil)))) [.im (rowD ps), .im (.list []), .no] = .ok (false || true, [.im (rowD ps), .im (.list []), .no]) := t_or' (t_not' (x := true) (t_trB rfl)) (fun _ => t_trB (q_cmp (q_loc rfl) (qp_of (q_lst q_nil)) hz))
  rw [evS_seq, (s_ite t1).trans (show _ = Except.ok (Res.rt (.bool false), [Cell.im (rowD ps), Cell.im (.list []), Cell.no]) from rfl)]
  rfl
theorem reqwords_ok {d : D} (hs : ∀ xs, d = .tuple xs → ∀ x ∈ xs, smallS x) (h : wordsB d = true) : f_require_words [d] = .ok .none := by
  refine f_fall rfl (ρ' := [.im d]) ?_
  show evS FT_require_words FU b_require_words.b [.im d] = _
  unfold b_require_words
  dsimp only
  rw [s_rsF (t_not' (t_trB (q_call (q_cons (q_loc rfl) q_nil) (by rw [lk_require_words__are_words, x_words hs, h]))))]
  rfl
theorem reqwords_no {d : D} (hs : ∀ xs, d = .tuple xs → ∀ x ∈ xs, smallS x) (h : wordsB d = false) : f_require_words [d] = .error (.exc "InvalidParts") := by
  refine f_exc rfl ?_
  show evS FT_require_words FU b_require_words.b [.im d] = _
  unfold b_require_words
  dsimp only
  exact s_rsT (t_not' (t_trB (q_call (q_cons (q_loc rfl) q_nil) (by rw [lk_require_words__are_words, x_words hs, h]))))
end
/-- rows that make a list of sets -/
structure LOk (ps : List Str) (l : List (List Str)) : Prop where
  ne : l ≠ []
  few : l.length ≤ 75
  sub : ∀ r ∈ l, r.Sublist ps
  full : ∀ r ∈ l, r ≠ []
  nodup : l.Nodup
section
variable {ps : List Str} {gs : List (Int × List D)} {l m : List (List Str)}
theorem LOk.lay (ok : SysOk ps gs) (h : LOk ps l) : ∀ r ∈ l, Lay r ∧ r.length ≤ 1000 := fun r hr => sets_lay ok (h.sub r hr)
theorem LOk.valid (ok : SysOk ps gs) (h : LOk ps l) : f_is_valid_list [rowD ps, .list (l.map rowD)] = .ok (.bool true) := by
  rw [y_validR h.ne h.few (h.lay ok)]
  have : listB ps l = true := by
    unfold listB
    rw [Bool.and_eq_true, List.all_eq_true]
    refine ⟨fun r hr => ?_, decide_eq_true h.nodup⟩
    rw [Bool.and_eq_true]
    exact ⟨set_sub ok.rise (h.sub r hr), by simp [h.full r hr]⟩
  rw [this]
theorem words_sys (ok : SysOk ps gs) : f_require_words [rowD ps] = .ok .none := reqwords_ok (fun xs e => by
  cases e
  exact small_parts fun s hs => (ok.words s hs).2.1) (words_of ok)
/-! ### what is no list of sets -/
theorem bad_unit : f_is_valid_list [rowD ps, .list [.tuple []]] = .ok (.bool false) := by
  have := y_validR (ps := ps) (l := [[]]) (by simp) (by simp) (fun r hr => by rw [List.mem_singleton.mp hr]; exact ⟨lay_nil, by simp⟩)
  have e : listB ps [[]] = false := by simp [listB]
  rw [e] at this
  exact this
theorem bad_row {s : Str} (hs : s ∉ ps) (hl : Lay [s]) {l : List (List Str)} (h : l.length ≤ 74) (hl2 : ∀ r ∈ l, Lay r ∧ r.length ≤ 1000) : f_is_valid_list [rowD ps, .list ((l ++ [[s]]).map rowD)] = .ok (.bool false) := by
  have := y_validR (ps := ps) (l := l ++ [[s]]) (by simp) (by simp; omega) (fun r hr => by
    rcases List.mem_append.mp hr with q | q
    · exact hl2 r q
    · rw [List.mem_singleton.mp q]
      exact ⟨hl, by simp⟩)
  have e : listB ps (l ++ [[s]]) = false := by
    unfold listB
    have h1 : setB ps (rowD [s]) = false := set_out List.mem_cons_self hs
    rw [List.all_append]
    simp [h1]
  rw [e] at this
  exact this
theorem bad_dup {l : List (List Str)} (h0 : l ≠ []) (h : l.length ≤ 75) (hl : ∀ r ∈ l, Lay r ∧ r.length ≤ 1000) (hd : ¬ l.Nodup) : f_is_valid_list [rowD ps, .list (l.map rowD)] = .ok (.bool false) := by
  have := y_validR (ps := ps) h0 h hl
  have e : listB ps l = false := by
    unfold listB
    rw [decide_eq_false hd, Bool.and_false]
  rw [e] at this
  exact this
end
end FtLaw
namespace FtLaw
open PySem Ft
/-! ### small data -/
inductive Fn (bl : Bool) (k : Nat) : Nat → D → Prop
  | non {n : Nat} : Fn bl k n .none
  | bool {n : Nat} (b : Bool) (h : bl = true) : Fn bl k n (.bool b)
  | int {n : Nat} {i : Int} (h : i.natAbs ≤ 100 + k) : Fn bl k n (.int i)
  | str {n : Nat} {s : Str} (h : s.length ≤ 10 ∧ PyData.strOk s = true) : Fn bl k n (.str s)
  | lst {n : Nat} {xs : List D} (h : ∀ x ∈ xs, Fn bl k n x) (hl : xs.length ≤ 40 + k) : Fn bl k (n + 1) (.list xs)
  | tup {n : Nat} {xs : List D} (h : ∀ x ∈ xs, Fn bl k n x) (hl : xs.length ≤ 40 + k) : Fn bl k (n + 1) (.tuple xs)
theorem Fn.mono {bl bl' : Bool} {k k' : Nat} (hk : k ≤ k') (hb : bl = true → bl' = true) : ∀ {n n' : Nat} {d : D}, Fn bl k n d → n ≤ n' → Fn bl' k' n' d := by
  intro n n' d h
  induction h generalizing n' with
  | non => intro _; exact .non
  | bool b h => intro _; exact .bool b (hb h)
  | int h => intro _; exact .int (by omega)
  | str h => intro _; exact .str h
  | lst h hl ih =>
    intro hn
    obtain ⟨m, rfl⟩ : ∃ m, n' = m + 1 := ⟨n' - 1, by omega⟩
    exact .lst (fun x hx => ih x hx (by omega)) (by omega)
  | tup h hl ih =>
    intro hn
    obtain ⟨m, rfl⟩ : ∃ m, n' = m + 1 := ⟨n' - 1, by omega⟩
    exact .tup (fun x hx => ih x hx (by omega)) (by omega)
theorem Fn.items {bl : Bool} {k n : Nat} {xs : List D} (h : Fn bl k n (.tuple xs)) : ∃ m, n = m + 1 ∧ (∀ x ∈ xs, Fn bl k m x) ∧ xs.length ≤ 40 + k := by
  cases h with
  | tup h hl => exact ⟨_, rfl, h, hl⟩
theorem str_small {i : Int} (h : i.natAbs ≤ 200) : (Str.ofString (toString i)).length ≤ 10 ∧ PyData.strOk (Str.ofString (toString i)) = true := by
  have key : ((List.range 201).all fun n => (decide ((Str.ofString (toString (n : Int))).length ≤ 10) && PyData.strOk (Str.ofString (toString (n : Int)))) && (decide ((Str.ofString (toString (-(n : Int)))).length ≤ 10) && PyData.strOk (Str.ofString (toString (-(n : Int)))))) = true := by decide +kernel
  have := List.all_eq_true.mp key i.natAbs (by rw [List.mem_range]; omega)
  simp only [Bool.and_eq_true, decide_eq_true_eq] at this
  rcases Int.natAbs_eq i with e | e
  · rw [e]; exact this.1
  · rw [e]; exact this.2
/-! ### _law_pick -/
def PickOk (g : List D → List D → R (D × List D)) : Prop := ∀ (ns : List Int) (xs : List D) (l : List Int), 1 ≤ xs.length → xs.length ≤ 1000 → l.length < 900000 → ns.length ≤ 63 →
  ∃ (x : D) (l' : List Int), g [.list (dI ns), .list xs] (dI l) = .ok (x, dI l') ∧ x ∈ xs ∧ l'.length ≤ l.length + 2
theorem pickOk {F : Fns} (hg : DrawOk (F.g "_law_draw")) : PickOk (evG F FU b_law_pick) := fun ns xs l h1 h2 h3 h4 => by
  obtain ⟨r, l', hd, r0, r1, hl', _⟩ := hg ns (xs.length : Nat) l (by omega) h3 h4
  obtain ⟨x, hx, hx2⟩ := atD_ok (l := xs) (i := r) r0 r1
  refine ⟨x, l', ?_, List.mem_of_getElem? hx2, hl'⟩
  rw [evG_of rfl]
  show bindR (evS F FU b_law_pick.b [.im (.list (dI ns)), .rf (dI l), .im (.list xs)]) finG = _
  unfold b_law_pick
  have hix : ixD (.list xs) (.int r) = .ok x := hx
  simp [rd, lstAt, peek, hd, hix, finG]
end FtLaw
namespace FtLaw
open PySem Ft
theorem fn_tup0 {bl : Bool} {k n : Nat} : Fn bl k (n + 1) (.tuple []) := .tup (fun x hx => by cases hx) (by simp)
theorem fn_lst0 {bl : Bool} {k n : Nat} : Fn bl k (n + 1) (.list []) := .lst (fun x hx => by cases hx) (by simp)
theorem fn_tup1 {bl : Bool} {k n : Nat} {a : D} (h : Fn bl k n a) : Fn bl k (n + 1) (.tuple [a]) := .tup (fun x hx => by
  rw [List.mem_singleton] at hx; subst hx; exact h) (by simp; omega)
theorem fn_tup2 {bl : Bool} {k n : Nat} {a b : D} (h : Fn bl k n a) (h' : Fn bl k n b) : Fn bl k (n + 1) (.tuple [a, b]) := .tup (fun x hx => by
  rcases List.mem_cons.mp hx with rfl | hx
  · exact h
  · rw [List.mem_singleton] at hx; subst hx; exact h') (by simp; omega)
def csB : List D := [.none, .bool true, .bool false, .int 0, .int 1, .int (-1), .int 3, .int 10, .str "a", .str "b", .str "", .str "A", .str "abcd", .tuple [], .list [], .tuple [.str "a"], .tuple [.str "b", .str "a"], .tuple [.int 1, .int 2], .tuple [.int 1, .tuple [.str "a", .str "b"]]]
theorem fn_cons {bl : Bool} {k n : Nat} {a : D} {r : List D} (h : Fn bl k n a) (h' : ∀ x ∈ r, Fn bl k n x) : ∀ x ∈ a :: r, Fn bl k n x := fun x hx => by
  rcases List.mem_cons.mp hx with rfl | hx
  · exact h
  · exact h' x hx
theorem fn_nil {bl : Bool} {k n : Nat} : ∀ x ∈ ([] : List D), Fn bl k n x := fun x hx => by cases hx
theorem csB_fn {k n : Nat} : ∀ x ∈ csB, Fn true k (n + 3) x := by
  have a : ∀ {m : Nat}, Fn true k m (.str "a") := .str (by decide +kernel)
  have b : ∀ {m : Nat}, Fn true k m (.str "b") := .str (by decide +kernel)
  unfold csB
  exact fn_cons .non (fn_cons (.bool _ rfl) (fn_cons (.bool _ rfl) (fn_cons (.int (by simp)) (fn_cons (.int (by simp; omega)) (fn_cons (.int (by simp; omega)) (fn_cons (.int (by simp; omega)) (fn_cons (.int (by simp; omega)) (fn_cons a (fn_cons b (fn_cons (.str (by decide +kernel)) (fn_cons (.str (by decide +kernel)) (fn_cons (.str (by decide +kernel)) (fn_cons fn_tup0 (fn_cons fn_lst0 (fn_cons (fn_tup1 a) (fn_cons (fn_tup2 b a) (fn_cons (fn_tup2 (.int (by simp; omega)) (.int (by simp; omega))) (fn_cons (fn_tup2 (.int (by simp; omega)) (fn_tup2 a b)) fn_nil))))))))))))))))))
theorem slc_sub (lo hi : Option Int) (xs : List D) : ∃ ys, slcD lo hi (.tuple xs) = .ok (.tuple ys) ∧ (∀ y ∈ ys, y ∈ xs) ∧ ys.length ≤ xs.length := by
  refine ⟨cutL xs lo hi, rfl, fun y hy => ?_, ?_⟩
  · exact List.mem_of_mem_drop (List.mem_of_mem_take hy)
  · unfold cutL
    rw [List.length_take, List.length_drop]
    omega
theorem slc_last (xs : List D) : ∃ ys, slcD (some (-1)) none (.tuple xs) = .ok (.tuple ys) ∧ (∀ y ∈ ys, y ∈ xs) ∧ ys.length ≤ 1 := by
  refine ⟨cutL xs (some (-1)) none, rfl, fun y hy => List.mem_of_mem_drop (List.mem_of_mem_take hy), ?_⟩
  have e : cutIx xs.length 0 (some (-1)) = (-1 + (xs.length : Int)).toNat := rfl
  unfold cutL
  rw [e]
  show (List.take (xs.length - _) (List.drop _ xs)).length ≤ 1
  rw [List.length_take, List.length_drop]
  omega
theorem addt_ok {a b : List D} (h : a.length + b.length ≤ LIM) : binD .add (.tuple a) (.tuple b) = .ok (.tuple (a ++ b)) := if_pos h
def baseS : S := (.seq (.asg 4 (.lst (.cons .non (.cons (.bl true) (.cons (.bl false) (.cons (.int 0) (.cons (.int 1) (.cons (.neg (.int 1)) (.cons (.int 3) (.cons (.int 10) (.cons (.str "a") (.cons (.str "b") (.cons (.str "") (.cons (.str "A") (.cons (.str "abcd") (.cons (.tup .nil) (.cons (.lst .nil) .nil))))))))))))))))) (.seq (.asg 4 (.bin .add (.loc 4) (.lst (.cons (.tup (.cons (.str "a") .nil)) (.cons (.tup (.cons (.str "b") (.cons (.str "a") .nil))) (.cons (.tup (.cons (.int 1) (.cons (.int 2) .nil))) (.cons (.tup (.cons (.int 1) (.cons (.tup (.cons (.str "a") (.cons (.str "b") .nil))) .nil))) .nil))))))) (.seq (.ite (.tr (.isi (.loc 2) .tuple)) (.seq (.asg 4 (.bin .add (.loc 4) (.lst (.cons (.prim .list (.loc 2)) (.cons (.slc (.loc 2) .nil (.tr (.neg (.int 1)))) (.cons (.bin .add (.loc 2) (.slc (.loc 2) (.tr (.neg (.int 1))) .nil)) (.cons (.slc (.loc 2) (.tr (.int 1)) .nil) (.cons (.rev (.loc 2)) (.cons (.bin .add (.loc 2) (.tup (.cons .non .nil))) .nil))))))))) .skip) .skip) (.seq (.ite (.tr (.isi (.loc 2) .int)) (.seq (.asg 4 (.bin .add (.loc 4) (.rep (.cons (.bin .add (.loc 2) (.int 1)) (.cons (.bin .sub (.loc 2) (.int 1)) (.cons (.not (.loc 2)) (.cons (.tup (.cons (.loc 2) .nil)) (.cons (.prim .str (.loc 2)) .nil))))) (.int 2)))) .skip) .skip) (.seq (.ret (.callS "_law_pick" 1 (.loc 0) (.cons (.loc 4) .nil))) .skip)))))
theorem lim19 {n : Nat} (h : n ≤ 1000) : n ≤ LIM := Nat.le_trans h (by decide)
theorem bent_base {F : Fns} (hp : PickOk (F.g "_law_pick")) {ns : List Int} (hns : ns.length ≤ 63) {k n : Nat} (hk : k ≤ 10) {d : D} (hd : Fn false k n d) {l : List Int} (hl : l.length < 900000) (c3 c4 : Cell) :
    ∃ (r : D) (l' : List Int) (c4' : Cell), evS F FU baseS [.im (.list (dI ns)), .rf (dI l), .im d, c3, c4] = .ok (.rt r, [.im (.list (dI ns)), .rf (dI l'), .im d, c3, c4']) ∧ Fn true (k + 1) (n + 3) r ∧ l'.length ≤ l.length + 2 := by
  have e12 : ∀ s2, evS F FU (.seq (.asg 4 (.lst (.cons .non (.cons (.bl true) (.cons (.bl false) (.cons (.int 0) (.cons (.int 1) (.cons (.neg (.int 1)) (.cons (.int 3) (.cons (.int 10) (.cons (.str "a") (.cons (.str "b") (.cons (.str "") (.cons (.str "A") (.cons (.str "abcd") (.cons (.tup .nil) (.cons (.lst .nil) .nil))))))))))))))))) (.seq (.asg 4 (.bin .add (.loc 4) (.lst (.cons (.tup (.cons (.str "a") .nil)) (.cons (.tup (.cons (.str "b") (.cons (.str "a") .nil))) (.cons (.tup (.cons (.int 1) (.cons (.int 2) .nil))) (.cons (.tup (.cons (.int 1) (.cons (.tup (.cons (.str "a") (.cons (.str "b") .nil))) .nil))) .nil))))))) s2)) [.im (.list (dI ns)), .rf (dI l), .im d, c3, c4] = evS F FU s2 [.im (.list (dI ns)), .rf (dI l), .im d, c3, .im (.list csB)] := fun s2 => by
    rw [s_seq (ρ' := [.im (.list (dI ns)), .rf (dI l), .im d, c3, .im (.list (csB.take 15))]) rfl]
    exact s_seq rfl
  have fin : ∀ (xs : List D), xs.length ≤ 500 → 1 ≤ xs.length → (∀ x ∈ xs, Fn true (k + 1) (n + 3) x) → ∃ (r : D) (l' : List Int) (c4' : Cell), evS F FU (.seq (.ret (.callS "_law_pick" 1 (.loc 0) (.cons (.loc 4) .nil))) .skip) [.im (.list (dI ns)), .rf (dI l), .im d, c3, .im (.list xs)] = .ok (.rt r, [.im (.list (dI ns)), .rf (dI l'), .im d, c3, c4']) ∧ Fn true (k + 1) (n + 3) r ∧ l'.length ≤ l.length + 2 := fun xs h1 h2 h3 => by
    obtain ⟨r, l', hpk, hm, hl'⟩ := hp ns xs l h2 (by omega) hl hns
    refine ⟨r, l', .im (.list xs), ?_, h3 r hm, hl'⟩
    simp [rd, lstAt, hpk]
  have hcs : ∀ x ∈ csB, Fn true (k + 1) (n + 3) x := csB_fn
  have hc19 : csB.length = 19 := rfl
  unfold baseS
  rw [e12]
  cases d with
  | tuple xs =>
    obtain ⟨m, rfl, hx, hxl⟩ := hd.items
    have up : ∀ x ∈ xs, Fn true (k + 1) (m + 3) x := fun x h => (hx x h).mono (by omega) (fun _ => rfl) (by omega)
    obtain ⟨y1, s1, u1, v1⟩ := slc_sub none (some (-1)) xs
    obtain ⟨y2, s2, u2, v2⟩ := slc_last xs
    obtain ⟨y3, s3, u3, v3⟩ := slc_sub (some 1) none xs
    have a1 : binD .add (.tuple xs) (.tuple y2) = .ok (.tuple (xs ++ y2)) := addt_ok (lim19 (by omega))
    have a2 : binD .add (.tuple xs) (.tuple [.none]) = .ok (.tuple (xs ++ [.none])) := addt_ok (lim19 (by simp; omega))
    have a3 : binD .add (.list csB) (.list [.list xs, .tuple y1, .tuple (xs ++ y2), .tuple y3, .tuple xs.reverse, .tuple (xs ++ [.none])]) = .ok (.list (csB ++ [.list xs, .tuple y1, .tuple (xs ++ y2), .tuple y3, .tuple xs.reverse, .tuple (xs ++ [.none])])) := addl_ok (lim19 (by simp [hc19]))
    have e3 : evS F FU (.ite (.tr (.isi (.loc 2) .tuple)) (.seq (.asg 4 (.bin .add (.loc 4) (.lst (.cons (.prim .list (.loc 2)) (.cons (.slc (.loc 2) .nil (.tr (.neg (.int 1)))) (.cons (.bin .add (.loc 2) (.slc (.loc 2) (.tr (.neg (.int 1))) .nil)) (.cons (.slc (.loc 2) (.tr (.int 1)) .nil) (.cons (.rev (.loc 2)) (.cons (.bin .add (.loc 2) (.tup (.cons .non .nil))) .nil))))))))) .skip) .skip) [.im (.list (dI ns)), .rf (dI l), .im (.tuple xs), c3, .im (.list csB)] = .ok (.nx, [.im (.list (dI ns)), .rf (dI l), .im (.tuple xs), c3, .im (.list (csB ++ [.list xs, .tuple y1, .tuple (xs ++ y2), .tuple y3, .tuple xs.reverse, .tuple (xs ++ [.none])]))]) := by
      simp [peek, isTy, truthD, rd, optI, s1, s2, s3, a1, a2, a3, revD]
    rw [s_seq e3, s_seq (ρ' := [.im (.list (dI ns)), .rf (dI l), .im (.tuple xs), c3, .im (.list (csB ++ [.list xs, .tuple y1, .tuple (xs ++ y2), .tuple y3, .tuple xs.reverse, .tuple (xs ++ [.none])]))]) rfl]
    refine fin _ (by simp [hc19]) (by simp) fun x hxm => ?_
    rcases List.mem_append.mp hxm with hxm | hxm
    · exact hcs x hxm
    · have mk : ∀ ys : List D, (∀ y ∈ ys, y ∈ xs ∨ y = .none) → ys.length ≤ 40 + (k + 1) → Fn true (k + 1) (m + 1 + 3) (.tuple ys) := fun ys hy hyl => .tup (fun y hym => by
        rcases hy y hym with h | rfl
        · exact up y h
        · exact .non) hyl
      refine fn_cons (.lst up (by omega)) (fn_cons (mk y1 (fun y h => .inl (u1 y h)) (by omega)) (fn_cons (mk _ (fun y h => .inl ((List.mem_append.mp h).elim id (u2 y))) (by simp; omega)) (fn_cons (mk y3 (fun y h => .inl (u3 y h)) (by omega)) (fn_cons (mk _ (fun y h => .inl (List.mem_reverse.mp h)) (by simp; omega)) (fn_cons (mk _ (fun y h => ?_) (by simp; omega)) fn_nil))))) x hxm
      rcases List.mem_append.mp h with h | h
      · exact .inl h
      · exact .inr (List.mem_singleton.mp h)
  | int i =>
    have hi : i.natAbs ≤ 100 + k := by cases hd with | int h => exact h
    have hlog : i.natAbs.log2 < 1920 := by
      have : i.natAbs < 2 ^ 1920 := Nat.lt_of_le_of_lt (show i.natAbs ≤ 110 by omega) (by decide)
      by_cases h0 : i.natAbs = 0
      · rw [h0]; decide
      · exact (Nat.log2_lt h0).mpr this
    have hst : primD .str (.int i) = .ok (.str (toString i)) := if_pos hlog
    have hrep : ∀ a b c e f : D, repD [a, b, c, e, f] (.int 2) = .ok [a, b, c, e, f, a, b, c, e, f] := fun _ _ _ _ _ => rfl
    have a3 : ∀ ys : List D, ys.length ≤ 10 → binD .add (.list csB) (.list ys) = .ok (.list (csB ++ ys)) := fun ys h => addl_ok (lim19 (by rw [hc19]; omega))
    generalize hys : ([.int (i + 1), .int (i - 1), .bool (!(i != 0)), .tuple [.int i], .str (toString i)] : List D) = ys
    have e4 : evS F FU (.ite (.tr (.isi (.loc 2) .int)) (.seq (.asg 4 (.bin .add (.loc 4) (.rep (.cons (.bin .add (.loc 2) (.int 1)) (.cons (.bin .sub (.loc 2) (.int 1)) (.cons (.not (.loc 2)) (.cons (.tup (.cons (.loc 2) .nil)) (.cons (.prim .str (.loc 2)) .nil))))) (.int 2)))) .skip) .skip) [.im (.list (dI ns)), .rf (dI l), .im (.int i), c3, .im (.list csB)] = .ok (.nx, [.im (.list (dI ns)), .rf (dI l), .im (.int i), c3, .im (.list (csB ++ (ys ++ ys)))]) := by
      subst hys
      simp [peek, isTy, truthD, rd, hst, hrep, a3]
    rw [s_seq (ρ' := [.im (.list (dI ns)), .rf (dI l), .im (.int i), c3, .im (.list csB)]) rfl, s_seq e4]
    have hyf : ∀ x ∈ ys, Fn true (k + 1) (n + 3) x := by
      subst hys
      exact fn_cons (.int (by omega)) (fn_cons (.int (by omega)) (fn_cons (.bool _ rfl) (fn_cons (fn_tup1 (.int (by omega))) (fn_cons (.str (str_small (by omega))) fn_nil))))
    have hyl : ys.length = 5 := by subst hys; rfl
    refine fin _ (by simp [hc19, hyl]) (by simp [hc19, hyl]) fun x hxm => ?_
    rcases List.mem_append.mp hxm with hxm | hxm
    · exact hcs x hxm
    · rcases List.mem_append.mp hxm with hxm | hxm <;> exact hyf x hxm
  | bool b => cases hd with | bool _ h => cases h
  | _ =>
    rw [s_seq rfl, s_seq rfl]
    exact fin csB (by decide) (by decide) hcs
end FtLaw
namespace FtLaw
open PySem Ft
def BentOk (g : List D → List D → R (D × List D)) (n : Nat) : Prop := ∀ (ns : List Int) (k : Nat) (d : D) (l : List Int), Fn false k n d → k ≤ 10 → ns.length ≤ 63 → l.length + 10 * (n + 1) < 800000 →
  ∃ (r : D) (l' : List Int), g [.list (dI ns), d] (dI l) = .ok (r, dI l') ∧ Fn true (k + 1) (n + 3) r ∧ l'.length ≤ l.length + 10 * (n + 1)
theorem slc_pre (xs : List D) (k : Int) (h : 0 ≤ k) : slcD none (some k) (.tuple xs) = .ok (.tuple (xs.take k.toNat)) := by
  show Except.ok (PyData.tuple (cutL xs none (some k))) = _
  have e : cutIx xs.length xs.length (some k) = min k.toNat xs.length := if_neg (by omega)
  unfold cutL
  rw [e]
  show Except.ok (PyData.tuple (List.take (min k.toNat xs.length - 0) (List.drop 0 xs))) = _
  rw [Nat.sub_zero, List.drop_zero, ← List.take_take, List.take_length]
theorem slc_suf (xs : List D) (k : Int) (h : 0 ≤ k) (h2 : k ≤ xs.length) : slcD (some k) none (.tuple xs) = .ok (.tuple (xs.drop k.toNat)) := by
  show Except.ok (PyData.tuple (cutL xs (some k) none)) = _
  have e : cutIx xs.length 0 (some k) = min k.toNat xs.length := if_neg (by omega)
  unfold cutL
  rw [e]
  show Except.ok (PyData.tuple (List.take (xs.length - min k.toNat xs.length) (List.drop (min k.toNat xs.length) xs))) = _
  rw [Nat.min_eq_left (by omega), List.take_of_length_le (by rw [List.length_drop]; omega)]
theorem bent_step {F : Fns} (hdr : DrawOk (F.g "_law_draw")) (hp : PickOk (F.g "_law_pick")) {n : Nat} (hrec : ∀ m, m + 1 = n → BentOk (F.g "_law_bent") m) : BentOk (evG F FU b_law_bent) n := fun ns k d l hd hk hns hl => by
  rw [evG_of rfl]
  show ∃ (r : D) (l' : List Int), bindR (evS F FU b_law_bent.b [.im (.list (dI ns)), .rf (dI l), .im d, .no, .no]) finG = _ ∧ _
  unfold b_law_bent
  dsimp only
  have base : ∀ (l1 : List Int) (s2 : S), l1.length ≤ l.length + 2 → evT F (.or (.not (.tr (.isi (.loc 2) .tuple))) (.or (.not (.tr (.loc 2))) (.tr (.cmp .eq (.callS "_law_draw" 1 (.loc 0) (.cons (.int 4) .nil)) (.int 0))))) [.im (.list (dI ns)), .rf (dI l), .im d, .no, .no] = .ok (true, [.im (.list (dI ns)), .rf (dI l1), .im d, .no, .no]) →
      ∃ (r : D) (l' : List Int), bindR (evS F FU (.seq (.ite (.or (.not (.tr (.isi (.loc 2) .tuple))) (.or (.not (.tr (.loc 2))) (.tr (.cmp .eq (.callS "_law_draw" 1 (.loc 0) (.cons (.int 4) .nil)) (.int 0))))) baseS .skip) s2) [.im (.list (dI ns)), .rf (dI l), .im d, .no, .no]) finG = .ok (r, dI l') ∧ Fn true (k + 1) (n + 3) r ∧ l'.length ≤ l.length + 10 * (n + 1) := fun l1 s2 h1 ht => by
    obtain ⟨r, l', c4, e, hf, hl'⟩ := bent_base hp hns hk hd (l := l1) (by omega) .no .no
    refine ⟨r, l', ?_, hf, by omega⟩
    have e2 : evS F FU (.ite (.or (.not (.tr (.isi (.loc 2) .tuple))) (.or (.not (.tr (.loc 2))) (.tr (.cmp .eq (.callS "_law_draw" 1 (.loc 0) (.cons (.int 4) .nil)) (.int 0))))) baseS .skip) [.im (.list (dI ns)), .rf (dI l), .im d, .no, .no] = .ok (.rt r, [.im (.list (dI ns)), .rf (dI l'), .im d, .no, c4]) := by
      rw [evS_ite, ht]
      exact e
    rw [s_seqR e2]
    rfl
  have notTup : isTy .tuple d = false → evT F (.or (.not (.tr (.isi (.loc 2) .tuple))) (.or (.not (.tr (.loc 2))) (.tr (.cmp .eq (.callS "_law_draw" 1 (.loc 0) (.cons (.int 4) .nil)) (.int 0))))) [.im (.list (dI ns)), .rf (dI l), .im d, .no, .no] = .ok (true, [.im (.list (dI ns)), .rf (dI l), .im d, .no, .no]) := fun h =>
    t_or' (x := true) (y := true) (t_not' (t_trB (q_isi (qp_loc rfl) h))) fun h => by cases h
  cases d with
  | tuple xs =>
    cases xs with
    | nil =>
      refine base l _ (by omega) ?_
      exact t_or' (x := false) (y := true) (t_not' (t_trB (q_isi (qp_loc rfl) rfl))) fun _ => t_or' (x := true) (y := true) (t_not' (t_tr' (qp_loc rfl) rfl)) fun h => by cases h
    | cons x xs =>
      obtain ⟨m, rfl, hx, hxl⟩ := hd.items
      obtain ⟨r1, l1, h1, r10, r11, hl1, _⟩ := hdr ns 4 l (by decide) (by omega) hns
      have ht : evT F (.or (.not (.tr (.isi (.loc 2) .tuple))) (.or (.not (.tr (.loc 2))) (.tr (.cmp .eq (.callS "_law_draw" 1 (.loc 0) (.cons (.int 4) .nil)) (.int 0))))) [.im (.list (dI ns)), .rf (dI l), .im (.tuple (x :: xs)), .no, .no] = .ok (r1 == 0, [.im (.list (dI ns)), .rf (dI l1), .im (.tuple (x :: xs)), .no, .no]) := by
        have hq : cmpD .eq (.int r1) (.int 0) = .ok (r1 == 0) := rfl
        simp [peek, isTy, truthD, lstAt, rd, h1, hq]
      by_cases h0 : (r1 == 0) = true
      · rw [h0] at ht
        exact base l1 _ hl1 ht
      · rw [Bool.eq_false_iff.mpr h0] at ht
        obtain ⟨at_, l2, h2, a0, a1, hl2, _⟩ := hdr ns ((x :: xs).length : Nat) l1 (by simp) (by omega) hns
        obtain ⟨y, hy, hy2⟩ := atD_ok (l := x :: xs) (i := at_) a0 a1
        obtain ⟨r, l3, h3, hf, hl3⟩ := hrec m rfl ns k y l2 (hx y (List.mem_of_getElem? hy2)) hk hns (by omega)
        refine ⟨.tuple ((x :: xs).take at_.toNat ++ [r] ++ (x :: xs).drop (at_ + 1).toNat), l3, ?_, .tup (fun z hz => ?_) ?_, by omega⟩
        · have e2 : evS F FU (.ite (.or (.not (.tr (.isi (.loc 2) .tuple))) (.or (.not (.tr (.loc 2))) (.tr (.cmp .eq (.callS "_law_draw" 1 (.loc 0) (.cons (.int 4) .nil)) (.int 0))))) baseS .skip) [.im (.list (dI ns)), .rf (dI l), .im (.tuple (x :: xs)), .no, .no] = .ok (.nx, [.im (.list (dI ns)), .rf (dI l1), .im (.tuple (x :: xs)), .no, .no]) := by
            rw [evS_ite, ht]
            rfl
          show bindR (evS F FU (.seq (.ite (.or (.not (.tr (.isi (.loc 2) .tuple))) (.or (.not (.tr (.loc 2))) (.tr (.cmp .eq (.callS "_law_draw" 1 (.loc 0) (.cons (.int 4) .nil)) (.int 0))))) baseS .skip) _) [.im (.list (dI ns)), .rf (dI l), .im (.tuple (x :: xs)), .no, .no]) finG = _
          rw [s_seq e2]
          have e3 : evS F FU (.asg 3 (.callS "_law_draw" 1 (.loc 0) (.cons (.prim .len (.loc 2)) .nil))) [.im (.list (dI ns)), .rf (dI l1), .im (.tuple (x :: xs)), .no, .no] = .ok (.nx, [.im (.list (dI ns)), .rf (dI l2), .im (.tuple (x :: xs)), .im (.int at_), .no]) := by
            generalize (x :: xs) = xx at h2 ⊢
            simp [lstAt, rd, peek, h2]
          rw [s_seq e3]
          have p1 := slc_pre (x :: xs) at_ a0
          have p2 := slc_suf (x :: xs) (at_ + 1) (by omega) (by omega)
          have hix : ixD (.tuple (x :: xs)) (.int at_) = .ok y := hy
          have hl100 : ((x :: xs).take at_.toNat).length ≤ 200 := by rw [List.length_take]; omega
          have hl100' : ((x :: xs).drop (at_ + 1).toNat).length ≤ 200 := by rw [List.length_drop]; omega
          have b1 : binD .add (.tuple ((x :: xs).take at_.toNat)) (.tuple [r]) = .ok (.tuple ((x :: xs).take at_.toNat ++ [r])) := addt_ok (lim19 (by simp only [List.length_cons, List.length_nil]; omega))
          have b2 : binD .add (.tuple ((x :: xs).take at_.toNat ++ [r])) (.tuple ((x :: xs).drop (at_ + 1).toNat)) = .ok (.tuple ((x :: xs).take at_.toNat ++ [r] ++ (x :: xs).drop (at_ + 1).toNat)) := addt_ok (lim19 (by rw [List.length_append]; simp only [List.length_cons, List.length_nil]; omega))
          generalize (x :: xs) = xx at p1 p2 hix b1 b2 ⊢
          simp only [evS_seq, evS_ret, evE_bin, evE_slc, evE_loc, evE_tup, evA_cons, evA_nil, evE_callS, evE_ix, evO_nil, evO_tr, evE_int]
          simp only [rd, List.getElem?_cons_zero, List.getElem?_cons_succ, bindR_ok, bindC_ok, optI, p1, lstAt, hix, h3, List.set_cons_zero, List.set_cons_succ, b1, add_ok, p2, b2, finG]
        · rcases List.mem_append.mp hz with hz | hz
          · rcases List.mem_append.mp hz with hz | hz
            · exact (hx z (List.mem_of_mem_take hz)).mono (by omega) (fun _ => rfl) (by omega)
            · rw [List.mem_singleton] at hz
              subst hz
              exact hf
          · exact (hx z (List.mem_of_mem_drop hz)).mono (by omega) (fun _ => rfl) (by omega)
        · have : at_.toNat < (x :: xs).length := by omega
          rw [List.length_append, List.length_append, List.length_take, List.length_drop, List.length_singleton]
          omega
  | _ => exact base l _ (by omega) (notTup rfl)
theorem addG_ne {F : Fns} {x y : Str} {g : List D → List D → R (D × List D)} (h : y ≠ x) : (addG F x g).g y = F.g y := if_neg h
theorem bentRec {F : Fns} (hdr : DrawOk (F.g "_law_draw")) (hp : PickOk (F.g "_law_pick")) : ∀ (m n : Nat), n < m → BentOk (recG F FU "_law_bent" b_law_bent m) n
  | 0, n, h => by omega
  | m + 1, n, h => by
    have hF1 : (addG F "_law_bent" (recG F FU "_law_bent" b_law_bent m)).g "_law_draw" = F.g "_law_draw" := addG_ne (by decide +kernel)
    have hF2 : (addG F "_law_bent" (recG F FU "_law_bent" b_law_bent m)).g "_law_pick" = F.g "_law_pick" := addG_ne (by decide +kernel)
    exact bent_step (F := addG F "_law_bent" (recG F FU "_law_bent" b_law_bent m)) (by rw [hF1]; exact hdr) (by rw [hF2]; exact hp) fun j hj => by
      rw [addG_g]
      exact bentRec hdr hp m j (by omega)
end FtLaw
namespace FtLaw
open PySem Ft
theorem Fn.lay {bl : Bool} {k n : Nat} {d : D} (h : Fn bl k n d) : PyData.canLay0 d = true ∧ PyData.depth d ≤ n := by
  induction h with
  | non => exact ⟨by simp [PyData.canLay0], by simp [PyData.depth]⟩
  | bool b h => exact ⟨by simp [PyData.canLay0], by simp [PyData.depth]⟩
  | int h => exact ⟨by simp [PyData.canLay0], by simp [PyData.depth]⟩
  | str h => exact ⟨by simp [PyData.canLay0, h.2], by simp [PyData.depth]⟩
  | lst h hl ih =>
    obtain ⟨h1, h2⟩ := lay_all ih
    exact ⟨by simp [PyData.canLay0, h1], by simp only [PyData.depth]; omega⟩
  | tup h hl ih =>
    obtain ⟨h1, h2⟩ := lay_all ih
    exact ⟨by simp [PyData.canLay0, h1], by simp only [PyData.depth]; omega⟩
end FtLaw
/-! MSelf: data is equal to itself; systems can be laid. -/
namespace FtLaw
open PySem Ft
theorem eq_self {d : D} (h : SeqAt.shaped d = true) : cmpD .eq d d = .ok true := by
  show eqD d d = _
  unfold eqD
  rw [h, SeqAt.eqv_refl d (SeqAt.canLay_of_shaped h)]
  simp
theorem ne_self {d : D} (h : SeqAt.shaped d = true) : cmpD .ne d d = .ok false := by
  show bindR (eqD d d) _ = _
  have : eqD d d = .ok true := eq_self h
  rw [this]
  rfl
theorem lay_in {ps : List Str} (hy : Lay ps) {n : Nat} {d : D} (h : InOk ps n d) : PyData.canLay0 d = true ∧ PyData.depth d ≤ 0 := by
  rcases h with ⟨s, hs, rfl⟩ | ⟨i, rfl, _⟩
  · exact ⟨by simp [PyData.canLay0, hy s hs], by simp [PyData.depth]⟩
  · exact ⟨by simp [PyData.canLay0], by simp [PyData.depth]⟩
theorem lay_tup {n : Nat} {xs : List D} (h : ∀ x ∈ xs, PyData.canLay0 x = true ∧ PyData.depth x ≤ n) : PyData.canLay0 (.tuple xs) = true ∧ PyData.depth (.tuple xs) ≤ n + 1 := by
  obtain ⟨h1, h2⟩ := lay_all h
  exact ⟨by simp only [PyData.canLay0]; exact h1, by simp only [PyData.depth]; omega⟩
theorem lay_gates {ps : List Str} (hy : Lay ps) {gs : List (Int × List D)} (h : GatesOk ps gs) : ∀ x ∈ gs.map gateD, PyData.canLay0 x = true ∧ PyData.depth x ≤ 2 := fun x hx => by
  obtain ⟨g, hg, rfl⟩ := List.mem_map.mp hx
  obtain ⟨i, hi, e⟩ := List.getElem_of_mem hg
  have hk := h i g (by rw [List.getElem?_eq_getElem hi, e])
  refine lay_tup fun y hy' => ?_
  rcases List.mem_cons.mp hy' with rfl | hy'
  · exact ⟨by simp [PyData.canLay0], by simp [PyData.depth]⟩
  · rcases List.mem_cons.mp hy' with rfl | hy'
    · exact lay_tup fun z hz => lay_in hy (hk.ins z hz)
    · cases hy'
theorem lay_sys {ps : List Str} {gs : List (Int × List D)} (ok : SysOk ps gs) : PyData.canLay0 (sysD ps gs) = true ∧ PyData.depth (sysD ps gs) ≤ 4 := by
  have hy := lay_words ok.words
  refine lay_tup fun x hx => ?_
  rcases List.mem_cons.mp hx with rfl | hx
  · obtain ⟨h1, h2⟩ := lay_row hy
    exact ⟨h1, by have h2 : PyData.depth (.tuple (dS ps)) ≤ 1 := h2; omega⟩
  · rcases List.mem_cons.mp hx with rfl | hx
    · exact lay_tup (lay_gates hy ok.gates)
    · cases hx
theorem shaped_of {d : D} {n : Nat} (h : PyData.canLay0 d = true ∧ PyData.depth d ≤ n) (hn : n ≤ 60) : SeqAt.shaped d = true := by
  unfold SeqAt.shaped
  rw [Bool.and_eq_true]
  exact ⟨h.1, decide_eq_true (by omega)⟩
theorem shaped_sys {ps : List Str} {gs : List (Int × List D)} (ok : SysOk ps gs) : SeqAt.shaped (sysD ps gs) = true := shaped_of (lay_sys ok) (by omega)
theorem shaped_ints (xs : List Int) : SeqAt.shaped (.tuple (dI xs)) = true := shaped_of (n := 1) (lay_tup fun x hx => by
  obtain ⟨i, _, rfl⟩ := List.mem_map.mp hx
  exact ⟨by simp [PyData.canLay0], by simp [PyData.depth]⟩) (by omega)
theorem shaped_frac (a b : Int) : SeqAt.shaped (.tuple [.int a, .int b]) = true := shaped_ints [a, b]
end FtLaw
/-! MListD: is_valid_list and _law_is_list of any data. -/
namespace FtLaw
open PySem Ft
/-- what stands in a list that is asked about -/
def Nc (d : D) : Prop := (PyData.canLay0 d = true ∧ PyData.depth d ≤ 20) ∧ ∀ xs, d = .tuple xs → xs.length ≤ 60
/-- what is asked about -/
def Nt (d : D) : Prop := ∀ ds, d = .list ds → ds.length ≤ 75 ∧ ∀ x ∈ ds, Nc x
def eT : D → Bool
  | .tuple [] => true
  | _ => false
def rowB (ps : List Str) (x : D) : Bool := setB ps x && !eT x
theorem eq_nilT {xs : List D} (h : SeqAt.shaped (.tuple xs) = true) : cmpD .eq (.tuple xs) (.tuple []) = .ok xs.isEmpty := by
  have h0 : SeqAt.shaped (.tuple ([] : List D)) = true := shaped_row (r := []) lay_nil
  show eqD _ _ = _
  unfold eqD
  rw [h, h0]
  cases xs with
  | nil => simp [PyData.eqv, PyData.eqvAll]
  | cons x r => simp [PyData.eqv, PyData.eqvAll]
theorem ne_strsL {a b : List Str} (ha : Lay a) (hb : Lay b) : cmpD .ne (.list (dS a)) (.list (dS b)) = .ok (!decide (a = b)) := by
  have e : eqD (.list (dS a)) (.list (dS b)) = .ok (decide (a = b)) := by
    unfold eqD
    rw [shaped_strs ha, shaped_strs hb, Bool.and_self, Bool.or_true, if_pos rfl, PyData.eqv, eqvAll_dS]
  show bindR (eqD _ _) _ = _
  rw [e, bindR_ok]
theorem dedS_id : ∀ {l : List Str}, l.Nodup → dedS l = l
  | [], _ => rfl
  | x :: l, h => by
    have h := List.nodup_cons.mp h
    unfold dedS
    rw [if_neg h.1, dedS_id h.2]
theorem rise_weak {l : List Str} (h : l.Pairwise fun a b => strLt a b = true) : RiseS l := h.imp fun q => strLt_asymm q
theorem rise_stri2 {l : List Str} (h : RiseS l) (hn : l.Nodup) : l.Pairwise fun a b => strLt a b = true := by
  refine (List.Pairwise.and h hn).imp fun {a b} q => ?_
  cases h1 : strLt a b with
  | true => rfl
  | false => exact absurd (strLt_tri h1 q.1) q.2
theorem sorted_asc {l : List Str} : decide (l = sortS (dedS l)) = ascB (dS l) := by
  rw [Bool.eq_iff_iff, decide_eq_true_iff]
  constructor
  · intro e
    have h1 : RiseS l := by
      rw [e]
      exact sortS_rise _
    have h2 : l.Nodup := by
      rw [e]
      exact (sortS_perm _).nodup_iff.mpr (dedS_nodup l)
    exact asc_of (rise_stri2 h1 h2)
  · intro h
    have hp := asc_pair h
    have hn := nodup_of_rise hp
    rw [dedS_id hn]
    exact rise_unique (rise_weak hp) (sortS_rise _) (sortS_perm _).symm
theorem dedS_len : ∀ l : List Str, (dedS l).length ≤ l.length
  | [] => Nat.le_refl _
  | x :: l => by
    have := dedS_len l
    unfold dedS
    split <;> simp <;> omega
section
variable {ps : List Str} {x : D}
theorem all_dS {l : List Str} : (dS l).all (memB ps) = true ↔ ∀ s ∈ l, s ∈ ps := by
  rw [List.all_eq_true]
  constructor
  · intro h s hs
    exact of_decide_eq_true (h _ (List.mem_map.mpr ⟨s, hs, rfl⟩))
  · intro h d hd
    obtain ⟨s, hs, rfl⟩ := List.mem_map.mp hd
    exact decide_eq_true (h s hs)
/-- rows that pass -/
theorem row_pass (h : rowB ps x = true) : ∃ l : List Str, x = rowD l ∧ (∀ s ∈ l, s ∈ ps) ∧ ascB (dS l) = true ∧ l ≠ [] := by
  unfold rowB at h
  rw [Bool.and_eq_true] at h
  obtain ⟨h1, h2⟩ := h
  cases x with
  | tuple xs =>
    have h1 : (xs.all (memB ps) && ascB xs) = true := h1
    rw [Bool.and_eq_true] at h1
    obtain ⟨l, rfl, hl⟩ := mem_strs h1.1
    refine ⟨l, rfl, hl, h1.2, fun e => ?_⟩
    subst e
    cases h2
  | _ => cases h1
theorem rows_pass : ∀ {ds : List D}, (∀ x ∈ ds, rowB ps x = true) → ∃ l : List (List Str), ds = l.map rowD ∧ ∀ r ∈ l, (∀ s ∈ r, s ∈ ps) ∧ ascB (dS r) = true ∧ r ≠ []
  | [], _ => ⟨[], rfl, fun _ h => by cases h⟩
  | x :: ds, h => by
    obtain ⟨r, rfl, hr⟩ := row_pass (h x List.mem_cons_self)
    obtain ⟨l, rfl, hl⟩ := rows_pass (ds := ds) fun y hy => h y (List.mem_cons_of_mem _ hy)
    refine ⟨r :: l, rfl, fun z hz => ?_⟩
    rcases List.mem_cons.mp hz with rfl | hz
    · exact hr
    · exact hl z hz
abbrev ilC : E := .lc (.one 3) (.sq (.loc 2)) (.or (.not (.tr (.isi (.loc 3) .str))) (.tr (.cmp .notin (.loc 3) (.loc 0)))) (.loc 3)
abbrev ilB : S := (.seq (.ite (.or (.not (.tr (.isi (.loc 2) .tuple))) (.tr (.cmp .eq (.loc 2) (.tup .nil)))) (.seq (.ret (.bl false)) .skip) .skip) (.seq (.ite (.tr ilC) (.seq (.ret (.bl false)) .skip) .skip) (.seq (.ite (.tr (.cmp .ne (.prim .list (.loc 2)) (.sset (.loc 2)))) (.seq (.ret (.bl false)) .skip) .skip) .skip)))
theorem notin_de2 (s : Str) : cmpD .notin (.str s) (rowD ps) = .ok (!decide (s ∈ ps)) := by
  have h := in_dec ps s
  show bindR (cmpD .isin (.str s) (rowD ps)) _ = _
  first | rw [h, bindR_ok] | (rw [show cmpD .isin (.str s) (rowD ps) = _ from h]; rfl)
/-- a row, asked by hand -/
theorem il_turn (hy : Lay ps) (hx : Nc x) (d : D) : evS FT_law_is_list FU ilB [.im (rowD ps), .im d, .im x, .no] = .ok (resO (if rowB ps x then none else some (.bool false)), [.im (rowD ps), .im d, .im x, .no]) := by
  have hL : LIM = 1000000 := rfl
  cases hty : isTy .tuple x with
  | false =>
    have ht : evT FT_law_is_list (.or (.not (.tr (.isi (.loc 2) .tuple))) (.tr (.cmp .eq (.loc 2) (.tup .nil)))) [.im (rowD ps), .im d, .im x, .no] = .ok (true || false, [.im (rowD ps), .im d, .im x, .no]) := t_or' (t_not' (t_trB (q_isi (qp_loc rfl) hty))) fun h => by cases h
    have hn : rowB ps x = false := by
      cases x with
      | tuple xs => cases hty
      | _ => rfl
    rw [s_ifret (d := .bool false) ht fun _ => rfl, hn]
    rfl
  | true =>
    obtain ⟨xs, rfl⟩ : ∃ xs, x = .tuple xs := by cases x <;> first | exact ⟨_, rfl⟩ | cases hty
    have hlen := hx.2 xs rfl
    have hsh := shaped_of hx.1 (by omega)
    have ht : evT FT_law_is_list (.or (.not (.tr (.isi (.loc 2) .tuple))) (.tr (.cmp .eq (.loc 2) (.tup .nil)))) [.im (rowD ps), .im d, .im (.tuple xs), .no] = .ok (false || xs.isEmpty, [.im (rowD ps), .im d, .im (.tuple xs), .no]) := t_or' (t_not' (t_trB (q_isi (qp_loc rfl) rfl))) fun _ => t_trB (q_cmp (q_loc rfl) (qp_of rfl) (eq_nilT hsh))
    rw [s_ifret (d := .bool false) ht fun _ => rfl]
    cases he : xs.isEmpty with
    | true =>
      have : xs = [] := List.isEmpty_iff.mp he
      subst this
      rfl
    | false =>
      rw [Bool.or_false, if_neg (by simp)]
      have hq := q_filter (F := FT_law_is_list) (ρ := [.im (rowD ps), .im d, .im (.tuple xs), .no]) (t := .one 3) (it := .sq (.loc 2)) (c := .or (.not (.tr (.isi (.loc 3) .str))) (.tr (.cmp .notin (.loc 3) (.loc 0)))) (e := .loc 3) (xs := xs) (fun z => !memB ps z) id (i_tup (q_loc rfl)) (by omega) (fun z hz => by
        refine ⟨[.im (rowD ps), .im d, .im (.tuple xs), .im z], rfl, ?_, fun _ => q_loc rfl, rfl⟩
        cases z with
        | str s => exact t_or' (x := false) (y := !decide (s ∈ ps)) (t_not' (x := true) (t_trB (q_isi (qp_loc rfl) rfl))) fun _ => t_trB (q_cmp (q_loc rfl) (qp_loc rfl) (notin_de2 s))
        | _ => exact t_or' (x := true) (y := false) (t_not' (x := false) (t_trB (q_isi (qp_loc rfl) rfl))) fun h => by cases h) rfl
      have hz : truthD (.list ((xs.filter fun z => !memB ps z).map id)) = .ok (!xs.all (memB ps)) := by
        show Except.ok (!((xs.filter fun z => !memB ps z).map id).isEmpty) = _
        congr 2
        rw [List.map_id, not_any_empty, List.all_eq_not_any_not]
      rw [s_ifret (d := .bool false) (t_tr' (qp_of hq) hz) fun _ => rfl]
      cases hal : xs.all (memB ps) with
      | false =>
        have : rowB ps (.tuple xs) = false := by
          show ((xs.all (memB ps) && ascB xs) && _) = false
          rw [hal]
          rfl
        rw [this]
        rfl
      | true =>
        obtain ⟨l, rfl, hl⟩ := mem_strs hal
        have hyl : Lay l := fun s hs => hy s (hl s hs)
        have hys : Lay (sortS (dedS l)) := fun s hs => hyl s (mem_dedS.mp ((sortS_perm _).mem_iff.mp hs))
        have hb : rowB ps (.tuple (dS l)) = ascB (dS l) := by
          show (((dS l).all (memB ps) && ascB (dS l)) && !eT (.tuple (dS l))) = _
          rw [hal]
          cases l with
          | nil => cases he
          | cons a r => simp [eT]
        have hlen2 : l.length ≤ 60 := by
          rw [List.length_map] at hlen
          exact hlen
        have es : evE FT_law_is_list (.sset (.loc 2)) [.im (rowD ps), .im d, .im (.tuple (dS l)), .no] = .ok (.list (dS (sortS (dedS l))), [.im (rowD ps), .im d, .im (.tuple (dS l)), .no]) := by
          rw [evE_sset, q_loc rfl, bindR_ok]
          show bindC (bindR (strsD (dS l)) _) _ = _
          rw [strs_map, bindR_ok, if_pos (by omega), bindC_ok]
        have t3 : evT FT_law_is_list (.tr (.cmp .ne (.prim .list (.loc 2)) (.sset (.loc 2)))) [.im (rowD ps), .im d, .im (.tuple (dS l)), .no] = .ok (!ascB (dS l), [.im (rowD ps), .im d, .im (.tuple (dS l)), .no]) := t_trB (q_cmp (d := .list (dS l)) (q_prim (qp_loc rfl) rfl) (qp_of es) (by rw [ne_strsL hyl hys, sorted_asc]))
        rw [Bool.not_true, if_neg (by simp), s_ifret (d := .bool false) t3 fun _ => rfl, hb]
        cases ascB (dS l) <;> rfl
theorem nt_shaped {ds : List D} (h : Nt (.list ds)) : SeqAt.shaped (.list ds) = true := shaped_list (n := 20) (by omega) fun x hx => ((h ds rfl).2 x hx).1
theorem il_t1 {F : Fns} {ds : List D} (h : Nt (.list ds)) {ρ : Ft.Env} (h1 : ρ[1]? = some (.im (.list ds))) : evT F (.or (.not (.tr (.isi (.loc 1) .list))) (.tr (.cmp .eq (.loc 1) (.lst .nil)))) ρ = .ok (ds.isEmpty, ρ) := by
  have hq : evE F (.loc 1) ρ = .ok (.list ds, ρ) := q_loc h1
  have hp : QP F (.loc 1) ρ (.list ds) := qp_loc h1
  have := t_or' (F := F) (ρ := ρ) (x := false) (y := ds.isEmpty) (t_not' (x := true) (t_trB (q_isi (ty := .list) hp rfl))) (fun _ => t_trB (q_cmp hq (qp_of (q_lst q_nil)) (eq_nil (nt_shaped h))))
  rwa [Bool.false_or] at this
theorem valid_bad (hy : Lay ps) {ds : List D} (h : Nt (.list ds)) (hb : ds.all (rowB ps) = false) : f_is_valid_list [rowD ps, .list ds] = .ok (.bool false) := by
  have hL : LIM = 1000000 := rfl
  have hl := h ds rfl
  refine f_done rfl (ρ' := [.im (rowD ps), .im (.list ds), .no]) ?_
  show evS FT_is_valid_list FU b_is_valid_list.b [.im (rowD ps), .im (.list ds), .no] = _
  unfold b_is_valid_list
  dsimp only
  rw [s_ifret (d := .bool false) (il_t1 h rfl) fun _ => rfl]
  cases ds.isEmpty with
  | true => rfl
  | false =>
    rw [if_neg (by simp)]
    have ha := all_lc (F := FT_is_valid_list) (ρ := [.im (rowD ps), .im (.list ds), .no]) (t := .one 2) (it := .sq (.loc 1)) (e := .and (.call "is_set" (.cons (.loc 0) (.cons (.loc 2) .nil))) (.cmp .ne (.loc 2) (.tup .nil))) (xs := ds) (rowB ps) (i_lst (q_loc rfl)) (by omega) (fun x hx => by
      refine ⟨[.im (rowD ps), .im (.list ds), .im x], rfl, q_and (x := setB ps x) (y := !eT x) (q_call (q_cons (q_loc rfl) (q_cons (q_loc rfl) q_nil)) (by rw [lk_is_valid_list__is_set]; exact x_set (fun xs e => by have := (hl.2 x hx).2 xs e; omega))) (fun hs => ?_), rfl⟩
      cases x with
      | tuple xs =>
        have h1 : (xs.all (memB ps) && ascB xs) = true := hs
        rw [Bool.and_eq_true] at h1
        obtain ⟨l, rfl, hlm⟩ := mem_strs h1.1
        have e : (!eT (.tuple (dS l))) = !decide (l = []) := by
          cases l <;> simp [eT]
        rw [e]
        exact q_cmp (q_loc rfl) (qp_of rfl) (ne_row (a := l) (b := []) (fun s hs => hy s (hlm s hs)) lay_nil)
      | _ => cases hs) rfl
    rw [hb] at ha
    rw [s_ifret (d := .bool false) (t_not' (t_trB ha)) fun _ => rfl]
    rfl
theorem law_list0 {d : D} (h : isTy .list d = false) : f_law_is_list [rowD ps, d] = .ok (.bool false) := by
  refine f_done rfl (ρ' := [.im (rowD ps), .im d, .no, .no]) ?_
  show evS FT_law_is_list FU b_law_is_list.b [.im (rowD ps), .im d, .no, .no] = _
  unfold b_law_is_list
  dsimp only
  have t1 : evT FT_law_is_list (.or (.not (.tr (.isi (.loc 1) .list))) (.tr (.cmp .eq (.loc 1) (.lst .nil)))) [.im (rowD ps), .im d, .no, .no] = .ok (true || true, [.im (rowD ps), .im d, .no, .no]) := t_or' (t_not' (x := false) (t_trB (q_isi (qp_loc rfl) h))) (fun e => by cases e)
  rw [s_ifret (d := .bool false) t1 fun _ => rfl]
  rfl
theorem find_bad : ∀ {ds : List D}, ds.all (rowB ps) = false → ds.findSome? (fun x => if rowB ps x then none else some (PyData.bool false)) = some (.bool false)
  | [], h => by cases h
  | x :: ds, h => by
    rw [List.findSome?_cons]
    cases hx : rowB ps x with
    | false => rfl
    | true =>
      rw [List.all_cons, hx, Bool.true_and] at h
      exact find_bad h
theorem find_good : ∀ {ds : List D}, ds.all (rowB ps) = true → ds.findSome? (fun x => if rowB ps x then none else some (PyData.bool false)) = none
  | [], h => rfl
  | x :: ds, h => by
    rw [List.all_cons, Bool.and_eq_true] at h
    rw [List.findSome?_cons, h.1]
    exact find_good h.2
theorem law_loop (hy : Lay ps) {ds : List D} (h : Nt (.list ds)) : ∃ c2, evS FT_law_is_list FU (.for_ (.one 2) (.sq (.loc 1)) ilB) [.im (rowD ps), .im (.list ds), .no, .no] = .ok (resO (ds.findSome? fun x => if rowB ps x then none else some (PyData.bool false)), [.im (rowD ps), .im (.list ds), c2, .no]) := by
  obtain ⟨ρ', e, c2, rfl⟩ := forO (t := .one 2) (b := evS FT_law_is_list FU ilB) id (fun ρ => ∃ c2, ρ = [.im (rowD ps), .im (.list ds), c2, .no]) (fun x => if rowB ps x then none else some (PyData.bool false)) ds (fun x hx ρ hρ => by
    obtain ⟨c2, rfl⟩ := hρ
    exact ⟨_, _, rfl, il_turn hy ((h ds rfl).2 x hx) _, _, rfl⟩) [.im (rowD ps), .im (.list ds), .no, .no] ⟨_, rfl⟩
  rw [List.map_id] at e
  exact ⟨c2, s_forR (i_lst (q_loc rfl)) e⟩
theorem same_list (hy : Lay ps) {d : D} (h : Nt d) : ∃ b, f_is_valid_list [rowD ps, d] = .ok (.bool b) ∧ f_law_is_list [rowD ps, d] = .ok (.bool b) := by
  cases hty : isTy .list d with
  | false => exact ⟨false, y_valid0 hty, law_list0 hty⟩
  | true =>
    obtain ⟨ds, rfl⟩ : ∃ ds, d = .list ds := by cases d <;> first | exact ⟨_, rfl⟩ | cases hty
    have hl := h ds rfl
    obtain ⟨c2, el⟩ := law_loop hy h
    have hbody : ∀ r, evS FT_law_is_list FU (.seq (.for_ (.one 2) (.sq (.loc 1)) ilB) (.seq (.ret (.cmp .eq (.prim .lenset (.loc 1)) (.prim .len (.loc 1)))) .skip)) [.im (rowD ps), .im (.list ds), .no, .no] = r → ds.isEmpty = false → evS FT_law_is_list FU b_law_is_list.b [.im (rowD ps), .im (.list ds), .no, .no] = r := fun r hr he => by
      unfold b_law_is_list
      dsimp only
      rw [s_ifret (d := .bool false) (il_t1 h rfl) fun _ => rfl, he]
      exact hr
    cases hall : ds.all (rowB ps) with
    | false =>
      refine ⟨false, valid_bad hy h hall, ?_⟩
      have he : ds.isEmpty = false := by
        cases ds with
        | nil => cases hall
        | cons a b => rfl
      refine f_done rfl (ρ' := [.im (rowD ps), .im (.list ds), c2, .no]) (hbody _ ?_ he)
      rw [find_bad hall] at el
      rw [evS_seq, el]
      rfl
    | true =>
      obtain ⟨l, rfl, hr⟩ := rows_pass (fun x hx => List.all_eq_true.mp hall x hx)
      rw [List.length_map] at hl
      have hlr : ∀ r ∈ l, Lay r ∧ r.length ≤ 1000 := fun r q => ⟨fun s hs => hy s ((hr r q).1 s hs), by
        have := (hl.2 _ (List.mem_map.mpr ⟨r, q, rfl⟩)).2 _ rfl
        rw [List.length_map] at this
        omega⟩
      by_cases h0 : l = []
      · subst h0
        refine ⟨false, y_validN, ?_⟩
        refine f_done rfl (ρ' := [.im (rowD ps), .im (.list []), .no, .no]) ?_
        show evS FT_law_is_list FU b_law_is_list.b [.im (rowD ps), .im (.list []), .no, .no] = _
        unfold b_law_is_list
        dsimp only
        rw [s_ifret (d := .bool false) (il_t1 (ds := []) h rfl) fun _ => rfl]
        rfl
      · refine ⟨listB ps l, y_validR h0 hl.1 hlr, ?_⟩
        have he : (l.map rowD).isEmpty = false := by
          cases l with
          | nil => exact absurd rfl h0
          | cons a b => rfl
        have hb : listB ps l = decide l.Nodup := by
          unfold listB
          have : (l.all fun r => setB ps (rowD r) && !decide (r = [])) = true := List.all_eq_true.mpr fun r q => by
            rw [Bool.and_eq_true]
            refine ⟨?_, by simp [(hr r q).2.2]⟩
            show ((dS r).all (memB ps) && ascB (dS r)) = true
            rw [Bool.and_eq_true]
            exact ⟨all_dS.mpr (hr r q).1, (hr r q).2.1⟩
          rw [this, Bool.true_and]
        refine f_done rfl (ρ' := [.im (rowD ps), .im (.list (l.map rowD)), c2, .no]) (hbody _ ?_ he)
        rw [find_good hall] at el
        have hc : cmpD .eq (.int (cntR l : Nat)) (.int ((l.map rowD).length : Nat)) = .ok (decide l.Nodup) := by
          rw [eq_int, List.length_map]
          congr 1
          rw [decide_eq_decide, ← cnt_iff]
          omega
        rw [s_seq el, hb]
        exact s_ret (q_cmp (q_prim (qp_loc rfl) (lenset_rows h0 hl.1)) (qp_of (q_prim (qp_loc rfl) rfl)) hc)
theorem y_islist {gs : List (Int × List D)} {d : D} {b : Bool} (ok : SysOk ps gs) (h : f_is_valid_list [rowD ps, d] = .ok (.bool b)) : f_is_list [rowD ps, d] = .ok (.bool b) := by
  refine f_done rfl (ρ' := [.im (rowD ps), .im d]) ?_
  show evS FT_is_list FU b_is_list.b [.im (rowD ps), .im d] = _
  unfold b_is_list
  dsimp only
  rw [s_exn (q_call (q_cons (q_loc rfl) q_nil) (by rw [lk_is_list__require_words]; exact words_sys ok))]
  exact s_ret (q_call (q_cons (q_loc rfl) (q_cons (q_loc rfl) q_nil)) (by rw [lk_is_list__is_valid_list]; exact h))
theorem e_islist {d0 d : D} (h : f_require_words [d0] = .error (.exc "InvalidParts")) : f_is_list [d0, d] = .error (.exc "InvalidParts") := by
  refine f_exc rfl ?_
  show evS FT_is_list FU b_is_list.b [.im d0, .im d] = _
  unfold b_is_list
  dsimp only
  exact s_exx (q_exc (q_cons (q_loc rfl) q_nil) (by rw [lk_is_list__require_words]; exact h))
end
/-! ### nice data -/
theorem nc_row {r : List Str} (h : Lay r) (hl : r.length ≤ 60) : Nc (rowD r) := ⟨⟨(lay_row h).1, by have := (lay_row h).2; omega⟩, fun xs e => by cases e; rw [List.length_map]; exact hl⟩
theorem nt_no {d : D} (h : isTy .list d = false) : Nt d := fun ds e => by subst e; cases h
theorem nt_rows {l : List (List Str)} (h : ∀ r ∈ l, Lay r ∧ r.length ≤ 60) (hl : l.length ≤ 75) : Nt (.list (l.map rowD)) := fun ds e => by
  cases e
  rw [List.length_map]
  refine ⟨hl, fun x hx => ?_⟩
  obtain ⟨r, hr, rfl⟩ := List.mem_map.mp hx
  exact nc_row (h r hr).1 (h r hr).2
theorem nc_fn {bl : Bool} {k n : Nat} {d : D} (h : Fn bl k n d) (hk : k ≤ 20) (hn : n ≤ 20) : Nc d := ⟨⟨h.lay.1, by have := h.lay.2; omega⟩, fun xs e => by
  subst e
  obtain ⟨m, _, _, q⟩ := h.items
  omega⟩
end FtLaw
/-! MDrawnL: _law_drawn_list. -/
namespace FtLaw
open PySem Ft
theorem q_rng1' {F : Fns} {ρ ρ' : Ft.Env} {a : E} {k : Nat} (ha : evE F a ρ = .ok (.int (k : Int), ρ')) (h : k ≤ LIM) : evI F (.rng1 a) ρ = .ok (dN (List.range k), ρ') := by
  rw [evI_rng1, ha, bindR_ok]
  dsimp only
  rw [rngD_nat h, bindC_ok]
abbrev dlE (ns l : List Int) (ps : List Str) (m : Int) (f : List (List Str)) (c5 c6 : Cell) : Ft.Env := [.im (.list (dI ns)), .rf (dI l), .im (rowD ps), .im (.int m), .im (.list (f.map rowD)), c5, c6, .no]
abbrev dlC : E := .tr (.cmp .eq (.callS "_law_draw" 1 (.loc 0) (.cons (.int 2) .nil)) (.int 0))
theorem dl_lc {F : Fns} (hdr : DrawOk (F.g "_law_draw")) {ns : List Int} (hns : ns.length ≤ 63) {qs : List Str} {m : Int} {f : List (List Str)} {c5 c6 : Cell} : ∀ (ps : List Str) (l : List Int), l.length + 2 * ps.length < 800000 →
    ∃ (fs : List Str) (l' : List Int), lcL (.one 7) (evT F dlC) (evE F (.loc 7)) (dS ps) (dlE ns l qs m f c5 c6) = .ok (dS fs, dlE ns l' qs m f c5 c6) ∧ fs.Sublist ps ∧ l'.length ≤ l.length + 2 * ps.length
  | [], l, _ => ⟨[], l, rfl, List.Sublist.refl _, by simp⟩
  | p :: ps, l, hl => by
    simp only [List.length_cons] at hl
    obtain ⟨r, l1, hd, r0, r1, hl1, _⟩ := hdr ns 2 l (by decide) (by omega) hns
    obtain ⟨fs, l', e, h1, h2⟩ := dl_lc hdr hns (qs := qs) (m := m) (f := f) (c5 := c5) (c6 := c6) ps l1 (by omega)
    have e1 : evT F dlC ((dlE ns l qs m f c5 c6).set 7 (.im (.str p))) = .ok (decide (r = 0), (dlE ns l1 qs m f c5 c6).set 7 (.im (.str p))) := by
      rw [Ft.evT_tr, pk_cmp, evE_cmp, q_callS (mk := .rf) rfl (q_loc rfl) (q_cons rfl q_nil) hd, bindR_ok]
      rfl
    refine ⟨if decide (r = 0) then p :: fs else fs, l', ?_, ?_, by simp only [List.length_cons]; omega⟩
    · show lcL (.one 7) _ _ (.str p :: dS ps) _ = _
      unfold lcL
      show bindC (.ok ((dlE ns l qs m f c5 c6).set 7 (.im (.str p)))) _ = _
      rw [bindC_ok, e1, bindR_ok]
      dsimp only
      by_cases q : r = 0
      · simp only [q, decide_true, if_true]
        rw [q_loc rfl, bindR_ok]
        show bindR (lcL (.one 7) _ _ (dS ps) (dlE ns l1 qs m f c5 c6)) _ = _
        rw [e]
        rfl
      · simp only [q, decide_false, if_false, Bool.false_eq_true]
        exact e
    · by_cases q : r = 0
      · simp [q, h1]
      · simp [q]
        exact List.Sublist.cons p h1
/-- rows found so far -/
structure Drn (ps : List Str) (f : List (List Str)) (n : Nat) : Prop where
  len : f.length ≤ n
  sub : ∀ r ∈ f, r.Sublist ps
  full : ∀ r ∈ f, r ≠ []
  nodup : f.Nodup
abbrev dlB : S := (.seq (.asg 6 (.prim .tuple (.lc (.one 7) (.sq (.loc 2)) dlC (.loc 7)))) (.seq (.asg 4 (.bin .add (.loc 4) (.rep (.cons (.loc 6) .nil) (.prim .int (.and (.cmp .ne (.loc 6) (.tup .nil)) (.cmp .notin (.loc 6) (.loc 4))))))) .skip))
theorem dl_turn {F : Fns} (hdr : DrawOk (F.g "_law_draw")) {ns : List Int} (hns : ns.length ≤ 63) {ps : List Str} (hp8 : ps.length ≤ 8) (hy : Lay ps) {m : Int} {f : List (List Str)} {n : Nat} (hf : Drn ps f n) (hn : n ≤ 100) {l : List Int} (hl : l.length < 700000) (c5 c6 : Cell) :
    ∃ (f' : List (List Str)) (l' : List Int) (c6' : Cell), evS F FU dlB (dlE ns l ps m f c5 c6) = .ok (.nx, dlE ns l' ps m f' c5 c6') ∧ Drn ps f' (n + 1) ∧ l'.length ≤ l.length + 16 := by
  have hL : LIM = 1000000 := rfl
  obtain ⟨r, l', e, hr, hl'⟩ := dl_lc hdr hns (qs := ps) (m := m) (f := f) (c5 := c5) (c6 := c6) ps l (by omega)
  have hflen := hf.len
  have hq : evE F (.lc (.one 7) (.sq (.loc 2)) dlC (.loc 7)) (dlE ns l ps m f c5 c6) = .ok (.list (dS r), dlE ns l' ps m f c5 c6) := by
    rw [evE_lc, i_tup (q_loc rfl), bindR_ok]
    dsimp only
    rw [if_pos (by rw [List.length_map]; omega)]
    show bindR (calmR (lcL (.one 7) _ _ (dS ps) (dlE ns l ps m f c5 c6))) _ = _
    rw [e]
    rfl
  have e1 : evS F FU (.asg 6 (.prim .tuple (.lc (.one 7) (.sq (.loc 2)) dlC (.loc 7)))) (dlE ns l ps m f c5 c6) = .ok (.nx, dlE ns l' ps m f c5 (.im (rowD r))) := by
    have : evE F (.prim .tuple (.lc (.one 7) (.sq (.loc 2)) dlC (.loc 7))) (dlE ns l ps m f c5 c6) = .ok (rowD r, dlE ns l' ps m f c5 c6) := by
      rw [evE_prim, pk_lc, hq, bindR_ok]
      rfl
    exact s_asgS this
  have lr : Lay r := hy.sub fun s hs => hr.subset hs
  have lf : ∀ o ∈ f, Lay o := fun o ho => hy.sub fun s hs => (hf.sub o ho).subset hs
  have hb : evE F (.and (.cmp .ne (.loc 6) (.tup .nil)) (.cmp .notin (.loc 6) (.loc 4))) (dlE ns l' ps m f c5 (.im (rowD r))) = .ok (.bool (!decide (r = []) && !decide (r ∈ f)), dlE ns l' ps m f c5 (.im (rowD r))) := q_and (q_cmp (q_loc rfl) (qp_of rfl) (ne_row lr lay_nil)) (fun _ => q_cmp (q_loc rfl) (qp_loc rfl) (notin_rows lr lf))
  have hrep := q_rep1 (F := F) (a := .loc 6) (q_loc (ρ := dlE ns l' ps m f c5 (.im (rowD r))) rfl) (q_intB hb)
  have e2 : ∃ f', evS F FU (.asg 4 (.bin .add (.loc 4) (.rep (.cons (.loc 6) .nil) (.prim .int (.and (.cmp .ne (.loc 6) (.tup .nil)) (.cmp .notin (.loc 6) (.loc 4))))))) (dlE ns l' ps m f c5 (.im (rowD r))) = .ok (.nx, dlE ns l' ps m f' c5 (.im (rowD r))) ∧ Drn ps f' (n + 1) := by
    cases hc : (!decide (r = []) && !decide (r ∈ f)) with
    | true =>
      rw [hc] at hrep
      simp only [Bool.and_eq_true, Bool.not_eq_true', decide_eq_false_iff_not] at hc
      refine ⟨f ++ [r], ?_, ⟨by rw [List.length_append]; simp; omega, fun o ho => ?_, fun o ho => ?_, ?_⟩⟩
      · have hcat : binD .add (.list (f.map rowD)) (.list [rowD r]) = .ok (.list ((f ++ [r]).map rowD)) := by
          show (if (f.map rowD).length + [rowD r].length ≤ LIM then Except.ok (PyData.list (f.map rowD ++ [rowD r])) else stk) = _
          rw [if_pos (by rw [List.length_map]; simp; omega), List.map_append]
          rfl
        exact s_asgS (q_bin (q_loc rfl) hrep hcat)
      · rcases List.mem_append.mp ho with q | q
        · exact hf.sub o q
        · rw [List.mem_singleton.mp q]; exact hr
      · rcases List.mem_append.mp ho with q | q
        · exact hf.full o q
        · rw [List.mem_singleton.mp q]; exact hc.1
      · refine List.nodup_append.mpr ⟨hf.nodup, by simp, fun a ha b hb2 => ?_⟩
        rw [List.mem_singleton.mp hb2]
        exact fun z => hc.2 (z ▸ ha)
    | false =>
      rw [hc] at hrep
      refine ⟨f, ?_, ⟨Nat.le_succ_of_le hf.len, hf.sub, hf.full, hf.nodup⟩⟩
      have hcat : binD .add (.list (f.map rowD)) (.list []) = .ok (.list (f.map rowD)) := by
        show (if (f.map rowD).length + 0 ≤ LIM then Except.ok (PyData.list (f.map rowD ++ [])) else stk) = _
        rw [if_pos (by rw [List.length_map]; omega), List.append_nil]
      exact s_asgS (q_bin (q_loc rfl) hrep hcat)
  obtain ⟨f', e2, hf'⟩ := e2
  refine ⟨f', l', .im (rowD r), ?_, hf', by omega⟩
  rw [s_seq e1, s_seq e2]
  rfl
theorem dl_loop {F : Fns} (hdr : DrawOk (F.g "_law_draw")) {ns : List Int} (hns : ns.length ≤ 63) {ps : List Str} (hp8 : ps.length ≤ 8) (hy : Lay ps) {m : Int} : ∀ (xs : List D) {f : List (List Str)} {n : Nat} {l : List Int} (c5 c6 : Cell), Drn ps f n → n + xs.length ≤ 100 → l.length + 16 * xs.length < 700000 →
    ∃ (f' : List (List Str)) (l' : List Int) (c5' c6' : Cell), forL (.one 5) (evS F FU dlB) xs (dlE ns l ps m f c5 c6) = .ok (.nx, dlE ns l' ps m f' c5' c6') ∧ Drn ps f' (n + xs.length) ∧ l'.length ≤ l.length + 16 * xs.length
  | [], f, n, l, c5, c6, hf, _, _ => ⟨f, l, c5, c6, rfl, hf, by simp⟩
  | x :: xs, f, n, l, c5, c6, hf, hn, hl => by
    simp only [List.length_cons] at hn hl
    obtain ⟨f1, l1, c6', e1, hf1, hl1⟩ := dl_turn hdr hns hp8 hy (m := m) hf (by omega) (l := l) (by omega) (.im x) c6
    obtain ⟨f2, l2, d5, d6, e2, hf2, hl2⟩ := dl_loop hdr hns hp8 hy (m := m) xs (l := l1) (.im x) c6' hf1 (by omega) (by omega)
    refine ⟨f2, l2, d5, d6, ?_, ?_, by simp only [List.length_cons]; omega⟩
    · unfold forL
      show bindC (.ok (dlE ns l ps m f (.im x) c6)) _ = _
      rw [bindC_ok, e1, bindR_ok]
      exact e2
    · rw [List.length_cons, show n + (xs.length + 1) = n + 1 + xs.length by omega]
      exact hf2
def DrawnOk (g : List D → List D → R (D × List D)) : Prop := ∀ (ns : List Int) (ps : List Str) (m : Nat) (l : List Int), 1 ≤ ps.length → ps.length ≤ 8 → Lay ps → 1 ≤ m → m ≤ 10 → l.length < 680000 → ns.length ≤ 63 →
  ∃ (rows : List (List Str)) (l' : List Int), g [.list (dI ns), rowD ps, .int (m : Int)] (dI l) = .ok (.list (rows.map rowD), dI l') ∧ LOk ps rows ∧ rows.length ≤ m ∧ l'.length ≤ l.length + 200
theorem drawnOk {F : Fns} (hdr : DrawOk (F.g "_law_draw")) : DrawnOk (evG F FU b_law_drawn_list) := fun ns ps m l h1 h8 hy m1 m10 hl hns => by
  have hL : LIM = 1000000 := rfl
  obtain ⟨r, l1, hd, r0, r1, hl1, _⟩ := hdr ns m l (by omega) (by omega) hns
  obtain ⟨k, rfl⟩ : ∃ k : Nat, r = (k : Int) := ⟨r.toNat, by omega⟩
  have hk : k < m := by omega
  obtain ⟨f, l2, d5, d6, e, hf, hl2⟩ := dl_loop (F := F) hdr hns h8 hy (m := (m : Int)) ((List.range (1 + k)).map fun n : Nat => PyData.int (n : Int)) (f := []) (n := 0) (l := l1) .no .no ⟨by simp, (fun r hr => by cases hr), (fun r hr => by cases hr), List.nodup_nil⟩ (by simp; omega) (by simp; omega)
  simp only [List.length_map, List.length_range] at hf hl2
  have hi : evI F (.rng1 (.bin .add (.int 1) (.callS "_law_draw" 1 (.loc 0) (.cons (.loc 3) .nil)))) (dlE ns l ps m [] .no .no) = .ok ((List.range (1 + k)).map (fun n : Nat => PyData.int (n : Int)), dlE ns l1 ps m [] .no .no) := by
    have hE : evE F (.bin .add (.int 1) (.callS "_law_draw" 1 (.loc 0) (.cons (.loc 3) .nil))) (dlE ns l ps m [] .no .no) = .ok (.int ((1 + k : Nat) : Int), dlE ns l1 ps m [] .no .no) := by
      have h0 : evE F (.int 1) (dlE ns l ps m [] .no .no) = .ok (.int 1, dlE ns l ps m [] .no .no) := rfl
      rw [evE_bin, h0, bindR_ok]
      dsimp only
      rw [q_callS (mk := .rf) (ds := [.int (m : Int)]) rfl (q_loc rfl) (q_cons (q_loc rfl) q_nil) hd, bindR_ok]
      show bindC (Except.ok (PyData.int (1 + (k : Int)))) _ = _
      rw [bindC_ok]
      congr 3
    exact q_rng1' hE (by omega)
  have e1 : evS F FU (.for_ (.one 5) (.rng1 (.bin .add (.int 1) (.callS "_law_draw" 1 (.loc 0) (.cons (.loc 3) .nil)))) dlB) (dlE ns l ps m [] .no .no) = .ok (.nx, dlE ns l2 ps m f d5 d6) := s_forR hi e
  have e0 : evS F FU (.asg 4 (.lst .nil)) [.im (.list (dI ns)), .rf (dI l), .im (rowD ps), .im (.int (m : Int)), .no, .no, .no, .no] = .ok (.nx, dlE ns l ps m [] .no .no) := rfl
  refine ⟨if f = [] then [ps] else f, l2, ?_, ?_, ?_, by omega⟩
  · rw [evG_of rfl]
    show bindR (evS F FU b_law_drawn_list.b [.im (.list (dI ns)), .rf (dI l), .im (rowD ps), .im (.int (m : Int)), .no, .no, .no, .no]) finG = _
    unfold b_law_drawn_list
    dsimp only
    rw [s_seq e0, s_seq e1]
    have ht : truthD (.list (f.map rowD)) = .ok (!decide (f = [])) := by
      show Except.ok (!(f.map rowD).isEmpty) = _
      cases f <;> simp
    have hr : evE F (.ife (.tr (.loc 4)) (.loc 4) (.lst (.cons (.loc 2) .nil))) (dlE ns l2 ps m f d5 d6) = .ok (.list ((if f = [] then [ps] else f).map rowD), dlE ns l2 ps m f d5 d6) := by
      refine q_ife (t_tr' (qp_loc rfl) ht) (fun h => ?_) (fun h => ?_)
      · have hne : f ≠ [] := by simpa using h
        rw [if_neg hne]
        exact q_loc rfl
      · have he : f = [] := by simpa using h
        rw [if_pos he]
        exact q_lst (q_cons (q_loc rfl) q_nil)
    rw [s_ret hr]
    rfl
  · by_cases h : f = []
    · rw [if_pos h]
      exact ⟨by simp, by simp, (fun r hr => by rw [List.mem_singleton.mp hr]; exact List.Sublist.refl _), (fun r hr e => by rw [List.mem_singleton.mp hr] at e; rw [e] at h1; simp at h1), by simp⟩
    · rw [if_neg h]
      exact ⟨h, by have := hf.len; omega, hf.sub, hf.full, hf.nodup⟩
  · by_cases h : f = []
    · rw [if_pos h]
      simpa using m1
    · rw [if_neg h]
      have := hf.len
      omega
end FtLaw
/-! MGen: the drawn systems of the row. -/
namespace FtLaw
open PySem Ft
theorem x_sys : SysGen f_law_system := sysGen (by rw [lk_law_system__law_draw]; exact drawOk) (by rw [lk_law_system__law_shuffled]; exact shufOk (by rw [lk_law_shuffled__law_draw]; exact drawOk))
theorem q_not8 {ps : List Str} (h : ∀ s ∈ ps, s ∈ eight) : ("q" : Str) ∉ ps := fun hq => absurd (h _ hq) (by decide +kernel)
end FtLaw
namespace FtLaw
open PySem Ft
abbrev lw_1 : S := (.asgF 1 (.lst .nil))
abbrev lw_2_1 : S := (.asg 3 (.ix (.callS "_law_system" 1 (.loc 0) (.cons (.int 8) .nil)) (.int 0)))
abbrev lw_2_2 : S := (.asg 4 (.callS "_law_drawn_list" 1 (.loc 0) (.cons (.loc 3) (.cons (.int 6) .nil))))
abbrev lw_2_3 : S := (.asgF 5 (.lst (.cons (.loc 4) (.cons (.prim .tuple (.loc 4)) (.cons (.lst .nil) (.cons (.bin .add (.loc 4) (.slc (.loc 4) .nil (.tr (.int 1)))) (.cons (.bin .add (.loc 4) (.lst (.cons (.tup .nil) .nil))) (.cons (.bin .add (.loc 4) (.lst (.cons (.tup (.cons (.str "q") .nil)) .nil))) .nil))))))))
abbrev lw_2_4 : S := (.asgF 5 (.bin .add (.loc 5) (.lst (.cons .non (.cons (.rev (.loc 4)) (.cons (.lst (.cons (.bin .add (.loc 3) (.loc 3)) .nil)) .nil))))))
abbrev lw_2_5 : S := (.asgF 5 (.bin .add (.loc 5) (.lst (.cons (.lst (.cons (.prim .list (.loc 3)) .nil)) (.cons (.lst (.cons (.rev (.loc 3)) .nil)) (.cons (.loc 3) (.cons (.lst (.cons (.int 1) .nil)) (.cons (.slc (.loc 4) (.tr (.int 1)) .nil) .nil))))))))
abbrev lw_2_6 : S := (.app 5 (.lc (.one 8) (.sq (.loc 4)) .tt (.callS "_law_bent" 1 (.loc 0) (.cons (.loc 8) .nil))))
abbrev lw_2_7_1 : S := (.ite (.tr (.cmp .ne (.call "is_list" (.cons (.loc 3) (.cons (.loc 6) .nil))) (.call "_law_is_list" (.cons (.loc 3) (.cons (.loc 6) .nil))))) (.seq (.ret (.bl false)) .skip) .skip)
abbrev lw_2_7 : S := (.for_ (.one 6) (.sq (.loc 5)) (.seq (.ite (.tr (.cmp .ne (.call "is_list" (.cons (.loc 3) (.cons (.loc 6) .nil))) (.call "_law_is_list" (.cons (.loc 3) (.cons (.loc 6) .nil))))) (.seq (.ret (.bl false)) .skip) .skip) .skip))
abbrev lw_2_8_1 : S := (.ite (.tr (.cmp .ne (.call "_law_is_list_or" (.cons (.loc 7) (.cons (.loc 4) .nil))) (.str "InvalidParts"))) (.seq (.ret (.bl false)) .skip) .skip)
abbrev lw_2_8 : S := (.for_ (.one 7) (.sq (.lst (.cons (.tup .nil) (.cons (.prim .list (.loc 3)) (.cons (.bin .add (.loc 3) (.slc (.loc 3) .nil (.tr (.int 1)))) (.cons .non (.cons (.tup (.cons (.str "A") .nil)) (.cons (.tup (.cons (.str "abcde") .nil)) (.cons (.prim .tuple (.str "abcdefghi")) (.cons (.tup (.cons (.int 1) .nil)) .nil)))))))))) (.seq (.ite (.tr (.cmp .ne (.call "_law_is_list_or" (.cons (.loc 7) (.cons (.loc 4) .nil))) (.str "InvalidParts"))) (.seq (.ret (.bl false)) .skip) .skip) .skip))
abbrev lw_3 : S := (.ret (.bl true))
theorem x_drawn : DrawnOk f_law_drawn_list := drawnOk (by rw [lk_law_drawn_list__law_draw]; exact drawOk)
theorem x_bent : BentOk f_law_bent 1 := bentRec (by rw [lk_law_bent__law_draw]; exact drawOk) (by rw [lk_law_bent__law_pick]; exact pickOk (by rw [lk_law_pick__law_draw]; exact drawOk)) 9 1 (by decide)
theorem o_list {d0 d1 : D} (h : f_require_words [d0] = .error (.exc "InvalidParts")) : f_law_is_list_or [d0, d1] = .ok (.str "InvalidParts") := or2_exc rfl (by rw [lk_law_is_list_or__is_list]; exact e_islist h) (by decide +kernel) (by decide +kernel)
theorem cut_sub {α : Type} (xs : List α) (a b : Option Int) : (cutL xs a b).Sublist xs := (List.take_sublist _ _).trans (List.drop_sublist _ _)
theorem cut_map {α β : Type} (f : α → β) (xs : List α) (a b : Option Int) : cutL (xs.map f) a b = (cutL xs a b).map f := by
  unfold cutL
  rw [List.length_map, ← List.map_drop, ← List.map_take]
theorem cat_list {a b : List D} (h : a.length + b.length ≤ LIM) : binD .add (.list a) (.list b) = .ok (.list (a ++ b)) := if_pos h
theorem cat_tup {a b : List D} (h : a.length + b.length ≤ LIM) : binD .add (.tuple a) (.tuple b) = .ok (.tuple (a ++ b)) := if_pos h
theorem s_addF {F : Fns} {n i : Nat} {ρ : Ft.Env} {e : E} {ds es : List D} (hs : ρ[i]? = some (.mu ds)) (he : evE F e (ρ.set i (.im (.list ds))) = .ok (.list es, ρ.set i (.im (.list ds)))) (hl : ds.length + es.length ≤ LIM) : evS F n (.asgF i (.bin .add (.loc i) e)) ρ = .ok (.nx, ρ.set i (.mu (ds ++ es))) := by
  have h1 : evE F (.loc i) ρ = .ok (.list ds, ρ.set i (.im (.list ds))) := by
    rw [evE_loc]
    unfold rd
    rw [hs]
  have h2 : evE F (.bin .add (.loc i) e) ρ = .ok (.list (ds ++ es), ρ.set i (.im (.list ds))) := by
    rw [evE_bin, h1, bindR_ok]
    dsimp only
    have hp : (∀ r, pk e (ρ.set i (.im (.list ds))) r = r) ∨ True := .inr trivial
    first | rw [he, bindR_ok] | skip
    dsimp only
    rw [cat_list hl]
    rfl
  rw [evS_asgF, h2, bindR_ok]
  show bindC (.ok (Cell.mu (ds ++ es))) _ = _
  rw [bindC_ok, List.set_set]
theorem s_appM {F : Fns} {n i : Nat} {ρ ρ1 : Ft.Env} {e : E} {ds : List D} {d : D} (hs : ρ[i]? = some (.mu ds)) (he : evE F e ρ = .ok (d, ρ1)) (hs1 : ρ1[i]? = some (.mu ds)) (hl : ds.length < LIM) : evS F n (.app i e) ρ = .ok (.nx, ρ1.set i (.mu (ds ++ [d]))) := by
  have h1 : lstAt ρ i = .ok (ds, .mu) := by unfold lstAt; rw [hs]
  have h2 : lstAt ρ1 i = .ok (ds, .mu) := by unfold lstAt; rw [hs1]
  rw [evS, h1, bindC_ok]
  rw [he, bindR_ok]
  dsimp only
  rw [h2, bindC_ok]
  exact if_pos hl
/-- a comprehension whose element draws -/
theorem lc_drawM {F : Fns} {i k : Nat} {it e : E} {R : List Int → Ft.Env} {P : D → Prop} {xs : List D} (hi : ∀ l, evI F it (R l) = .ok (xs, R l)) (hx : xs.length < LIM) (hclr : ∀ l, clr (.one i) (R l) = R l) (hc2 : ∀ l x, clr (.one i) ((R l).set i (.im x)) = R l) (hback : ∀ l l', back (.one i) (R l) (R l') = R l')
    (step : ∀ x ∈ xs, ∀ (l : List Int), l.length < 700000 → ∃ d l', evE F e ((R l).set i (.im x)) = .ok (d, (R l').set i (.im x)) ∧ P d ∧ l'.length ≤ l.length + k) {l : List Int} (hl : l.length + k * xs.length < 700000) :
    ∃ ds l', evE F (.lc (.one i) it .tt e) (R l) = .ok (.list ds, R l') ∧ ds.length = xs.length ∧ (∀ d ∈ ds, P d) ∧ l'.length ≤ l.length + k * xs.length := by
  have key : ∀ (ys : List D) (l : List Int), (∀ y ∈ ys, y ∈ xs) → l.length + k * ys.length < 700000 → ∃ ds l', lcL (.one i) (evT F .tt) (evE F e) ys (R l) = .ok (ds, R l') ∧ ds.length = ys.length ∧ (∀ d ∈ ds, P d) ∧ l'.length ≤ l.length + k * ys.length := by
    intro ys
    induction ys with
    | nil => exact fun l _ _ => ⟨[], l, rfl, rfl, (fun _ h => by cases h), by simp⟩
    | cons y ys ih =>
      intro l hm hl
      rw [List.length_cons, Nat.mul_succ] at hl
      obtain ⟨d, l1, e1, p1, k1⟩ := step y (hm y List.mem_cons_self) l (by omega)
      obtain ⟨ds, l2, e2, n2, p2, k2⟩ := ih l1 (fun z hz => hm z (List.mem_cons_of_mem _ hz)) (by omega)
      refine ⟨d :: ds, l2, ?_, by simp [n2], fun x hx => ?_, by rw [List.length_cons, Nat.mul_succ]; omega⟩
      · unfold lcL
        show bindC (.ok ((R l).set i (.im y))) _ = _
        rw [bindC_ok]
        show bindR (.ok (true, (R l).set i (.im y))) _ = _
        rw [bindR_ok]
        dsimp only
        rw [if_pos rfl, e1, bindR_ok]
        dsimp only
        rw [hc2, e2, bindR_ok]
      · rcases List.mem_cons.mp hx with q | q
        · rw [q]
          exact p1
        · exact p2 x q
  obtain ⟨ds, l', e1, n1, p1, k1⟩ := key xs l (fun _ h => h) hl
  refine ⟨ds, l', ?_, n1, p1, k1⟩
  rw [evE_lc, hi, bindR_ok]
  dsimp only
  rw [if_pos hx, hclr, e1]
  simp only [calmR, bindR_ok, hback]
abbrev en (ns l : List Int) (c2 c3 c4 c5 c6 c7 : Cell) : Ft.Env := [.im (.list (dI ns)), .mu (dI l), c2, c3, c4, c5, c6, c7, .no]
def P08 (cs : List Cell) : Prop := ∃ c2 c3 c4 c5 c6 c7, cs = [c2, c3, c4, c5, c6, c7, .no]
abbrev th1 (ps : List Str) (rows : List (List Str)) : List D := [.list (rows.map rowD), .tuple (rows.map rowD), .list [], .list ((rows ++ cutL rows none (some 1)).map rowD), .list ((rows ++ [[]]).map rowD), .list ((rows ++ ([["q"]] : List (List Str))).map rowD)]
abbrev th2 (ps : List Str) (rows : List (List Str)) : List D := [.none, .list (rows.reverse.map rowD), .list [rowD (ps ++ ps)]]
abbrev th3 (ps : List Str) (rows : List (List Str)) : List D := [.list [.list (dS ps)], .list [rowD ps.reverse], rowD ps, .list [.int 1], .list ((cutL rows (some 1) none).map rowD)]
theorem lay_q : Lay (["q"] : List Str) := by intro s hs; rw [List.mem_singleton.mp hs]; decide +kernel
theorem th_nice {ps : List Str} {rows : List (List Str)} {gs : List (Int × List D)} (ok : SysOk ps gs) (lok : LOk ps rows) (h6 : rows.length ≤ 6) {bs : List D} (hb : ∀ x ∈ bs, Nc x) (hbl : bs.length ≤ 6) : ∀ x ∈ th1 ps rows ++ th2 ps rows ++ th3 ps rows ++ [.list bs], Nt x := by
  have hp8 := ok.p8
  have hy : Lay ps := (sets_lay ok (List.Sublist.refl ps)).1
  have hr : ∀ r ∈ rows, Lay r ∧ r.length ≤ 60 := fun r q => ⟨(lok.lay ok r q).1, by have := (lok.sub r q).length_le; omega⟩
  have hc : ∀ a b, ∀ r ∈ cutL rows a b, Lay r ∧ r.length ≤ 60 := fun a b r q => hr r ((cut_sub rows a b).subset q)
  have hcl : ∀ a b, (cutL rows a b).length ≤ 6 := fun a b => Nat.le_trans (cut_sub rows a b).length_le h6
  have one : ∀ {d : D}, Nc d → Nt (.list [d]) := fun {d} h ds e => by
    cases e
    exact ⟨by simp, fun x hx => by rw [List.mem_singleton.mp hx]; exact h⟩
  intro x hx
  simp only [List.mem_append, List.mem_cons, List.not_mem_nil, or_false] at hx
  rcases hx with ((hx | hx) | hx) | hx
  · rcases hx with rfl | rfl | rfl | rfl | rfl | rfl
    · exact nt_rows hr (by omega)
    · exact nt_no rfl
    · exact nt_rows (l := []) (fun r q => by cases q) (by simp)
    · refine nt_rows (fun r q => (List.mem_append.mp q).elim (hr r) (hc _ _ r)) ?_
      have := hcl none (some 1)
      rw [List.length_append]
      omega
    · refine nt_rows (fun r q => (List.mem_append.mp q).elim (hr r) fun q => ?_) (by rw [List.length_append, List.length_singleton]; omega)
      rw [List.mem_singleton.mp q]
      exact ⟨lay_nil, by simp⟩
    · refine nt_rows (fun r q => (List.mem_append.mp q).elim (hr r) fun q => ?_) (by rw [List.length_append, List.length_singleton]; omega)
      rw [List.mem_singleton.mp q]
      exact ⟨lay_q, by simp⟩
  · rcases hx with rfl | rfl | rfl
    · exact nt_no rfl
    · exact nt_rows (fun r q => hr r (List.mem_reverse.mp q)) (by rw [List.length_reverse]; omega)
    · exact one (nc_row (fun s hs => (List.mem_append.mp hs).elim (hy s) (hy s)) (by rw [List.length_append]; omega))
  · rcases hx with rfl | rfl | rfl | rfl | rfl
    · refine one ⟨?_, fun xs e => by cases e⟩
      obtain ⟨h1, h2⟩ := lay_all (xs := dS ps) (n := 0) fun x hx => by
        obtain ⟨s, hs, rfl⟩ := List.mem_map.mp hx
        exact ⟨by simp [PyData.canLay0, hy s hs], by simp [PyData.depth]⟩
      exact ⟨by simp only [PyData.canLay0]; exact h1, by simp only [PyData.depth]; omega⟩
    · exact one (nc_row (fun s hs => hy s (List.mem_reverse.mp hs)) (by rw [List.length_reverse]; omega))
    · exact nt_no rfl
    · exact one ⟨⟨by simp [PyData.canLay0], by simp [PyData.depth]⟩, fun xs e => by cases e⟩
    · exact nt_rows (hc _ _) (by have := hcl (some 1) none; omega)
  · subst hx
    intro ds e
    cases e
    exact ⟨by omega, hb⟩
abbrev wrs (ps : List Str) : List D := [.tuple [], .list (dS ps), rowD (ps ++ cutL ps none (some 1)), .none, .tuple [.str "A"], .tuple [.str "abcde"], rowD (charsS "abcdefghi"), .tuple [.int 1]]
theorem wrs_no {ps : List Str} {gs : List (Int × List D)} (ok : SysOk ps gs) : ∀ x ∈ wrs ps, f_require_words [x] = .error (.exc "InvalidParts") := by
  have h4 : ∀ s ∈ ps, s.length ≤ 4 := fun s hs => (ok.words s hs).2.1
  have hp1 := ok.p1
  intro x hx
  simp only [List.mem_cons, List.not_mem_nil, or_false] at hx
  rcases hx with rfl | rfl | rfl | rfl | rfl | rfl | rfl | rfl
  · exact reqwords_no (fun xs e => by cases e; intro x hx; cases hx) rfl
  · exact reqwords_no (fun xs e => by cases e) rfl
  · refine reqwords_no (fun xs e => by cases e; exact small_parts fun s hs => (List.mem_append.mp hs).elim (h4 s) fun q => h4 s ((cut_sub ps none (some 1)).subset q)) ?_
    have hd : ¬ (ps ++ cutL ps none (some 1)).Nodup := by
      intro hn
      have hq : cutL ps none (some 1) ≠ [] := by
        intro e
        have := congrArg List.length e
        unfold cutL at this
        have e1 : cutIx ps.length ps.length (some 1) = min 1 ps.length := rfl
        have e2 : cutIx ps.length 0 none = 0 := rfl
        rw [e1, e2, List.length_take, List.length_drop, List.length_nil] at this
        omega
      obtain ⟨a, r, e⟩ := List.exists_cons_of_ne_nil hq
      have ha : a ∈ cutL ps none (some 1) := by rw [e]; exact List.mem_cons_self
      exact (List.nodup_append.mp hn).2.2 a ((cut_sub ps none (some 1)).subset ha) a ha rfl
    show (_ && ((dS (ps ++ cutL ps none (some 1))).all wordB && ascB (dS (ps ++ cutL ps none (some 1))))) = false
    rw [asc_dup hd, Bool.and_false, Bool.and_false]
  · exact reqwords_no (fun xs e => by cases e) rfl
  · exact reqwords_no (fun xs e => by cases e; intro x hx; rw [List.mem_singleton.mp hx]; show Str.length _ ≤ LIM; decide +kernel) (by decide +kernel)
  · exact reqwords_no (fun xs e => by cases e; intro x hx; rw [List.mem_singleton.mp hx]; show Str.length _ ≤ LIM; decide +kernel) (by decide +kernel)
  · refine reqwords_no (fun xs e => by
      cases e
      refine small_parts fun s hs => ?_
      obtain ⟨c, _, rfl⟩ := List.mem_map.mp hs
      show 1 ≤ 4
      decide) ?_
    have : (dS (charsS "abcdefghi")).length = 9 := by decide +kernel
    show (decide ((1 : Int) ≤ (dS (charsS "abcdefghi")).length ∧ ((dS (charsS "abcdefghi")).length : Int) ≤ 8) && ((dS (charsS "abcdefghi")).all wordB && ascB (dS (charsS "abcdefghi")))) = false
    rw [this]
    rfl
  · exact reqwords_no (fun xs e => by cases e; intro x hx; rw [List.mem_singleton.mp hx]; trivial) (by decide +kernel)
theorem turn08 {ns : List Int} (hns : ns.length ≤ 63) : Turn2 FT_law (.seq lw_2_1 (.seq lw_2_2 (.seq lw_2_3 (.seq lw_2_4 (.seq lw_2_5 (.seq lw_2_6 (.seq lw_2_7 (.seq lw_2_8 .skip)))))))) ns P08 P08 := by
  rintro l cs ⟨c2, c3, c4, c5, c6, c7, rfl⟩ hl
  obtain ⟨ps, gs, l1, h1, ok, h6, _, _, h8, hl1⟩ := x_sys ns 8 l (by decide) (by decide) (by omega) hns
  have hL : LIM = 1000000 := rfl
  have hp8 := ok.p8
  have hp1 := ok.p1
  have hy : Lay ps := (sets_lay ok (List.Sublist.refl ps)).1
  rw [← lk_law__law_system] at h1
  have e1 : evS FT_law FU lw_2_1 (en ns l c2 c3 c4 c5 c6 c7) = .ok (.nx, en ns l1 c2 (.im (rowD ps)) c4 c5 c6 c7) := by
    have hE : evE FT_law (.callS "_law_system" 1 (.loc 0) (.cons (.int 8) .nil)) (en ns l c2 c3 c4 c5 c6 c7) = .ok (sysD ps gs, en ns l1 c2 c3 c4 c5 c6 c7) := q_callS (mk := .mu) rfl (q_loc rfl) (q_cons rfl q_nil) h1
    have hI : evE FT_law (.ix (.callS "_law_system" 1 (.loc 0) (.cons (.int 8) .nil)) (.int 0)) (en ns l c2 c3 c4 c5 c6 c7) = .ok (rowD ps, en ns l1 c2 c3 c4 c5 c6 c7) := by
      rw [evE_ix]
      show bindR (evE FT_law (.callS "_law_system" 1 (.loc 0) (.cons (.int 8) .nil)) (en ns l c2 c3 c4 c5 c6 c7)) _ = _
      rw [hE]
      rfl
    exact s_asgS hI
  obtain ⟨rows, l2, h2, lok, m6, hl2⟩ := x_drawn ns ps 6 l1 hp1 hp8 hy (by decide) (by decide) (by omega) hns
  rw [← lk_law__law_drawn_list] at h2
  have e2 : evS FT_law FU lw_2_2 (en ns l1 c2 (.im (rowD ps)) c4 c5 c6 c7) = .ok (.nx, en ns l2 c2 (.im (rowD ps)) (.im (.list (rows.map rowD))) c5 c6 c7) := s_asgS (q_callS (mk := .mu) rfl (q_loc rfl) (q_cons (q_loc rfl) (q_cons (d := .int ((6 : Nat) : Int)) rfl q_nil)) h2)
  have hcl : ∀ a b, (cutL (rows.map rowD) a b).length ≤ 6 := fun a b => by
    have := (cut_sub (rows.map rowD) a b).length_le
    rw [List.length_map] at this
    omega
  have k4 : ∀ c5, evE FT_law (.bin .add (.loc 4) (.slc (.loc 4) .nil (.tr (.int 1)))) (en ns l2 c2 (.im (rowD ps)) (.im (.list (rows.map rowD))) c5 c6 c7) = .ok (.list ((rows ++ cutL rows none (some 1)).map rowD), en ns l2 c2 (.im (rowD ps)) (.im (.list (rows.map rowD))) c5 c6 c7) := fun c5 => by
    refine q_bin (d' := .list (cutL (rows.map rowD) none (some 1))) (q_loc rfl) rfl ?_
    rw [cat_list (by have := hcl none (some 1); rw [List.length_map]; omega), List.map_append, cut_map]
  have k5 : ∀ (c5 : Cell) (e : E) (r : List Str), evE FT_law e (en ns l2 c2 (.im (rowD ps)) (.im (.list (rows.map rowD))) c5 c6 c7) = .ok (.list [rowD r], en ns l2 c2 (.im (rowD ps)) (.im (.list (rows.map rowD))) c5 c6 c7) → evE FT_law (.bin .add (.loc 4) e) (en ns l2 c2 (.im (rowD ps)) (.im (.list (rows.map rowD))) c5 c6 c7) = .ok (.list ((rows ++ [r]).map rowD), en ns l2 c2 (.im (rowD ps)) (.im (.list (rows.map rowD))) c5 c6 c7) := fun c5 e r he => by
    refine q_bin (q_loc rfl) he ?_
    rw [cat_list (by rw [List.length_map, List.length_singleton]; omega), List.map_append]
    rfl
  have e3 : evS FT_law FU lw_2_3 (en ns l2 c2 (.im (rowD ps)) (.im (.list (rows.map rowD))) c5 c6 c7) = .ok (.nx, en ns l2 c2 (.im (rowD ps)) (.im (.list (rows.map rowD))) (.mu (th1 ps rows)) c6 c7) := s_asgF (q_lst (q_cons (q_loc rfl) (q_cons (q_prim (qp_loc rfl) rfl) (q_cons rfl (q_cons (k4 _) (q_cons (k5 _ _ [] rfl) (q_cons (k5 _ _ ["q"] rfl) q_nil)))))))
  have e4 : evS FT_law FU lw_2_4 (en ns l2 c2 (.im (rowD ps)) (.im (.list (rows.map rowD))) (.mu (th1 ps rows)) c6 c7) = .ok (.nx, en ns l2 c2 (.im (rowD ps)) (.im (.list (rows.map rowD))) (.mu (th1 ps rows ++ th2 ps rows)) c6 c7) := by
    refine s_addF (es := th2 ps rows) rfl (q_lst (q_cons rfl (q_cons ?_ (q_cons ?_ q_nil)))) (by simp; omega)
    · rw [evE_rev, q_loc rfl, bindR_ok]
      show bindC (.ok (PyData.list (rows.map rowD).reverse)) _ = _
      rw [bindC_ok, ← List.map_reverse]
    · refine q_lst (q_cons (q_bin (q_loc rfl) (q_loc rfl) ?_) q_nil)
      rw [cat_tup (by rw [List.length_map]; omega), ← List.map_append]
  have e5 : evS FT_law FU lw_2_5 (en ns l2 c2 (.im (rowD ps)) (.im (.list (rows.map rowD))) (.mu (th1 ps rows ++ th2 ps rows)) c6 c7) = .ok (.nx, en ns l2 c2 (.im (rowD ps)) (.im (.list (rows.map rowD))) (.mu (th1 ps rows ++ th2 ps rows ++ th3 ps rows)) c6 c7) := by
    refine s_addF (es := th3 ps rows) rfl (q_lst (q_cons (q_lst (q_cons (q_prim (qp_loc rfl) rfl) q_nil)) (q_cons (q_lst (q_cons ?_ q_nil)) (q_cons (q_loc rfl) (q_cons rfl (q_cons ?_ q_nil)))))) (by simp; omega)
    · rw [evE_rev, q_loc rfl, bindR_ok]
      show bindC (.ok (PyData.tuple (dS ps).reverse)) _ = _
      rw [bindC_ok, ← List.map_reverse]
    · rw [← cut_map]
      rfl
  obtain ⟨bs, l3, eb, nb, pb, kb⟩ := lc_drawM (F := FT_law) (i := 8) (k := 20) (it := .sq (.loc 4)) (e := .callS "_law_bent" 1 (.loc 0) (.cons (.loc 8) .nil)) (R := fun l => en ns l c2 (.im (rowD ps)) (.im (.list (rows.map rowD))) (.mu (th1 ps rows ++ th2 ps rows ++ th3 ps rows)) c6 c7) (P := Nc) (xs := rows.map rowD) (fun l => i_lst (q_loc rfl)) (by rw [List.length_map]; omega) (fun _ => rfl) (fun _ _ => rfl) (fun _ _ => rfl) (fun x hx l hl => by
    obtain ⟨r, hr, rfl⟩ := List.mem_map.mp hx
    have hsub := lok.sub r hr
    have hfn : Fn false 0 1 (rowD r) := .tup (fun y hy2 => by
      obtain ⟨s, hs, rfl⟩ := List.mem_map.mp hy2
      have w := ok.words s (hsub.subset hs)
      exact .str ⟨by have := w.2.1; omega, hy s (hsub.subset hs)⟩) (by
        have := hsub.length_le
        rw [List.length_map]
        omega)
    obtain ⟨d, l', g1, g2, g3⟩ := x_bent ns 0 (rowD r) l hfn (by decide) hns (by omega)
    rw [← lk_law__law_bent] at g1
    exact ⟨d, l', q_callS (mk := .mu) rfl (q_loc rfl) (q_cons (q_loc rfl) q_nil) g1, nc_fn g2 (by decide) (by decide), by omega⟩) (l := l2) (by rw [List.length_map]; omega)
  rw [List.length_map] at nb kb
  have e6 : evS FT_law FU lw_2_6 (en ns l2 c2 (.im (rowD ps)) (.im (.list (rows.map rowD))) (.mu (th1 ps rows ++ th2 ps rows ++ th3 ps rows)) c6 c7) = .ok (.nx, en ns l3 c2 (.im (rowD ps)) (.im (.list (rows.map rowD))) (.mu (th1 ps rows ++ th2 ps rows ++ th3 ps rows ++ [.list bs])) c6 c7) := s_appM rfl eb rfl (by simp; omega)
  have hnice := th_nice ok lok m6 pb (by omega)
  generalize hth : th1 ps rows ++ th2 ps rows ++ th3 ps rows ++ [.list bs] = th at hnice e6
  have hth0 : th ≠ [] := by rw [← hth]; simp
  have e7 : ∃ d, evS FT_law FU lw_2_7 (en ns l3 c2 (.im (rowD ps)) (.im (.list (rows.map rowD))) (.mu th) c6 c7) = .ok (.nx, en ns l3 c2 (.im (rowD ps)) (.im (.list (rows.map rowD))) (.im (.list th)) (.im d) c7) := by
    obtain ⟨d, e⟩ := for_chk (i := 6) (b := evS FT_law FU (.seq lw_2_7_1 .skip)) (ρ := en ns l3 c2 (.im (rowD ps)) (.im (.list (rows.map rowD))) (.im (.list th)) c6 c7) (xs := th) hth0 (fun x hx => by
      obtain ⟨b, g1, g2⟩ := same_list hy (hnice x hx)
      rw [s_chk (t_trB (q_cmp (q_call (ds := [rowD ps, x]) (q_cons (q_loc rfl) (q_cons (q_loc rfl) q_nil)) (by rw [lk_law__is_list]; exact y_islist ok g1)) (qp_of (q_call (ds := [rowD ps, x]) (q_cons (q_loc rfl) (q_cons (q_loc rfl) q_nil)) (by rw [lk_law__law_is_list]; exact g2))) (ne_bool _)))]
      rfl)
    exact ⟨d, s_for rfl e⟩
  obtain ⟨d6, e7⟩ := e7
  have hw := wrs_no ok
  have e8 : ∃ d, evS FT_law FU lw_2_8 (en ns l3 c2 (.im (rowD ps)) (.im (.list (rows.map rowD))) (.im (.list th)) (.im d6) c7) = .ok (.nx, en ns l3 c2 (.im (rowD ps)) (.im (.list (rows.map rowD))) (.im (.list th)) (.im d6) (.im d)) := by
    obtain ⟨d, e⟩ := for_chk (i := 7) (b := evS FT_law FU (.seq lw_2_8_1 .skip)) (ρ := en ns l3 c2 (.im (rowD ps)) (.im (.list (rows.map rowD))) (.im (.list th)) (.im d6) c7) (xs := wrs ps) (by simp) (fun x hx => by
      rw [s_chk (t_trB (q_cmp (q_call (ds := [x, .list (rows.map rowD)]) (q_cons (q_loc rfl) (q_cons (q_loc rfl) q_nil)) (by rw [lk_law__law_is_list_or]; exact o_list (hw x hx))) (qp_of rfl) (ne_str _)))]
      rfl)
    have kp : evE FT_law (.bin .add (.loc 3) (.slc (.loc 3) .nil (.tr (.int 1)))) (en ns l3 c2 (.im (rowD ps)) (.im (.list (rows.map rowD))) (.im (.list th)) (.im d6) c7) = .ok (rowD (ps ++ cutL ps none (some 1)), en ns l3 c2 (.im (rowD ps)) (.im (.list (rows.map rowD))) (.im (.list th)) (.im d6) c7) := by
      refine q_bin (d' := .tuple (cutL (dS ps) none (some 1))) (q_loc rfl) rfl ?_
      rw [cat_tup (by have := (cut_sub (dS ps) none (some 1)).length_le; rw [List.length_map] at this ⊢; omega)]
      show _ = Except.ok (PyData.tuple ((ps ++ cutL ps none (some 1)).map .str))
      rw [List.map_append, cut_map]
    have kc : evE FT_law (.prim .tuple (.str "abcdefghi")) (en ns l3 c2 (.im (rowD ps)) (.im (.list (rows.map rowD))) (.im (.list th)) (.im d6) c7) = .ok (rowD (charsS "abcdefghi"), en ns l3 c2 (.im (rowD ps)) (.im (.list (rows.map rowD))) (.im (.list th)) (.im d6) c7) := by
      refine q_prim (qp_of rfl) ?_
      show (if Str.length "abcdefghi" ≤ LIM then Except.ok (PyData.tuple ((charsS "abcdefghi").map .str)) else stk) = _
      rw [if_pos (by decide +kernel)]
    exact ⟨d, s_for (i_lst (q_lst (q_cons rfl (q_cons (q_prim (qp_loc rfl) rfl) (q_cons kp (q_cons rfl (q_cons rfl (q_cons rfl (q_cons kc (q_cons rfl q_nil)))))))))) e⟩
  obtain ⟨d7, e8⟩ := e8
  refine ⟨l3, [c2, .im (rowD ps), .im (.list (rows.map rowD)), .im (.list th), .im d6, .im d7, .no], ⟨_, _, _, _, _, _, rfl⟩, by omega, ?_⟩
  rw [s_seq e1, s_seq e2, s_seq e3, s_seq e4, s_seq e5, s_seq e6, s_seq e7, s_seq e8]
  rfl
theorem law_true (ns : List Int) (hns : ns.length ≤ 63) : f_law [.list (ns.map .int)] = .ok (.bool true) :=
  law_fin2 (N := 7) (K := 9) (j := 0) (P := P08) (Q := P08) (by decide) rfl rfl rfl ⟨_, _, _, _, _, _, rfl⟩ (by rintro cs i hi ⟨c2, c3, c4, c5, c6, c7, rfl⟩; exact ⟨_, _, _, _, _, _, rfl⟩) (turn08 hns) (fun l cs h => ⟨_, rfl⟩)
end FtLaw

set_option maxRecDepth 100000 in
theorem PySem.Challenge.cw_faulttrees_k08_lists_recognized_holds : PySem.Challenge.rw_faulttrees_k08_lists_recognized.Holds :=
  ft_end FtLaw.law_true
