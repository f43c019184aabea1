import PyProof.Rows.All
import Wide.All
import OpenK.AllK
import Wide.FinOn
import PySem.Challenge.RW_drawsheet_k44_whole_same_picture
import PyProof.P3Statements
import HandS.List
import HandS.Text
import HandS.ForMost
import HandS.Exc
import HandS.ExcOwn
import HandS.CallSlots
import HandS.WordsExc
import HandS.Walk
import HandS.IsInst
import HandS.Style
import HandS.TupAny
import HandS.TupMul
import HandS.Deep
import HandS.Rev
import HandS.Zip
import HandS.NoneIn
import HandS.EndTab
import HandS.TupLe
import HandS.SortRule
import HandS.RaiseMore
import HandS.ExcIs
import HandS.SetFor
import HandS.TryOnly
import HandS.Strs
import KE.KRevSl
import KE.GoesZip
import KE.GoesMore
import KE.KDictZip
import KE.KItemsList
import HandS.Iter
import PyProof.ExcBaseAll.ValueError

/-! ## DPure -/
set_option Elab.async false
set_option linter.all false
/-! The pure evaluator: a small AST without places, values PyData. -/
namespace DP
open PySem

/-- what an evaluation yields: a value; a refusal (its class, what it carries); nothing that is promised -/
inductive Res (α : Type) where
  | ok (a : α)
  | exc (c : String) (d : PyData)
  | stuck
def Res.bind {α β : Type} : Res α → (α → Res β) → Res β
  | .ok a, f => f a
  | .exc c d, _ => .exc c d
  | .stuck, _ => .stuck
@[simp] theorem Res.bind_ok {α β : Type} (a : α) (f : α → Res β) : (Res.ok a).bind f = f a := rfl
@[simp] theorem Res.bind_exc {α β : Type} (c : String) (d : PyData) (f : α → Res β) : (Res.exc c d).bind f = .exc c d := rfl
@[simp] theorem Res.bind_stuck {α β : Type} (f : α → Res β) : (Res.stuck).bind f = .stuck := rfl

def LIM : Nat := 1000000

inductive BOp where | add | sub | mul | fdiv | mod
  deriving DecidableEq
inductive COp where | eq | ne | lt | le | gt | ge | inn | nin | is | isn
  deriving DecidableEq
inductive Blt where | abs | len | int | str | list | tuple | min | max | all | any | sorted
  deriving DecidableEq
inductive Ty where | int | bool | str | tuple | list
  deriving DecidableEq
/-- targets: a slot, or a flat tuple of slots -/
inductive Tg where | name (i : Nat) | tup (is : List Nat)
  deriving DecidableEq

mutual
inductive DE where
  | int (i : Int) | bl (b : Bool) | non | str (s : Str)
  | var (i : Nat) | glob (x : Str)
  | tup (es : DEs) | lst (es : DEs)
  | bin (op : BOp) (a b : DE) | neg (a : DE)
  | not (a : DE) | and (es : DEs) | or (es : DEs)
  | cmp (op : COp) (a b : DE) | chain (op op' : COp) (a b c : DE) | chain3 (op op' op'' : COp) (a b c d : DE)
  | call (f : Str) (es : DEs)
  | blt (f : Blt) (es : DEs)
  | isi (a : DE) (t : Ty)
  | idx (a b : DE) | slc (a lo hi : DE) | rev (a : DE)
  | meth (o : DE) (m : Str) (es : DEs)
  | comp (elt : DE) (tg : Tg) (it : DI) (cs : DEs)
  | dctget (ks : List Str) (es : DEs) (k d : DE)
  | dctidx (ks : List Str) (es : DEs) (k : DE)
  /-- _law_told(lambda: f(es)) -/
  | told (f : Str) (es : DEs)
inductive DEs where
  | nil | cons (e : DE) (es : DEs)
inductive DI where
  | plain (e : DE) | rng (e : DE) | rng2 (a b : DE) | enum (e : DE) | zip (a b : DE) | rev (e : DE)
end

mutual
inductive DS where
  | asg (i : Nat) (e : DE)
  | asgO (i : Nat) (e : DE)
  | unp (is : List Nat) (e : DE)
  | unpL (is : List Nat) (e : DE)
  | par (i j : Nat) (a b : DE)
  | expr (e : DE)
  | app (i : Nat) (e : DE)
  | ext (i : Nat) (e : DE)
  | ret (e : DE)
  | retO (i : Nat)
  | ite (c : DE) (a b : DSs)
  | forr (tg : Tg) (it : DI) (ws : List Nat) (body : DSs)
  | whil (c : DE) (ws : List Nat) (body : DSs)
  | rais (c : String) (es : DEs)
  | pass
inductive DSs where
  | nil | cons (s : DS) (ss : DSs)
end

inductive Slot where
  | un | val (d : PyData) | own (d : PyData)
abbrev DEnv := List Slot

structure Ctx where
  call : Str → List PyData → Res PyData
  /-- from within a lambda that was handed on -/
  call2 : Str → List PyData → Res PyData
  glob : Str → Option PyData
  fuel : Nat

/-! ### operations on values -/
mutual
/-- no dict in it -/
def nd : PyData → Bool
  | .dict _ => false
  | .list xs => ndAll xs
  | .tuple xs => ndAll xs
  | .none => true | .bool _ => true | .int _ => true | .str _ => true
def ndAll : List PyData → Bool
  | [] => true
  | x :: xs => nd x && ndAll xs
end
/-- == is told of data without dicts, the lesser one at most 64 deep -/
def eqok (d e : PyData) : Bool := nd d && nd e && (decide (d.depth ≤ 64) || decide (e.depth ≤ 64))

def addD : PyData → PyData → Res PyData
  | .int i, .int j => .ok (.int (i + j))
  | .str x, .str y => if x.length + y.length ≤ LIM then .ok (.str (x ++ y)) else .stuck
  | .tuple xs, .tuple ys => if xs.length + ys.length ≤ LIM then .ok (.tuple (xs ++ ys)) else .stuck
  | .list xs, .list ys => if xs.length + ys.length ≤ LIM then .ok (.list (xs ++ ys)) else .stuck
  | _, _ => .stuck
def subD : PyData → PyData → Res PyData
  | .int i, .int j => .ok (.int (i - j))
  | _, _ => .stuck
def mulD : PyData → PyData → Res PyData
  | .int i, .int j => if (-(2 ^ 64) < i ∧ i < 2 ^ 64) ∨ (-(2 ^ 64) < j ∧ j < 2 ^ 64) then .ok (.int (i * j)) else .stuck
  | .tuple xs, .int k => if xs ≠ [] ∧ 2 ≤ k ∧ k ≤ 1000 ∧ xs.length ≤ 1000 then .ok (.tuple (List.replicate k.toNat xs).flatten) else .stuck
  | _, _ => .stuck
def fdivD : PyData → PyData → Res PyData
  | .int i, .int j => if 0 < j ∧ j < 1073741824 then .ok (.int (i / j)) else .stuck
  | _, _ => .stuck
def modD : PyData → PyData → Res PyData
  | .int i, .int j => if 0 < j then .ok (.int (i % j)) else .stuck
  | _, _ => .stuck
def binD : BOp → PyData → PyData → Res PyData
  | .add => addD
  | .sub => subD
  | .mul => mulD
  | .fdiv => fdivD
  | .mod => modD

def inD (x : PyData) : PyData → Res Bool
  | .list ys => if nd x && ndAll ys && (decide (x.depth ≤ 63)) then .ok (ys.any fun y => PyData.eqv y x) else .stuck
  | .tuple ys => if nd x && ndAll ys && (decide (x.depth ≤ 63)) then .ok (ys.any fun y => PyData.eqv y x) else .stuck
  | .str z => match x with
    | .str ⟨⟨[c]⟩⟩ => .ok (decide (c ∈ z.cps.toList))
    | _ => .stuck
  | _ => .stuck

def isD (x : PyData) : PyData → Res Bool
  | .none => .ok (match x with | .none => true | _ => false)
  | .bool b => match x with
    | .bool a => .ok (decide (a = b))
    | _ => .stuck
  | _ => .stuck

def ltD : PyData → PyData → Res Bool
  | .int i, .int j => .ok (decide (i < j))
  | .str i, .str j => .ok (decide (i.cps.toList < j.cps.toList))
  | _, _ => .stuck
def leD : PyData → PyData → Res Bool
  | .int i, .int j => .ok (decide (i ≤ j))
  | .str i, .str j => .ok (!decide (j.cps.toList < i.cps.toList))
  | _, _ => .stuck
def gtD : PyData → PyData → Res Bool
  | .int i, .int j => .ok (decide (j < i))
  | _, _ => .stuck
def geD : PyData → PyData → Res Bool
  | .int i, .int j => .ok (decide (j ≤ i))
  | _, _ => .stuck
def cmpB : COp → PyData → PyData → Res Bool
  | .eq, x, y => if eqok x y then .ok (PyData.eqv x y) else .stuck
  | .ne, x, y => if eqok x y then .ok (!PyData.eqv x y) else .stuck
  | .lt, x, y => ltD x y
  | .le, x, y => leD x y
  | .gt, x, y => gtD x y
  | .ge, x, y => geD x y
  | .inn, x, y => inD x y
  | .nin, x, y => (inD x y).bind fun b => .ok (!b)
  | .is, x, y => isD x y
  | .isn, x, y => (isD x y).bind fun b => .ok (!b)
def cmpD (op : COp) (x y : PyData) : Res PyData := (cmpB op x y).bind fun b => .ok (.bool b)

def idxD : PyData → PyData → Res PyData
  | .list xs, .int i => match L2.atI xs i with | some d => .ok d | none => .stuck
  | .tuple xs, .int i => match L2.atI xs i with | some d => .ok d | none => .stuck
  | .str z, .int i => if z.length ≤ LIM then (match L2.atI z.cps.toList i with | some c => .ok (.str ⟨#[c]⟩) | none => .stuck) else .stuck
  | .dict kvs, .int i => match L2.atI kvs i with | some p => .ok p.1 | none => .stuck
  | _, _ => .stuck

/-- a slice's part: left out, or an int -/
def partD (e : DE) (r : Res PyData) : Res (Option Int) := match e with
  | .non => .ok none
  | _ => r.bind fun d => match d with
    | .int i => .ok (some i)
    | _ => .stuck
def cutL {α : Type} (xs : List α) (lo hi : Option Int) : List α := (xs.drop (HT.sIx xs.length 0 lo)).take (HT.sIx xs.length xs.length hi - HT.sIx xs.length 0 lo)
def slcD : PyData → Option Int → Option Int → Res PyData
  | .list xs, lo, hi => .ok (.list (cutL xs lo hi))
  | .tuple xs, lo, hi => .ok (.tuple (cutL xs lo hi))
  | .str z, lo, hi => if z.length ≤ LIM then .ok (.str (L2.cutS z lo hi)) else .stuck
  | _, _, _ => .stuck
def revD : PyData → Res PyData
  | .list xs => .ok (.list xs.reverse)
  | .tuple xs => .ok (.tuple xs.reverse)
  | _ => .stuck

/-- isinstance with a built-in class -/
def isiD : Ty → PyData → Res Bool
  | t, .int _ => .ok (decide (t = .int))
  | t, .bool _ => .ok (decide (t = .bool) || decide (t = .int))
  | t, .str _ => .ok (decide (t = .str))
  | t, .tuple _ => .ok (decide (t = .tuple))
  | t, .list _ => .ok (decide (t = .list))
  | _, .none => .ok false
  | _, .dict _ => .stuck
def negD : PyData → Res PyData
  | .int i => .ok (.int (-i))
  | _ => .stuck
def intsOf : List PyData → Option (List Int)
  | [] => some []
  | .int i :: r => (intsOf r).map (i :: ·)
  | _ :: _ => none
def strsOf : List PyData → Option (List Str)
  | [] => some []
  | .str i :: r => (strsOf r).map (i :: ·)
  | _ :: _ => none
def boolsOf : List PyData → Option (List Bool)
  | [] => some []
  | .bool i :: r => (boolsOf r).map (i :: ·)
  | _ :: _ => none
def minL : Int → List Int → Int
  | m, [] => m
  | m, x :: xs => minL (if x < m then x else m) xs
def maxL : Int → List Int → Int
  | m, [] => m
  | m, x :: xs => maxL (if m < x then x else m) xs

def absD : List PyData → Res PyData
  | [.int i] => .ok (.int (if i < 0 then -i else i))
  | _ => .stuck
def lenD : List PyData → Res PyData
  | [.list xs] => .ok (.int xs.length)
  | [.tuple xs] => .ok (.int xs.length)
  | [.str z] => if z.length ≤ LIM then .ok (.int z.length) else .stuck
  | [.dict kvs] => .ok (.int kvs.length)
  | _ => .stuck
def intD : List PyData → Res PyData
  | [.int i] => .ok (.int i)
  | [.bool b] => .ok (.int (if b then 1 else 0))
  | _ => .stuck
def strD : List PyData → Res PyData
  | [.int i] => if i.natAbs.log2 < 1920 then .ok (.str (toString i)) else .stuck
  | [.str a] => .ok (.str a)
  | _ => .stuck
def listD : List PyData → Res PyData
  | [.list xs] => .ok (.list xs)
  | [.tuple xs] => .ok (.list xs)
  | _ => .stuck
def tupleD : List PyData → Res PyData
  | [.list xs] => .ok (.tuple xs)
  | [.tuple xs] => .ok (.tuple xs)
  | _ => .stuck
/-- one pair of ints before another, by the first, then by the second -/
def ltP2 (a b c d : Int) : Bool := if a = c then decide (b < d) else decide (a < c)
def sortedD : List PyData → Res PyData
  | [.list [.tuple [.int a, .int b], .tuple [.int c, .int d]]] => .ok (.list (if ltP2 c d a b then [.tuple [.int c, .int d], .tuple [.int a, .int b]] else [.tuple [.int a, .int b], .tuple [.int c, .int d]]))
  | _ => .stuck
def minD : List PyData → Res PyData
  | [.int i, .int j] => .ok (.int (if j < i then j else i))
  | [.tuple [.int a, .int b], .tuple [.int c, .int d]] => .ok (if ltP2 c d a b then .tuple [.int c, .int d] else .tuple [.int a, .int b])
  | [.list (.int i :: r)] => (match intsOf r with | some ns => .ok (.int (minL i ns)) | none => .stuck)
  | _ => .stuck
def maxD : List PyData → Res PyData
  | [.int i, .int j] => .ok (.int (if j > i then j else i))
  | [.tuple [.int a, .int b], .tuple [.int c, .int d]] => .ok (if ltP2 a b c d then .tuple [.int c, .int d] else .tuple [.int a, .int b])
  | [.list (.int i :: r)] => (match intsOf r with | some ns => .ok (.int (maxL i ns)) | none => .stuck)
  | _ => .stuck
def allD : List PyData → Res PyData
  | [.list xs] => (match boolsOf xs with | some bs => .ok (.bool (bs.all id)) | none => .stuck)
  | _ => .stuck
def anyD : List PyData → Res PyData
  | [.list xs] => (match boolsOf xs with | some bs => .ok (.bool (bs.any id)) | none => .stuck)
  | _ => .stuck
def bltD : Blt → List PyData → Res PyData
  | .abs => absD | .len => lenD | .int => intD | .str => strD | .list => listD | .tuple => tupleD | .min => minD | .max => maxD | .all => allD | .any => anyD | .sorted => sortedD

/-- the first place of an equal one -/
def findIx (d : PyData) : List PyData → Nat → Option Nat
  | [], _ => none
  | x :: xs, k => if PyData.eqv x d then some k else findIx d xs (k + 1)
def indexD : PyData → List PyData → Res PyData
  | .list xs, [d] => if nd d && ndAll xs && decide (d.depth ≤ 64) && decide ((PyData.list xs).depth ≤ 64) then (match findIx d xs 0 with | some j => .ok (.int j) | none => .stuck) else .stuck
  | _, _ => .stuck
def joinD : PyData → List PyData → Res PyData
  | .str a, [.list xs] => (match strsOf xs with | some ys => if (ys.map (·.length)).sum + ys.length * a.length ≤ LIM then .ok (.str (Txt.join a ys)) else .stuck | none => .stuck)
  | _, _ => .stuck
/-- the unlike ones -/
def dst (xs : List Str) : List Str := xs.foldl (fun acc x => if x ∈ acc then acc else x :: acc) []
/-- len(set(a)), a a list of texts -/
def lsetD : PyData → List PyData → Res PyData
  | .list xs, [] => (match strsOf xs with | some ys => if ys.length ≤ 4000 then .ok (.int (dst ys).length) else .stuck | none => .stuck)
  | _, _ => .stuck
/-- whether the object is of the method's class -/
def methOk (m : Str) : PyData → Bool
  | .list _ => decide (m = "list.index") || decide (m = "set.len")
  | .str _ => decide (m = "str.join")
  | .tuple _ => decide (m = "list.zip")
  | _ => false
/-- list(zip(a, b)), a and b tuples -/
def zipLD : PyData → List PyData → Res PyData
  | .tuple xs, [.tuple ys] => if xs.length = ys.length ∧ xs.length ≤ LIM then .ok (.list ((xs.zip ys).map fun p => .tuple [p.1, p.2])) else .stuck
  | _, _ => .stuck
def methD (m : Str) (o : PyData) (ds : List PyData) : Res PyData := if m = "list.index" then indexD o ds else if m = "str.join" then joinD o ds else if m = "list.zip" then zipLD o ds else if m = "set.len" then lsetD o ds else .stuck

/-! ### slots -/
def look (ρ : DEnv) (i : Nat) : Res PyData := match ρ.getD i .un with
  | .val d => .ok d
  | .own d => .ok d
  | .un => .stuck
/-- an operand: a name's owned list may be read -/
def brw (e : DE) (ρ : DEnv) (r : Res PyData) : Res PyData := match e with
  | .var i => look ρ i
  | _ => r
def tgSlots : Tg → List Nat
  | .name i => [i]
  | .tup is => is
def wipeE : DEnv → List Nat → DEnv
  | ρ, [] => ρ
  | ρ, v :: vs => (wipeE ρ vs).set v .un
def setAll : List Nat → List PyData → DEnv → Res DEnv
  | [], [], ρ => .ok ρ
  | i :: is, d :: ds, ρ => setAll is ds (ρ.set i (.val d))
  | _, _, _ => .stuck
def setTg : Tg → PyData → DEnv → Res DEnv
  | .name i, d, ρ => .ok (ρ.set i (.val d))
  | .tup is, .tuple ds, ρ => setAll is ds ρ
  | .tup _, _, _ => .stuck
def asB : PyData → Res Bool
  | .bool b => .ok b
  | _ => .stuck
def noExc {α : Type} : Res α → Res α
  | .exc _ _ => .stuck
  | r => r
def compLoop (f : DEnv → Res Bool) (g : DEnv → Res PyData) (tg : Tg) (ρ : DEnv) : List PyData → Res (List PyData)
  | [] => .ok []
  | d :: ds => (setTg tg d ρ).bind fun ρ' => (f ρ').bind fun b =>
      if b then (g ρ').bind fun r => (compLoop f g tg ρ ds).bind fun rs => .ok (r :: rs) else compLoop f g tg ρ ds
def lookD : List Str → List PyData → Str → Option PyData
  | k :: ks, d :: ds, x => match lookD ks ds x with
    | some e => some e
    | none => if k = x then some d else none
  | _, _, _ => none
def zipD : List PyData → List PyData → List PyData
  | x :: xs, y :: ys => .tuple [x, y] :: zipD xs ys
  | _, _ => []
def enumD : Nat → List PyData → List PyData
  | n, x :: xs => .tuple [.int n, x] :: enumD (n + 1) xs
  | _, [] => []
def itemsD : PyData → Res (List PyData)
  | .list xs => .ok xs
  | .tuple xs => .ok xs
  | .str z => if z.length ≤ LIM then .ok (z.cps.toList.map fun c => .str ⟨#[c]⟩) else .stuck
  | _ => .stuck
def rangeD (lo : Int) (n : Nat) : List PyData := (List.range n).map fun k => .int (lo + (k : Nat))
def rngD : PyData → Res (List PyData)
  | .int n => if -(2 ^ 62) ≤ n ∧ n ≤ 1000000 then .ok (rangeD 0 n.toNat) else .stuck
  | _ => .stuck
def rng2D : PyData → PyData → Res (List PyData)
  | .int lo, .int hi => if -(2 ^ 62) ≤ lo ∧ lo < 2 ^ 62 ∧ -(2 ^ 62) ≤ hi ∧ hi < 2 ^ 62 ∧ hi - lo ≤ 1000000 then .ok (rangeD lo (hi - lo).toNat) else .stuck
  | _, _ => .stuck
def revIt : PyData → Res (List PyData)
  | .list xs => .ok xs.reverse
  | .tuple xs => .ok xs.reverse
  | _ => .stuck
def enumIt : PyData → Res (List PyData)
  | .list xs => .ok (enumD 0 xs)
  | .tuple xs => .ok (enumD 0 xs)
  | _ => .stuck
def zipIt : PyData → PyData → Res (List PyData)
  | .list xs, .list ys => .ok (zipD xs ys)
  | .tuple xs, .tuple ys => .ok (zipD xs ys)
  | _, _ => .stuck

/-- the exception classes of the program, by number -/
def excIx (c : String) : Option Int := if c = "NoText" then some 0 else if c = "NoPart" then some 1 else if c = "NoFit" then some 2 else none
def toldD : Res PyData → Res PyData
  | .ok d => .ok (.tuple [.str "told", d])
  | .exc c .none => (match excIx c with | some k => .ok (.tuple [.str "refused", .int k]) | none => .stuck)
  | _ => .stuck
mutual
def evalE (C : Ctx) : DE → DEnv → Res PyData
  | .int i, _ => .ok (.int i)
  | .bl b, _ => .ok (.bool b)
  | .non, _ => .ok .none
  | .str s, _ => .ok (.str s)
  | .var i, ρ => match ρ.getD i .un with
    | .val d => .ok d
    | _ => .stuck
  | .glob x, _ => match C.glob x with
    | some d => .ok d
    | none => .stuck
  | .tup es, ρ => (evalEs C es ρ).bind fun ds => .ok (.tuple ds)
  | .lst es, ρ => (evalEs C es ρ).bind fun ds => .ok (.list ds)
  | .bin op a b, ρ => (brw a ρ (evalE C a ρ)).bind fun x => (brw b ρ (evalE C b ρ)).bind fun y => binD op x y
  | .neg a, ρ => (brw a ρ (evalE C a ρ)).bind fun x => negD x
  | .not a, ρ => (evalE C a ρ).bind fun x => (asB x).bind fun b => .ok (.bool (!b))
  | .and es, ρ => evalAnd C es ρ
  | .or es, ρ => evalOr C es ρ
  | .cmp op a b, ρ => (brw a ρ (evalE C a ρ)).bind fun x => (brw b ρ (evalE C b ρ)).bind fun y => cmpD op x y
  | .chain op op' a b c, ρ => (brw a ρ (evalE C a ρ)).bind fun x => (brw b ρ (evalE C b ρ)).bind fun y => (cmpB op x y).bind fun k =>
      if k then (brw c ρ (evalE C c ρ)).bind fun z => cmpD op' y z else .ok (.bool false)
  | .chain3 op op' op'' a b c d, ρ => (brw a ρ (evalE C a ρ)).bind fun x => (brw b ρ (evalE C b ρ)).bind fun y => (cmpB op x y).bind fun k =>
      if k then (brw c ρ (evalE C c ρ)).bind fun z => (cmpB op' y z).bind fun k' => if k' then (brw d ρ (evalE C d ρ)).bind fun w => cmpD op'' z w else .ok (.bool false) else .ok (.bool false)
  | .call f es, ρ => (evalEs C es ρ).bind fun ds => C.call f ds
  | .blt f es, ρ => (evalBs C es ρ).bind fun ds => bltD f ds
  | .isi a t, ρ => (brw a ρ (evalE C a ρ)).bind fun x => (isiD t x).bind fun b => .ok (.bool b)
  | .idx a b, ρ => (brw a ρ (evalE C a ρ)).bind fun x => (brw b ρ (evalE C b ρ)).bind fun y => idxD x y
  | .slc a lo hi, ρ => (brw a ρ (evalE C a ρ)).bind fun x => (partD lo (evalE C lo ρ)).bind fun l => (partD hi (evalE C hi ρ)).bind fun h => slcD x l h
  | .rev a, ρ => (brw a ρ (evalE C a ρ)).bind fun x => revD x
  | .meth o m es, ρ => (brw o ρ (evalE C o ρ)).bind fun x => if methOk m x then (evalBs C es ρ).bind fun ds => methD m x ds else .stuck
  | .comp elt tg it cs, ρ => (evalIt C it ρ).bind fun ds =>
      (noExc (compLoop (fun ρ' => evalT C cs ρ') (fun ρ' => evalE C elt ρ') tg (wipeE ρ (tgSlots tg)) ds)).bind fun rs => .ok (.list rs)
  | .dctget ks es k d, ρ => (evalEs C es ρ).bind fun vs => (evalE C k ρ).bind fun x => (evalE C d ρ).bind fun e => match x with
    | .str z => .ok ((lookD ks vs z).getD e)
    | _ => .stuck
  | .dctidx ks es k, ρ => (evalEs C es ρ).bind fun vs => (evalE C k ρ).bind fun x => match x with
    | .str z => (match lookD ks vs z with | some e => .ok e | none => .stuck)
    | _ => .stuck
  | .told f es, ρ => toldD ((evalEs C es ρ).bind fun ds => C.call2 f ds)
termination_by structural p => p
def evalEs (C : Ctx) : DEs → DEnv → Res (List PyData)
  | .nil, _ => .ok []
  | .cons e es, ρ => (evalE C e ρ).bind fun d => (evalEs C es ρ).bind fun ds => .ok (d :: ds)
termination_by structural p => p
def evalBs (C : Ctx) : DEs → DEnv → Res (List PyData)
  | .nil, _ => .ok []
  | .cons e es, ρ => (brw e ρ (evalE C e ρ)).bind fun d => (evalBs C es ρ).bind fun ds => .ok (d :: ds)
termination_by structural p => p
def evalAnd (C : Ctx) : DEs → DEnv → Res PyData
  | .nil, _ => .stuck
  | .cons e .nil, ρ => evalE C e ρ
  | .cons e es, ρ => (evalE C e ρ).bind fun d => (asB d).bind fun b => if b then evalAnd C es ρ else .ok (.bool false)
termination_by structural p => p
def evalOr (C : Ctx) : DEs → DEnv → Res PyData
  | .nil, _ => .stuck
  | .cons e .nil, ρ => evalE C e ρ
  | .cons e es, ρ => (evalE C e ρ).bind fun d => (asB d).bind fun b => if b then .ok (.bool true) else evalOr C es ρ
termination_by structural p => p
/-- all of some tests (a comprehension's) -/
def evalT (C : Ctx) : DEs → DEnv → Res Bool
  | .nil, _ => .ok true
  | .cons e es, ρ => (evalE C e ρ).bind fun d => (asB d).bind fun b => if b then evalT C es ρ else .ok false
termination_by structural p => p
def evalIt (C : Ctx) : DI → DEnv → Res (List PyData)
  | .plain e, ρ => (brw e ρ (evalE C e ρ)).bind itemsD
  | .rng e, ρ => (evalE C e ρ).bind rngD
  | .rng2 a b, ρ => (evalE C a ρ).bind fun x => (evalE C b ρ).bind fun y => rng2D x y
  | .enum e, ρ => (brw e ρ (evalE C e ρ)).bind enumIt
  | .zip a b, ρ => (brw a ρ (evalE C a ρ)).bind fun x => (brw b ρ (evalE C b ρ)).bind fun y => zipIt x y
  | .rev e, ρ => (brw e ρ (evalE C e ρ)).bind revIt
termination_by structural p => p
end

/-- a for's head: all that is walked stands fast, but a name's own list, which is held fast from there on -/
def evalItF (C : Ctx) : DI → DEnv → Res (List PyData)
  | .plain e, ρ => (brw e ρ (evalE C e ρ)).bind itemsD
  | .rng e, ρ => (evalE C e ρ).bind rngD
  | .rng2 a b, ρ => (evalE C a ρ).bind fun x => (evalE C b ρ).bind fun y => rng2D x y
  | .enum e, ρ => (evalE C e ρ).bind enumIt
  | .zip a b, ρ => (evalE C a ρ).bind fun x => (evalE C b ρ).bind fun y => zipIt x y
  | .rev e, ρ => (evalE C e ρ).bind revIt
inductive Flw where
  | next (ρ : DEnv) | ret (d : PyData) | brk (ρ : DEnv) | cont (ρ : DEnv)
/-- ws: slots that are forgotten at each turn's end -/
def loopD (body : DEnv → Res Flw) (tg : Tg) (ws : List Nat) : List PyData → DEnv → Res Flw
  | [], ρ => .ok (.next ρ)
  | d :: ds, ρ => (setTg tg d ρ).bind fun ρ' => (body ρ').bind fun f => match f with
    | .next ρ'' => loopD body tg ws ds (wipeE ρ'' ws)
    | .cont ρ'' => loopD body tg ws ds (wipeE ρ'' ws)
    | .brk ρ'' => .ok (.next ρ'')
    | .ret d => .ok (.ret d)
def whileD (c : DEnv → Res Bool) (body : DEnv → Res Flw) (ws : List Nat) : Nat → DEnv → Res Flw
  | 0, _ => .stuck
  | n + 1, ρ => (c ρ).bind fun b => if b then (body ρ).bind fun f => (match f with
    | .next ρ'' => whileD c body ws n (wipeE ρ'' ws)
    | .cont ρ'' => whileD c body ws n (wipeE ρ'' ws)
    | .brk ρ'' => .ok (.next ρ'')
    | .ret d => .ok (.ret d)) else .ok (.next ρ)
def isFresh : DE → Bool
  | .lst _ => true
  | .comp _ _ _ _ => true
  | .bin _ _ _ => true
  | .slc _ _ _ => true
  | .rev _ => true
  | .blt f _ => decide (f = .list) || decide (f = .sorted)
  | _ => false
/-- a for's head: a name's owned list is held fast from there on -/
def freezeIt : DI → DEnv → DEnv
  | .plain (.var i), ρ => match ρ.getD i .un with
    | .own d => ρ.set i (.val d)
    | _ => ρ
  | _, ρ => ρ
def appD (ρ : DEnv) (i : Nat) (xs : List PyData) (d : PyData) : Res Flw := if xs.length < LIM then .ok (.next (ρ.set i (.own (.list (xs ++ [d]))))) else .stuck
def extD (ρ : DEnv) (i : Nat) (xs : List PyData) : PyData → Res Flw
  | .list ys => if xs.length + ys.length ≤ LIM then .ok (.next (ρ.set i (.own (.list (xs ++ ys))))) else .stuck
  | _ => .stuck
mutual
def evalS (C : Ctx) : DS → DEnv → Res Flw
  | .asg i e, ρ => (evalE C e ρ).bind fun d => .ok (.next (ρ.set i (.val d)))
  | .asgO i e, ρ => if isFresh e then (evalE C e ρ).bind fun d => (match d with
    | .list _ => .ok (.next (ρ.set i (.own d)))
    | _ => .stuck) else .stuck
  | .unp is e, ρ => (evalE C e ρ).bind fun d => (match d with
    | .tuple ds => (setAll is ds ρ).bind fun ρ' => .ok (.next ρ')
    | _ => .stuck)
  | .unpL is e, ρ => (evalE C e ρ).bind fun d => (match d with
    | .list ds => (setAll is ds ρ).bind fun ρ' => .ok (.next ρ')
    | _ => .stuck)
  | .par i j a b, ρ => (evalE C a ρ).bind fun x => (evalE C b ρ).bind fun y => .ok (.next ((ρ.set i (.val x)).set j (.val y)))
  | .expr e, ρ => (evalE C e ρ).bind fun _ => .ok (.next ρ)
  | .app i e, ρ => (match ρ.getD i .un with
    | .own (.list xs) => (evalE C e ρ).bind fun d => appD ρ i xs d
    | _ => .stuck)
  | .ext i e, ρ => (match ρ.getD i .un with
    | .own (.list xs) => (evalE C e ρ).bind fun d => extD ρ i xs d
    | _ => .stuck)
  | .ret e, ρ => (evalE C e ρ).bind fun d => .ok (.ret d)
  | .retO i, ρ => (match ρ.getD i .un with
    | .own d => .ok (.ret d)
    | _ => .stuck)
  | .ite c a b, ρ => (evalE C c ρ).bind fun d => (asB d).bind fun k => if k then evalSs C a ρ else evalSs C b ρ
  | .forr tg it ws body, ρ => (evalItF C it ρ).bind fun ds => loopD (fun ρ' => evalSs C body ρ') tg ws ds (wipeE (freezeIt it ρ) ws)
  | .whil c ws body, ρ => whileD (fun ρ' => (evalE C c ρ').bind asB) (fun ρ' => evalSs C body ρ') ws C.fuel (wipeE ρ ws)
  | .rais c es, _ => (match es with
    | .cons (.str _) .nil => .exc c .none
    | _ => .stuck)
  | .pass, ρ => .ok (.next ρ)
termination_by structural p => p
def evalSs (C : Ctx) : DSs → DEnv → Res Flw
  | .nil, ρ => .ok (.next ρ)
  | .cons s ss, ρ => (evalS C s ρ).bind fun f => match f with
    | .next ρ' => evalSs C ss ρ'
    | f => .ok f
termination_by structural p => p
end

/-- a def: its name, the names by slot (parameters first), how many parameters, its body -/
structure Def where
  name : Str
  names : List Str
  arity : Nat
  body : DSs

def findDef : List Def → Str → Option Def
  | [], _ => none
  | d :: ds, f => if d.name = f then some d else findDef ds f
structure Prog where
  defs : List Def
  consts : List (Str × PyData)
  fuel : Nat
  excs : List String
  /-- the defs that hand lambdas on -/
  lams : List Str
def outF : Res Flw → Res PyData
  | .ok (.ret d) => .ok d
  | .ok (.next _) => .ok .none
  | .ok _ => .stuck
  | .exc c d => .exc c d
  | .stuck => .stuck
def entry (d : Def) (ds : List PyData) : DEnv := ds.map .val ++ List.replicate (d.names.length - ds.length) .un
/-- a def's run, given what its calls do -/
def runD (G : Prog) (c c2 : Str → List PyData → Res PyData) (f : Str) (ds : List PyData) : Res PyData := match findDef G.defs f with
    | none => .stuck
    | some d => if ds.length = d.arity then outF (evalSs { call := c, call2 := c2, glob := fun x => G.consts.lookup x, fuel := G.fuel } d.body (entry d ds)) else .stuck
def callD (G : Prog) : Nat → Str → List PyData → Res PyData
  | 0 => fun _ _ => .stuck
  | 1 => runD G (fun _ _ => .stuck) (fun _ _ => .stuck)
  | 2 => runD G (callD G 1) (fun _ _ => .stuck)
  | n + 3 => runD G (callD G (n + 2)) (callD G n)
/-- two calls deeper -/
def lowD (G : Prog) : Nat → Str → List PyData → Res PyData
  | 0 => fun _ _ => .stuck
  | 1 => fun _ _ => .stuck
  | n + 2 => callD G n
theorem callD_zero (G : Prog) (f : Str) (ds : List PyData) : callD G 0 f ds = .stuck := rfl
theorem callD_succ (G : Prog) (n : Nat) (f : Str) (ds : List PyData) : callD G (n + 1) f ds = match findDef G.defs f with
    | none => .stuck
    | some d => if ds.length = d.arity then outF (evalSs { call := callD G n, call2 := lowD G n, glob := fun x => G.consts.lookup x, fuel := G.fuel } d.body (entry d ds)) else .stuck := by
  match n with
  | 0 => rfl
  | 1 => rfl
  | n + 2 => rfl
def ctxOf (G : Prog) (n : Nat) : Ctx := { call := callD G n, call2 := lowD G n, glob := fun x => G.consts.lookup x, fuel := G.fuel }
/-- a script as the evaluator has it -/
def scrD (ns : List Int) : PyData := .dict (ns.map fun n => (.int n, .none))
end DP

/-! ## DRel -/
set_option Elab.async false
set_option linter.all false
set_option maxRecDepth 100000
set_option maxHeartbeats 1000000
set_option autoImplicit false
/-! How the evaluator's data lie in the heap. -/
namespace DP
open PySem PySem.Spec L2

/-- the tables of code objects that grow while lambdas are made: where, and for what name -/
class Tb where
  T : List (Addr × Str)
variable [Tb]
def nt : HO → Bool
  | .tbl _ => false
  | _ => true
/-- nothing but perhaps a table stands there -/
def Nn (H : Hp) (a : Addr) : Prop := ∀ o, H a = some o → nt o = false
theorem nn_of {H : Hp} {a : Addr} (h : H a = none) : Nn H a := fun o e => by rw [h] at e; cases e
theorem Nn.no {H : Hp} {a : Addr} {o : HO} (h : Nn H a) (e : H a = some o) (n : nt o = true := by rfl) : False := by
  rw [h o e] at n; cases n
/-- all but the tables stays -/
def Sub (F H : Hp) : Prop := ∀ a o, F a = some o → nt o = true → H a = some o
theorem Sub.get {F H : Hp} (s : Sub F H) {a : Addr} {o : HO} (h : F a = some o) (n : DP.nt o = true := by rfl) : H a = some o := s a o h n
theorem Sub.of {F H : Hp} (h : ∀ a o, F a = some o → H a = some o) : Sub F H := fun a o e _ => h a o e
theorem Sub.refl (H : Hp) : Sub H H := Sub.of fun _ _ h => h
theorem Sub.trans {A B C : Hp} (a : Sub A B) (b : Sub B C) : Sub A C := fun x o h n => b x o (a x o h n) n
theorem ne_of_nn {H : Hp} {a p : Addr} {o : HO} (e : H a = some o) (n : nt o = true) (h : Nn H p) : a ≠ p := fun q => by subst q; exact h.no e n
theorem Sub.new {H : Hp} {p : Addr} {o : HO} (h : Nn H p) : Sub H (upd H p o) := fun a u e n => by
  rw [upd_ne (ne_of_nn e n h)]; exact e
theorem Sub.free {F H : Hp} (s : Sub F H) {p : Addr} (h : Nn H p) : Nn F p := fun o e => by
  cases n : nt o with
  | false => rfl
  | true => exact (h.no (s p o e n) n).elim
theorem Sub.upd {F H : Hp} (s : Sub F H) {p : Addr} {o : HO} : Sub (upd F p o) (upd H p o) := fun a u e n => by
  by_cases h : a = p
  · subst h; rw [upd_same] at e ⊢; exact e
  · rw [upd_ne h] at e ⊢; exact s a u e n
theorem Sub.to {F H : Hp} (s : Sub F H) {p : Addr} {o : HO} (h : H p = some o) : Sub (L2.upd F p o) H := fun a u e n => by
  by_cases q : a = p
  · subst q; rw [upd_same] at e; cases e; exact h
  · rw [upd_ne q] at e; exact s a u e n
/-- an object that is not in the fixed part may change -/
theorem Sub.mut {F H : Hp} (s : Sub F H) {p : Addr} {o : HO} (h : Nn F p) : Sub F (L2.upd H p o) := fun a u e n => by
  rw [upd_ne (ne_of_nn e n h)]; exact s a u e n
/-- the fixed part lies in the heap; the tables stand -/
structure St (F H : Hp) : Prop where
  sub : Sub F H
  tb : LamX.Tabs Tb.T H
instance {F H : Hp} : CoeOut (St F H) (Sub F H) := ⟨St.sub⟩
theorem Tb.new {H : Hp} {p : Addr} {o : HO} (t : LamX.Tabs Tb.T H) (h : H p = none) : LamX.Tabs Tb.T (upd H p o) := t.ext fun a u e => by
  rw [upd_ne (ne_of_none e h)]; exact e
/-- a list changes -/
theorem Tb.mut {H : Hp} {p : Addr} {xs : List V} {o : HO} (t : LamX.Tabs Tb.T H) (h : H p = some (.lst xs)) : LamX.Tabs Tb.T (upd H p o) := fun q hq => by
  obtain ⟨ps, h1, h2, h3⟩ := t q hq
  refine ⟨ps, ?_, h2, fun pos cv hc => ?_⟩
  · rw [upd_ne (fun e => by rw [e, h] at h1; cases h1)]; exact h1
  · obtain ⟨c, e1, e2⟩ := h3 pos cv hc
    exact ⟨c, e1, by rw [upd_ne (fun e => by rw [e, h] at e2; unfold LamX.CodeO at e2; cases e2)]; exact e2⟩
theorem St.free {F H : Hp} (s : St F H) {p : Addr} (h : H p = none) : Nn F p := s.sub.free (nn_of h)
theorem St.get {F H : Hp} (s : St F H) {a : Addr} {o : HO} (h : F a = some o) (n : DP.nt o = true := by rfl) : H a = some o := s.sub.get h n
theorem St.trans {F H J : Hp} (s : St F H) (g : Sub H J) : Sub F J := s.sub.trans g
theorem St.new {F H : Hp} (s : St F H) {p : Addr} {o : HO} (h : H p = none) : St F (upd H p o) := ⟨s.sub.trans (Sub.new (nn_of h)), Tb.new s.tb h⟩
theorem St.upd {F H : Hp} (s : St F H) {p : Addr} {o : HO} (h : H p = none) : St (upd F p o) (upd H p o) := ⟨s.sub.upd, Tb.new s.tb h⟩
theorem St.to {F H : Hp} (s : St F H) {p : Addr} {o : HO} (h : H p = some o) : St (L2.upd F p o) H := ⟨s.sub.to h, s.tb⟩
theorem St.mut {F H : Hp} (s : St F H) {p : Addr} {o : HO} {xs : List V} (h : Nn F p) (h' : H p = some (.lst xs)) : St F (L2.upd H p o) := ⟨s.sub.mut h, Tb.mut s.tb h'⟩

theorem sub_rd {F H : Hp} {a : Addr} {u : HO} (e : Sub F H) (n : DP.nt u = true) (h : Rd F a u) : Rd H a u := by
  rcases h with h | ⟨o, h⟩
  · exact .inl (e.get h n)
  · exact .inr ⟨o, e.get h⟩
theorem sub_l {K : PySem.W.Frag} {F H : Hp} {a : Addr} {xs : List V} (e : Sub F H) (h : SqL K F a xs) : SqL K H a xs := h.imp (sub_rd e rfl) id
theorem sub_t {K : PySem.W.Frag} {F H : Hp} {a : Addr} {xs : List V} (e : Sub F H) (h : SqT K F a xs) : SqT K H a xs := h.imp (sub_rd e rfl) id

/-! ### values that stand for data; F: the part of the heap that no more changes -/
mutual
inductive Rp (K : PySem.W.Frag) (F : Hp) : V → PyData → Prop
  | non : Rp K F .non .none
  | bl (b : Bool) : Rp K F (.bl b) (.bool b)
  | int (i : Int) : Rp K F (.int i) (.int i)
  | str (x : Str) : PyData.strOk x = true → Rp K F (.str x) (.str x)
  | lst {a : Addr} {xs : List V} {ds : List PyData} : F a = some (.lst xs) → xs.length ≤ sizeLine → RpAll K F xs ds → Rp K F (.ref a) (.list ds)
  | tup {a : Addr} {xs : List V} {ds : List PyData} : SqT K F a xs → xs.length ≤ sizeLine → RpAll K F xs ds → Rp K F (.ref a) (.tuple ds)
  /-- the law's script: its length and its items are read, nothing else -/
  | scr {a : Addr} {ns : List Int} : SqL K F a (ns.map V.int) → ns.length ≤ sizeLine → Rp K F (.ref a) (.dict (ns.map fun n => (.int n, .none)))
inductive RpAll (K : PySem.W.Frag) (F : Hp) : List V → List PyData → Prop
  | nil : RpAll K F [] []
  | cons {v : V} {vs : List V} {d : PyData} {ds : List PyData} : Rp K F v d → RpAll K F vs ds → RpAll K F (v :: vs) (d :: ds)
end
section
variable {K : PySem.W.Frag} {F H F' H' : Hp}
mutual
theorem Rp.sub (s : Sub F H) : ∀ {d : PyData} {v : V}, Rp K F v d → Rp K H v d
  | .none, _, h => by cases h; exact .non
  | .bool _, _, h => by cases h; exact .bl _
  | .int _, _, h => by cases h; exact .int _
  | .str _, _, h => by cases h with | str _ q => exact .str _ q
  | .list ds, _, h => by cases h with | lst a z b => exact .lst (s.get a) z (RpAll.sub s b)
  | .tuple ds, _, h => by cases h with | tup a z b => exact .tup (sub_t s a) z (RpAll.sub s b)
  | .dict _, _, h => by cases h with | scr a z => exact .scr (sub_l s a) z
theorem RpAll.sub (s : Sub F H) : ∀ {ds : List PyData} {vs : List V}, RpAll K F vs ds → RpAll K H vs ds
  | [], _, h => by cases h; exact .nil
  | _ :: _, _, h => by cases h with | cons a b => exact .cons (Rp.sub s a) (RpAll.sub s b)
end
mutual
theorem Rp.dp : ∀ {d : PyData} {v : V}, DP.nd d = true → Rp K F v d → Dp K F v d
  | .none, _, _, h => by cases h; exact .non
  | .bool _, _, _, h => by cases h; exact .bl _
  | .int _, _, _, h => by cases h; exact .int _
  | .str _, _, _, h => by cases h; exact .str _
  | .list ds, _, n, h => by cases h with | lst a z b => exact .lst (.inl (.inl a)) (RpAll.dp (by simpa only [DP.nd] using n) b)
  | .tuple ds, _, n, h => by cases h with | tup a z b => exact .tup a (RpAll.dp (by simpa only [DP.nd] using n) b)
  | .dict _, _, n, h => by simp only [DP.nd] at n; cases n
theorem RpAll.dp : ∀ {ds : List PyData} {vs : List V}, ndAll ds = true → RpAll K F vs ds → DpAll K F vs ds
  | [], _, _, h => by cases h; exact .nil
  | _ :: _, _, n, h => by
    simp only [ndAll, Bool.and_eq_true] at n
    cases h with | cons a b => exact .cons (Rp.dp n.1 a) (RpAll.dp n.2 b)
end
theorem RpAll.length {vs : List V} {ds : List PyData} (h : RpAll K F vs ds) : vs.length = ds.length := by
  induction ds generalizing vs with
  | nil => cases h; rfl
  | cons d ds ih => cases h with | cons a b => simp [ih b]
theorem RpAll.get {vs : List V} {ds : List PyData} (h : RpAll K F vs ds) {i : Nat} {d : PyData} (e : ds[i]? = some d) : ∃ v, vs[i]? = some v ∧ Rp K F v d := by
  induction ds generalizing vs i with
  | nil => simp at e
  | cons c ds ih =>
    cases h with
    | cons a b =>
      cases i with
      | zero => simp at e; subst e; exact ⟨_, rfl, a⟩
      | succ i => simpa using ih b (by simpa using e)
theorem RpAll.get' {vs : List V} {ds : List PyData} (h : RpAll K F vs ds) {i : Nat} {v : V} (e : vs[i]? = some v) : ∃ d, ds[i]? = some d ∧ Rp K F v d := by
  induction ds generalizing vs i with
  | nil => cases h; simp at e
  | cons c ds ih =>
    cases h with
    | cons a b =>
      cases i with
      | zero => simp at e; subst e; exact ⟨_, rfl, a⟩
      | succ i => simpa using ih b (by simpa using e)
theorem RpAll.append {vs ws : List V} {ds es : List PyData} (h : RpAll K F vs ds) (g : RpAll K F ws es) : RpAll K F (vs ++ ws) (ds ++ es) := by
  induction ds generalizing vs with
  | nil => cases h; exact g
  | cons d ds ih => cases h with | cons a b => exact .cons a (ih b)
theorem RpAll.take {vs : List V} {ds : List PyData} (n : Nat) (h : RpAll K F vs ds) : RpAll K F (vs.take n) (ds.take n) := by
  induction ds generalizing vs n with
  | nil => cases h; simp; exact .nil
  | cons d ds ih =>
    cases h with
    | cons a b =>
      cases n with
      | zero => exact .nil
      | succ n => exact .cons a (ih n b)
theorem RpAll.drop {vs : List V} {ds : List PyData} (n : Nat) (h : RpAll K F vs ds) : RpAll K F (vs.drop n) (ds.drop n) := by
  induction ds generalizing vs n with
  | nil => cases h; simp; exact .nil
  | cons d ds ih =>
    cases h with
    | cons a b =>
      cases n with
      | zero => exact .cons a b
      | succ n => exact ih n b
theorem RpAll.reverse {vs : List V} {ds : List PyData} (h : RpAll K F vs ds) : RpAll K F vs.reverse ds.reverse := by
  induction ds generalizing vs with
  | nil => cases h; exact .nil
  | cons d ds ih => cases h with | cons a b => rw [List.reverse_cons, List.reverse_cons]; exact (ih b).append (.cons a .nil)
theorem RpAll.rep {vs : List V} {ds : List PyData} (h : RpAll K F vs ds) (n : Nat) : RpAll K F (List.replicate n vs).flatten (List.replicate n ds).flatten := by
  induction n with
  | zero => exact .nil
  | succ n ih => rw [List.replicate_succ, List.replicate_succ, List.flatten_cons, List.flatten_cons]; exact h.append ih
theorem RpAll.nil_iff {vs : List V} {ds : List PyData} (h : RpAll K F vs ds) : vs = [] ↔ ds = [] := by
  cases h <;> simp
mutual
theorem Rp.cl : ∀ {d : PyData} {v : V}, DP.nd d = true → Rp K F v d → d.canLay0 = true
  | .none, _, _, h => by simp [PyData.canLay0]
  | .bool _, _, _, h => by simp [PyData.canLay0]
  | .int _, _, _, h => by simp [PyData.canLay0]
  | .str _, _, _, h => by cases h with | str _ q => simpa [PyData.canLay0] using q
  | .list ds, _, n, h => by cases h with | lst a z b => simpa [PyData.canLay0] using RpAll.cl (by simpa only [DP.nd] using n) b
  | .tuple ds, _, n, h => by cases h with | tup a z b => simpa [PyData.canLay0] using RpAll.cl (by simpa only [DP.nd] using n) b
  | .dict _, _, n, h => by simp only [DP.nd] at n; cases n
theorem RpAll.cl : ∀ {ds : List PyData} {vs : List V}, ndAll ds = true → RpAll K F vs ds → PyData.canLayAll0 ds = true
  | [], _, _, h => by simp [PyData.canLayAll0]
  | _ :: _, _, n, h => by
    simp only [ndAll, Bool.and_eq_true] at n
    cases h with | cons a b => simp [PyData.canLayAll0, Rp.cl n.1 a, RpAll.cl n.2 b]
end

/-- an object of the frame's own: it may still change -/
def OwnR (K : PySem.W.Frag) (F H : Hp) (v : V) : PyData → Prop
  | .list ds => ∃ a vs, v = .ref a ∧ Nn F a ∧ H a = some (.lst vs) ∧ vs.length ≤ sizeLine ∧ RpAll K F vs ds
  | _ => False
/-- what may be read -/
def Rp1 (K : PySem.W.Frag) (F H : Hp) (v : V) (d : PyData) : Prop := Rp K F v d ∨ OwnR K F H v d

/-- the heap has grown; nothing that stood was changed -/
structure Ext (F H F' H' : Hp) : Prop where
  ff : Sub F F'
  fh : St F' H'
  hh : Sub H H'
  fr : ∀ a o, F' a = some o → F a = some o ∨ Nn H a
theorem Ext.refl (s : St F H) : Ext F H F H := ⟨Sub.refl F, s, Sub.refl H, fun _ _ h => .inl h⟩
theorem Ext.trans {F2 H2 : Hp} (a : Ext F H F' H') (b : Ext F' H' F2 H2) : Ext F H F2 H2 := by
  refine ⟨a.ff.trans b.ff, b.fh, a.hh.trans b.hh, fun x o h => ?_⟩
  rcases b.fr x o h with h | h
  · exact a.fr x o h
  · exact .inr (a.hh.free h)
/-- a new object, fixed at once -/
theorem Ext.new {p : Addr} {o : HO} (s : St F H) (h : H p = none) : Ext F H (L2.upd F p o) (L2.upd H p o) := by
  refine ⟨Sub.new (s.free h), s.upd h, Sub.new (nn_of h), fun a u e => ?_⟩
  by_cases q : a = p
  · subst q; exact .inr (nn_of h)
  · rw [upd_ne q] at e; exact .inl e
/-- a new object that may still change -/
theorem Ext.newOwn {p : Addr} {o : HO} (s : St F H) (h : H p = none) : Ext F H F (L2.upd H p o) :=
  ⟨Sub.refl F, s.new h, Sub.new (nn_of h), fun _ _ e => .inl e⟩
/-- an object of ours is fixed from here on -/
theorem Ext.fix {F0 H0 : Hp} {p : Addr} {o : HO} (e : Ext F0 H0 F H) (h : H p = some o) (n : Nn F p) (hn : Nn H0 p) : Ext F0 H0 (L2.upd F p o) H := by
  refine ⟨e.ff.trans (Sub.new n), e.fh.to h, e.hh, fun a u q => ?_⟩
  by_cases z : a = p
  · subst z; exact .inr hn
  · rw [upd_ne z] at q; exact e.fr a u q
theorem OwnR.ext {v : V} {d : PyData} (e : Ext F H F' H') (h : OwnR K F H v d) : OwnR K F' H' v d := by
  cases d with
  | list ds =>
    obtain ⟨a, vs, rfl, n, ha, z, r⟩ := h
    refine ⟨a, vs, rfl, fun o q => ?_, e.hh.get ha, z, r.sub e.ff⟩
    rcases e.fr a o q with q | q
    · exact n o q
    · exact (q.no ha).elim
  | _ => exact h
theorem Rp1.ext {v : V} {d : PyData} (e : Ext F H F' H') (h : Rp1 K F H v d) : Rp1 K F' H' v d := h.imp (Rp.sub e.ff) (OwnR.ext e)

inductive RpAll1 (K : PySem.W.Frag) (F H : Hp) : List V → List PyData → Prop
  | nil : RpAll1 K F H [] []
  | cons {v : V} {vs : List V} {d : PyData} {ds : List PyData} : Rp1 K F H v d → RpAll1 K F H vs ds → RpAll1 K F H (v :: vs) (d :: ds)
theorem RpAll1.ext {vs : List V} {ds : List PyData} (e : Ext F H F' H') (h : RpAll1 K F H vs ds) : RpAll1 K F' H' vs ds := by
  induction h with
  | nil => exact .nil
  | cons a _ ih => exact .cons (a.ext e) ih

/-- a value's result: f tells that a list is new and may still change -/
def RR (K : PySem.W.Frag) (f : Bool) (H F' H' : Hp) (v : V) (d : PyData) : Prop :=
  match f, d with
  | true, .list _ => OwnR K F' H' v d ∧ ∀ a, v = .ref a → Nn H a
  | _, _ => Rp K F' v d
theorem RR.back {f : Bool} {H0 : Hp} {v : V} {d : PyData} (s : Sub H0 H) (h : RR K f H F' H' v d) : RR K f H0 F' H' v d := by
  cases f with
  | false => exact h
  | true =>
    cases d with
    | list ds => exact ⟨h.1, fun a e => s.free (h.2 a e)⟩
    | _ => exact h
theorem RR.of {f : Bool} {v : V} {d : PyData} (h : Rp K F' v d) (n : ∀ ds, d ≠ .list ds) : RR K f H F' H' v d := by
  cases f with
  | false => exact h
  | true =>
    cases d with
    | list ds => exact absurd rfl (n ds)
    | _ => exact h
theorem RR.rp1 {f : Bool} {v : V} {d : PyData} (h : RR K f H F' H' v d) : Rp1 K F' H' v d := by
  cases f with
  | false => exact .inl h
  | true =>
    cases d with
    | list ds => exact .inr h.1
    | _ => exact .inl h

/-! ### the frame's slots -/
def SlotR (K : PySem.W.Frag) (F H : Hp) : Slot → Option V → Prop
  | .un, _ => True
  | .val d, o => ∃ v, o = some v ∧ Rp K F v d
  | .own d, o => ∃ v, o = some v ∧ OwnR K F H v d
structure Fr (K : PySem.W.Frag) (σ : L2.St) (F H : Hp) (ρ : DEnv) : Prop where
  len : σ.length = ρ.length
  at' : ∀ (i : Nat) (sl : Slot), ρ[i]? = some sl → ∃ o, σ[i]? = some o ∧ SlotR K F H sl o
  dis : ∀ (i j : Nat) (d d' : PyData) (v : V), ρ[i]? = some (.own d) → ρ[j]? = some (.own d') → σ[i]? = some (some v) → σ[j]? = some (some v) → i = j
theorem SlotR.ext {sl : Slot} {o : Option V} (e : Ext F H F' H') (h : SlotR K F H sl o) : SlotR K F' H' sl o := by
  cases sl with
  | un => trivial
  | val d => obtain ⟨v, a, b⟩ := h; exact ⟨v, a, b.sub e.ff⟩
  | own d => obtain ⟨v, a, b⟩ := h; exact ⟨v, a, b.ext e⟩
theorem Fr.ext {σ : L2.St} {ρ : DEnv} (e : Ext F H F' H') (h : Fr K σ F H ρ) : Fr K σ F' H' ρ :=
  ⟨h.len, fun i sl q => let ⟨o, a, b⟩ := h.at' i sl q; ⟨o, a, b.ext e⟩, h.dis⟩
theorem Fr.val {σ : L2.St} {ρ : DEnv} {i : Nat} {d : PyData} (h : Fr K σ F H ρ) (e : ρ.getD i .un = .val d) : ∃ v, σ[i]? = some (some v) ∧ Rp K F v d := by
  rw [List.getD_eq_getElem?_getD] at e
  cases q : ρ[i]? with
  | none => rw [q] at e; cases e
  | some sl =>
    rw [q] at e
    simp only [Option.getD_some] at e
    subst e
    obtain ⟨o, a, v, rfl, b⟩ := h.at' i _ q
    exact ⟨v, a, b⟩
theorem Fr.own {σ : L2.St} {ρ : DEnv} {i : Nat} {d : PyData} (h : Fr K σ F H ρ) (e : ρ.getD i .un = .own d) : ∃ v, σ[i]? = some (some v) ∧ OwnR K F H v d := by
  rw [List.getD_eq_getElem?_getD] at e
  cases q : ρ[i]? with
  | none => rw [q] at e; cases e
  | some sl =>
    rw [q] at e
    simp only [Option.getD_some] at e
    subst e
    obtain ⟨o, a, v, rfl, b⟩ := h.at' i _ q
    exact ⟨v, a, b⟩
theorem Fr.setVal {σ : L2.St} {ρ : DEnv} {i : Nat} {v : V} {d : PyData} (h : Fr K σ F H ρ) (r : Rp K F v d) : Fr K (σ.set i (some v)) F H (ρ.set i (.val d)) := by
  refine ⟨by simp [h.len], fun j sl q => ?_, fun j k d1 d2 w h1 h2 h3 h4 => ?_⟩
  · by_cases z : i = j
    · subst z
      have hi : i < ρ.length := by
        have := (List.getElem?_eq_some_iff.mp q).1
        simpa using this
      rw [List.getElem?_set_self hi] at q
      cases q
      exact ⟨some v, by rw [List.getElem?_set_self (by rw [h.len]; exact hi)], v, rfl, r⟩
    · rw [List.getElem?_set_ne z] at q ⊢
      exact h.at' j sl q
  · have z1 : i ≠ j := fun z => by
      subst z
      have hi : i < ρ.length := by
        have := (List.getElem?_eq_some_iff.mp h1).1
        simpa using this
      rw [List.getElem?_set_self hi] at h1; cases h1
    have z2 : i ≠ k := fun z => by
      subst z
      have hi : i < ρ.length := by
        have := (List.getElem?_eq_some_iff.mp h2).1
        simpa using this
      rw [List.getElem?_set_self hi] at h2; cases h2
    rw [List.getElem?_set_ne z1] at h1 h3
    rw [List.getElem?_set_ne z2] at h2 h4
    exact h.dis j k d1 d2 w h1 h2 h3 h4
theorem Fr.setOwn {σ : L2.St} {ρ : DEnv} {i : Nat} {v : V} {d : PyData} (h : Fr K σ F H ρ) (r : OwnR K F H v d)
    (n : ∀ (j : Nat) (d' : PyData), j ≠ i → ρ[j]? = some (.own d') → σ[j]? ≠ some (some v)) : Fr K (σ.set i (some v)) F H (ρ.set i (.own d)) := by
  refine ⟨by simp [h.len], fun j sl q => ?_, fun j k d1 d2 w h1 h2 h3 h4 => ?_⟩
  · by_cases z : i = j
    · subst z
      have hi : i < ρ.length := by
        have := (List.getElem?_eq_some_iff.mp q).1
        simpa using this
      rw [List.getElem?_set_self hi] at q
      cases q
      exact ⟨some v, by rw [List.getElem?_set_self (by rw [h.len]; exact hi)], v, rfl, r⟩
    · rw [List.getElem?_set_ne z] at q ⊢
      exact h.at' j sl q
  · have len := h.len
    by_cases z1 : i = j
    · subst z1
      by_cases z2 : i = k
      · exact z2
      · have hi : i < σ.length := by
          have := (List.getElem?_eq_some_iff.mp h3).1
          simpa using this
        rw [List.getElem?_set_self hi] at h3
        cases h3
        rw [List.getElem?_set_ne z2] at h2 h4
        exact absurd h4 (n k d2 (Ne.symm z2) h2)
    · by_cases z2 : i = k
      · subst z2
        have hi : i < σ.length := by
          have := (List.getElem?_eq_some_iff.mp h4).1
          simpa using this
        rw [List.getElem?_set_self hi] at h4
        cases h4
        rw [List.getElem?_set_ne z1] at h1 h3
        exact absurd h3 (n j d1 (Ne.symm z1) h1)
      · rw [List.getElem?_set_ne z1] at h1 h3
        rw [List.getElem?_set_ne z2] at h2 h4
        exact h.dis j k d1 d2 w h1 h2 h3 h4
/-- an own object changes (or is fixed): the other slots stand -/
theorem Fr.mut {σ : L2.St} {ρ : DEnv} {i : Nat} {a : Addr} {d : PyData} {sl' : Slot} (h : Fr K σ F H ρ) (ho : ρ[i]? = some (.own d)) (hi : σ[i]? = some (some (.ref a)))
    (sF : Sub F F') (keep : ∀ b vs, b ≠ a → Nn F b → H b = some (.lst vs) → Nn F' b ∧ H' b = some (.lst vs)) (new : SlotR K F' H' sl' (some (.ref a))) : Fr K σ F' H' (ρ.set i sl') := by
  have il : i < ρ.length := (List.getElem?_eq_some_iff.mp ho).1
  refine ⟨by simp [h.len], fun j sl q => ?_, fun j k d1 d2 w h1 h2 h3 h4 => ?_⟩
  · by_cases z : i = j
    · subst z
      rw [List.getElem?_set_self il] at q
      cases q
      exact ⟨_, hi, new⟩
    · rw [List.getElem?_set_ne z] at q
      obtain ⟨o, e, r⟩ := h.at' j sl q
      refine ⟨o, e, ?_⟩
      cases sl with
      | un => trivial
      | val d => obtain ⟨v, a, b⟩ := r; exact ⟨v, a, b.sub sF⟩
      | own d' =>
        obtain ⟨v, rfl, b⟩ := r
        refine ⟨v, rfl, ?_⟩
        cases d' with
        | list ds =>
          obtain ⟨b, vs, rfl, n, hb, zz, rr⟩ := b
          have ne : b ≠ a := fun q' => by subst q'; exact z (h.dis i j _ _ _ ho q hi e)
          obtain ⟨k1, k2⟩ := keep b vs ne n hb
          exact ⟨b, vs, rfl, k1, k2, zz, rr.sub sF⟩
        | _ => exact b
  · have old : ∀ {m : Nat} {dd : PyData}, (ρ.set i sl')[m]? = some (.own dd) → ∃ dd', ρ[m]? = some (.own dd') := fun {m dd} q => by
      by_cases z : i = m
      · subst z; exact ⟨_, ho⟩
      · rw [List.getElem?_set_ne z] at q; exact ⟨_, q⟩
    obtain ⟨e1, q1⟩ := old h1
    obtain ⟨e2, q2⟩ := old h2
    exact h.dis j k e1 e2 w q1 q2 h3 h4
end

/-! ### readings -/
/-- how a refusal lies in the heap -/
def ExcR (K : PySem.W.Frag) (mg : Str → Option Value) (c : String) (d : PyData) (cls : Value) (dd : Option Addr) (F H : Hp) : Prop :=
  mg (Str.ofString c) = some cls ∧ match d with
    | .none => dd = none
    | d => ∃ a v, dd = some a ∧ H a = some (.xd [(("ring" : Str), v)]) ∧ Rp K F v d
/-- what is wanted behind an evaluation -/
def PostX {α β : Type} (K : PySem.W.Frag) (mg : Str → Option Value) (W : WX) (R : Hp → Hp → α → β → Prop) (σ : L2.St) (F H : Hp) (Q : α → Hp → Prop) : Res β → Prop
  | .ok d => ∀ v F' H', Ext F H F' H' → R F' H' v d → Q v H'
  | .exc c d => ∀ cls dd F' H', Ext F H F' H' → ExcR K mg c d cls dd F' H' → W cls dd σ H'
  | .stuck => False
/-- the reading of an evaluation r: R tells what its value is (by the heap ahead, the fixed part and the heap behind) -/
def TX {α β : Type} (K : PySem.W.Frag) (mg : Str → Option Value) (W : WX) (R : Hp → Hp → Hp → α → β → Prop) (r : DEnv → Res β) : L2.St → Hp → (α → Hp → Prop) → Prop := fun σ H Q =>
  ∃ F ρ, St F H ∧ Fr K σ F H ρ ∧ PostX K mg W (R H) σ F H Q (r ρ)
section
variable {K : PySem.W.Frag} {mg : Str → Option Value} {W : WX} {α β γ δ : Type}
theorem PostX.mono {R R' : Hp → Hp → α → β → Prop} {σ : L2.St} {F H F1 H1 : Hp} {Q Q' : α → Hp → Prop} {x : Res β} (h : PostX K mg W R σ F H Q x) (e : Ext F H F1 H1)
    (hR : ∀ v d F' H', Ext F1 H1 F' H' → R' F' H' v d → R F' H' v d) (hQ : ∀ v H', Q v H' → Q' v H') : PostX K mg W R' σ F1 H1 Q' x := by
  cases x with
  | ok d => exact fun v F' H' e' r => hQ _ _ (h v F' H' (e.trans e') (hR v d F' H' e' r))
  | exc c d => exact fun cls dd F' H' e' r => h cls dd F' H' (e.trans e') r
  | stuck => exact h
/-- one evaluation, then another one -/
theorem TX.bindF {R : Hp → Hp → Hp → α → β → Prop} {R' : Hp → Hp → Hp → γ → δ → Prop} {r : DEnv → Res β} {k : β → Res δ} {σ : L2.St} {F H : Hp} {ρ : DEnv} {Q : γ → Hp → Prop}
    (hR : ∀ H0 H1 F' H' v d, Sub H0 H1 → R' H1 F' H' v d → R' H0 F' H' v d) (s : St F H) (f : Fr K σ F H ρ)
    (p : PostX K mg W (R' H) σ F H Q ((r ρ).bind k)) {Q' : α → Hp → Prop}
    (hk : ∀ x F1 H1 d, Ext F H F1 H1 → R H F1 H1 x d → r ρ = .ok d → Fr K σ F1 H1 ρ → PostX K mg W (R' H1) σ F1 H1 Q (k d) → Q' x H1) : TX K mg W R r σ H Q' := by
  refine ⟨F, ρ, s, f, ?_⟩
  cases e : r ρ with
  | ok d =>
    rw [e, Res.bind_ok] at p
    exact fun v F' H' ex rr => hk v F' H' d ex rr e (f.ext ex) (p.mono ex (fun v d F2 H2 e2 q => hR _ _ _ _ _ _ ex.hh q) fun _ _ q => q)
  | exc c d => rw [e] at p; exact p
  | stuck => rw [e] at p; exact p
end

/-- a value; f: where it is a list, it is new and may still change -/
abbrev TV (X : Cx) (W : WX) (f : Bool) (r : DEnv → Res PyData) : TE := TX X.K X.mg W (RR X.K f) r
/-- an operand -/
abbrev TB (X : Cx) (W : WX) (r : DEnv → Res PyData) : TE := TX X.K X.mg W (fun _ F H v d => Rp1 X.K F H v d) r
abbrev TAs (X : Cx) (W : WX) (r : DEnv → Res (List PyData)) : TA := TX X.K X.mg W (fun _ F _ vs ds => RpAll X.K F vs ds) r
abbrev TBs (X : Cx) (W : WX) (r : DEnv → Res (List PyData)) : TA := TX X.K X.mg W (fun _ F H vs ds => RpAll1 X.K F H vs ds) r
abbrev TTs (X : Cx) (W : WX) (r : DEnv → Res Bool) : TT := TX X.K X.mg W (fun _ _ _ (b b' : Bool) => b = b') r

/-! ### weaker readings -/
section
variable {X : Cx} {e : Expr} {es : List Expr}
theorem _root_.L2.PE.mono' {t t' : TE} (h : PE X e t) (m : ∀ σ H Q, t' σ H Q → t σ H Q) : PE X e t' := ⟨fun pins s σ H Q I q => h.run pins s σ H Q I (m σ H Q q)⟩
theorem _root_.L2.PT.mono' {t t' : TT} (h : PT X e t) (m : ∀ σ H Q, t' σ H Q → t σ H Q) : PT X e t' := ⟨fun pins s σ H Q I q => h.run pins s σ H Q I (m σ H Q q)⟩
theorem _root_.L2.PW.mono' {t t' : TT} (h : PW X e t) (m : ∀ σ H Q, t' σ H Q → t σ H Q) : PW X e t' := ⟨fun wh pins s σ H Q I q => h.run wh pins s σ H Q I (m σ H Q q)⟩
theorem _root_.L2.PA.mono' {t t' : TA} (h : PA X es t) (m : ∀ σ H Q, t' σ H Q → t σ H Q) : PA X es t' := ⟨fun pos pins s σ H Q I q => h.run pos pins s σ H Q I (m σ H Q q)⟩
theorem _root_.L2.PSs.mono' {ss : List Stmt} {t t' : TS} (h : PSs X ss t) (m : ∀ D σ H, t' D σ H → t D σ H) : PSs X ss t' := ⟨fun pins s σ H D I q => h.run pins s σ H D I (m D σ H q)⟩
theorem _root_.L2.PS.mono' {ss : Stmt} {t t' : TS} (h : PS X ss t) (m : ∀ D σ H, t' D σ H → t D σ H) : PS X ss t' := ⟨fun pins s σ H D I q => h.run pins s σ H D I (m D σ H q)⟩
theorem TX.weak {α β : Type} {K : PySem.W.Frag} {mg : Str → Option Value} {W : WX} {R R' : Hp → Hp → Hp → α → β → Prop} {r : DEnv → Res β} {σ : L2.St} {H : Hp} {Q : α → Hp → Prop} (h : TX K mg W R r σ H Q)
    (m : ∀ F' H' v d, R' H F' H' v d → R H F' H' v d) : TX K mg W R' r σ H Q := by
  obtain ⟨F, ρ, s, f, p⟩ := h
  exact ⟨F, ρ, s, f, p.mono (Ext.refl s) (fun v d F' H' _ q => m F' H' v d q) fun _ _ q => q⟩
/-- a new list is fixed -/
theorem _root_.L2.PE.fix {W : WX} {f : Bool} {r : DEnv → Res PyData} (h : PE X e (TV X W f r)) : PE X e (TV X W false r) := by
  cases f with
  | false => exact h
  | true =>
    refine PE.mono' h fun σ H Q q => ?_
    obtain ⟨F, ρ, s, f, p⟩ := q
    refine ⟨F, ρ, s, f, ?_⟩
    cases z : r ρ with
    | exc c d => rw [z] at p; exact p
    | stuck => rw [z] at p; exact p
    | ok d =>
      rw [z] at p
      intro v F' H' ex rr
      cases d with
      | list ds =>
        obtain ⟨⟨a, vs, rfl, n, ha, zz, r⟩, fr⟩ := rr
        exact p (.ref a) (L2.upd F' a (.lst vs)) H' (ex.fix ha n (fr a rfl)) (.lst upd_same zz (r.sub (Sub.new n)))
      | _ => exact p v F' H' ex rr
theorem _root_.L2.PE.brw' {W : WX} {f : Bool} {r : DEnv → Res PyData} (h : PE X e (TV X W f r)) : PE X e (TB X W r) :=
  PE.mono' h fun σ H Q q => q.weak fun _ _ _ _ x => x.rp1
end
end DP

/-! ## DOps -/
set_option Elab.async false
set_option linter.all false
set_option maxRecDepth 100000
set_option maxHeartbeats 1000000
set_option autoImplicit false
/-! The operations on data, by the layer's rules. -/
namespace DP
open PySem PySem.Spec L2
variable [Tb]

section
variable {K : PySem.W.Frag} {F H : Hp} {v : V}
theorem Rp1.int {i : Int} (h : Rp1 K F H v (.int i)) : v = .int i := by
  rcases h with h | h
  · cases h; rfl
  · exact h.elim
theorem Rp1.str {x : Str} (h : Rp1 K F H v (.str x)) : v = .str x ∧ PyData.strOk x = true := by
  rcases h with h | h
  · cases h with | str _ q => exact ⟨rfl, q⟩
  · exact h.elim
theorem Rp1.bl {x : Bool} (h : Rp1 K F H v (.bool x)) : v = .bl x := by
  rcases h with h | h
  · cases h; rfl
  · exact h.elim
theorem Rp1.non (h : Rp1 K F H v .none) : v = .non := by
  rcases h with h | h
  · cases h; rfl
  · exact h.elim
theorem Rp1.tup {ds : List PyData} (h : Rp1 K F H v (.tuple ds)) : ∃ a vs, v = .ref a ∧ SqT K F a vs ∧ vs.length ≤ sizeLine ∧ RpAll K F vs ds := by
  rcases h with h | h
  · cases h with | tup a z b => exact ⟨_, _, rfl, a, z, b⟩
  · exact h.elim
theorem Rp1.rpT {ds : List PyData} (h : Rp1 K F H v (.tuple ds)) : Rp K F v (.tuple ds) := by
  obtain ⟨a, vs, rfl, t, z, r⟩ := h.tup
  exact .tup t z r
theorem Rp1.lst {ds : List PyData} (s : St F H) (h : Rp1 K F H v (.list ds)) : ∃ a vs, v = .ref a ∧ H a = some (.lst vs) ∧ vs.length ≤ sizeLine ∧ RpAll K F vs ds := by
  rcases h with h | h
  · cases h with | lst a z b => exact ⟨_, _, rfl, s.get a, z, b⟩
  · obtain ⟨a, vs, e, n, ha, z, r⟩ := h
    exact ⟨a, vs, e, ha, z, r⟩
theorem Rp1.scr {ds : List (PyData × PyData)} (s : St F H) (h : Rp1 K F H v (.dict ds)) : ∃ (a : Addr) (ns : List Int), v = .ref a ∧ SqL K H a (ns.map V.int) ∧ ns.length ≤ sizeLine ∧ ds = ns.map fun n => (.int n, .none) := by
  rcases h with h | h
  · cases h with | scr a z => exact ⟨_, _, rfl, sub_l s a, z, rfl⟩
  · exact h.elim
theorem Rp1.dp {d : PyData} (s : St F H) (n : DP.nd d = true) (h : Rp1 K F H v d) : Dp K H v d := by
  rcases h with h | h
  · exact (h.sub s).dp n
  · cases d with
    | list ds =>
      obtain ⟨a, vs, rfl, _, ha, z, r⟩ := h
      exact .lst (.inl (.inl ha)) (RpAll.dp (by simpa only [DP.nd] using n) (RpAll.sub s r))
    | _ => exact h.elim
theorem Rp1.cl {d : PyData} (n : DP.nd d = true) (h : Rp1 K F H v d) : d.canLay0 = true := by
  rcases h with h | h
  · exact h.cl n
  · cases d with
    | list ds =>
      obtain ⟨a, vs, rfl, _, ha, z, r⟩ := h
      simpa [PyData.canLay0] using RpAll.cl (by simpa only [DP.nd] using n) r
    | _ => exact h.elim
theorem lim_line {n : Nat} (h : n ≤ LIM) : n ≤ sizeLine := Nat.le_trans h (by decide)
theorem lim_lt {n : Nat} (h : n < LIM) : n < sizeLine := Nat.lt_of_lt_of_le h (by decide)
/-- a new tuple -/
theorem rr_tup {f : Bool} {ds : List PyData} {vs : List V} {p : Addr} (s : St F H) (hp : H p = none) (r : RpAll K F vs ds) (z : vs.length ≤ sizeLine) {Q : VK}
    (q : ∀ v F' H', Ext F H F' H' → RR K f H F' H' v (.tuple ds) → Q v H') : Q (.ref p) (upd H p (.tup vs)) := by
  refine q _ _ _ (Ext.new s hp) (RR.of (.tup (.inl (.inl upd_same)) z (r.sub (Sub.new (s.free hp)))) fun _ z => nomatch z)
/-- a new list -/
theorem rr_lst {ds : List PyData} {vs : List V} {p : Addr} (s : St F H) (hp : H p = none) (r : RpAll K F vs ds) (z : vs.length ≤ sizeLine) {Q : VK}
    (q : ∀ v F' H', Ext F H F' H' → RR K true H F' H' v (.list ds) → Q v H') : Q (.ref p) (upd H p (.lst vs)) := by
  refine q _ _ _ (Ext.newOwn s hp) ⟨⟨p, vs, rfl, s.free hp, upd_same, z, r⟩, fun a e => ?_⟩
  cases e; exact nn_of hp
/-- what stands already -/
theorem rr_old {f : Bool} {d : PyData} (s : St F H) (r : Rp K F v d) (n : ∀ ds, d ≠ .list ds) {Q : VK}
    (q : ∀ v F' H', Ext F H F' H' → RR K f H F' H' v d → Q v H') : Q v H := q _ _ _ (Ext.refl s) (RR.of r n)
end

def rD (K : PySem.W.Frag) (f : Bool) (g : PyData → PyData → Res PyData) : R2 := fun x y H Q => ∃ F d1 d2 d, St F H ∧ Rp1 K F H x d1 ∧ Rp1 K F H y d2 ∧ g d1 d2 = .ok d ∧ ∀ v F' H', Ext F H F' H' → RR K f H F' H' v d → Q v H'
def rD1 (K : PySem.W.Frag) (f : Bool) (g : PyData → Res PyData) : V → Hp → VK → Prop := fun x H Q => ∃ F d1 d, St F H ∧ Rp1 K F H x d1 ∧ g d1 = .ok d ∧ ∀ v F' H', Ext F H F' H' → RR K f H F' H' v d → Q v H'
def rDs (K : PySem.W.Frag) (f : Bool) (g : List PyData → Res PyData) : List V → Hp → VK → Prop := fun xs H Q => ∃ F ds d, St F H ∧ RpAll1 K F H xs ds ∧ g ds = .ok d ∧ ∀ v F' H', Ext F H F' H' → RR K f H F' H' v d → Q v H'

def opOf : BOp → Operator
  | .add => .Add | .sub => .Sub | .mul => .Mult | .fdiv => .FloorDiv | .mod => .Mod
def copOf : COp → CmpOp
  | .eq => .Eq | .ne => .NotEq | .lt => .Lt | .le => .LtE | .gt => .Gt | .ge => .GtE | .inn => .In | .nin => .NotIn | .is => .Is | .isn => .IsNot
section
variable {X : Cx}
theorem strOk_append {x y : Str} (hx : PyData.strOk x = true) (hy : PyData.strOk y = true) : PyData.strOk (x ++ y) = true := by
  unfold PyData.strOk at *
  show (x.cps ++ y.cps).all _ = true
  rw [Array.all_append, hx, hy]; rfl

theorem op_addD : OpR X (binaryOp .Add) (rD X.K true addD) := by
  intro pins s σ H x y v u Q I rx ry h
  obtain ⟨F, d1, d2, d, sF, h1, h2, e, q⟩ := h
  unfold addD at e
  split at e
  · cases h1.int; cases h2.int; cases e
    exact op_add pins s σ H _ _ v u Q I rx ry ⟨_, _, rfl, rfl, rr_old sF (.int _) (fun _ z => nomatch z) q⟩
  · obtain ⟨e1, o1⟩ := h1.str
    obtain ⟨e2, o2⟩ := h2.str
    subst e1; subst e2
    split at e
    · rename_i hl
      cases e
      exact op_add_str pins s σ H _ _ v u Q I rx ry ⟨_, _, rfl, rfl, lim_line hl, rr_old sF (.str _ (strOk_append o1 o2)) (fun _ z => nomatch z) q⟩
    · cases e
  · obtain ⟨a, vs, e1, hq1, z1, r1⟩ := h1.tup
    obtain ⟨b, ws, e2, hq2, z2, r2⟩ := h2.tup
    subst e1; subst e2
    split at e
    · rename_i hl
      cases e
      refine op_catA pins s σ H _ _ v u Q I rx ry ⟨_, _, _, _, rfl, rfl, sub_t sF hq1, sub_t sF hq2, by rw [r1.length, r2.length]; exact lim_line hl, fun hx => ?_, fun hx hy => ?_, fun hx hy p hp => ?_⟩
      · have := r1.nil_iff.mp hx
        subst this
        exact rr_old sF (.tup hq2 z2 r2) (fun _ z => nomatch z) q
      · have := r2.nil_iff.mp hy
        subst this
        rw [List.append_nil] at q
        exact rr_old sF (.tup hq1 z1 r1) (fun _ z => nomatch z) q
      · exact rr_tup sF hp (r1.append r2) (by rw [List.length_append, r1.length, r2.length]; exact lim_line hl) q
    · cases e
  · obtain ⟨a, vs, e1, hq1, z1, r1⟩ := h1.lst sF
    obtain ⟨b, ws, e2, hq2, z2, r2⟩ := h2.lst sF
    subst e1; subst e2
    split at e
    · rename_i hl
      cases e
      refine op_cat pins s σ H _ _ v u Q I rx ry ⟨_, _, _, _, rfl, rfl, hq1, hq2, by rw [r1.length, r2.length]; exact lim_line hl, fun p hp => ?_⟩
      exact rr_lst sF hp (r1.append r2) (by rw [List.length_append, r1.length, r2.length]; exact lim_line hl) q
    · cases e
  · cases e
theorem op_subD : OpR X (binaryOp .Sub) (rD X.K true subD) := by
  intro pins s σ H x y v u Q I rx ry h
  obtain ⟨F, d1, d2, d, sF, h1, h2, e, q⟩ := h
  unfold subD at e
  split at e
  · cases h1.int; cases h2.int; cases e
    exact op_sub pins s σ H _ _ v u Q I rx ry ⟨_, _, rfl, rfl, rr_old sF (.int _) (fun _ z => nomatch z) q⟩
  · cases e
theorem op_mulD : OpR X (binaryOp .Mult) (rD X.K true mulD) := by
  intro pins s σ H x y v u Q I rx ry h
  obtain ⟨F, d1, d2, d, sF, h1, h2, e, q⟩ := h
  unfold mulD at e
  split at e
  · cases h1.int; cases h2.int
    split at e
    · rename_i hc
      cases e
      exact op_mul pins s σ H _ _ v u Q I rx ry ⟨_, _, rfl, rfl, hc, rr_old sF (.int _) (fun _ z => nomatch z) q⟩
    · cases e
  · obtain ⟨a, vs, e1, hq1, z1, r1⟩ := h1.tup
    subst e1
    cases h2.int
    split at e
    · rename_i hc
      obtain ⟨c1, c2, c3, c4⟩ := hc
      cases e
      refine op_repT pins s σ H _ _ v u Q I rx ry ⟨_, _, _, rfl, rfl, sub_t sF hq1, fun z => c1 (r1.nil_iff.mp z), c2, c3, by rw [r1.length]; exact c4, fun p hp => ?_⟩
      refine rr_tup sF hp (r1.rep _) ?_ q
      rw [List.length_flatten, List.map_replicate, List.sum_replicate_nat]
      rw [r1.length]
      have h9 : sizeLine = 16777216 := sizeLine_eq
      rw [h9]
      have : (_ : Int).toNat ≤ 1000 := Int.toNat_le.mpr c3
      exact Nat.le_trans (Nat.mul_le_mul this c4) (by decide)
    · cases e
  · cases e
theorem op_fdivD : OpR X (binaryOp .FloorDiv) (rD X.K true fdivD) := by
  intro pins s σ H x y v u Q I rx ry h
  obtain ⟨F, d1, d2, d, sF, h1, h2, e, q⟩ := h
  unfold fdivD at e
  split at e
  · cases h1.int; cases h2.int
    split at e
    · rename_i hc
      cases e
      exact op_fdiv pins s σ H _ _ v u Q I rx ry ⟨_, _, rfl, rfl, hc, rr_old sF (.int _) (fun _ z => nomatch z) q⟩
    · cases e
  · cases e
theorem op_modD : OpR X (binaryOp .Mod) (rD X.K true modD) := by
  intro pins s σ H x y v u Q I rx ry h
  obtain ⟨F, d1, d2, d, sF, h1, h2, e, q⟩ := h
  unfold modD at e
  split at e
  · cases h1.int; cases h2.int
    split at e
    · rename_i hc
      cases e
      exact op_mod pins s σ H _ _ v u Q I rx ry ⟨_, _, rfl, rfl, hc, rr_old sF (.int _) (fun _ z => nomatch z) q⟩
    · cases e
  · cases e
theorem op_binD (op : BOp) : OpR X (binaryOp (opOf op)) (rD X.K true (binD op)) := by
  cases op
  · exact op_addD
  · exact op_subD
  · exact op_mulD
  · exact op_fdivD
  · exact op_modD
end
end DP

/-! ## DMin -/
set_option Elab.async false
set_option linter.all false
set_option maxRecDepth 100000
set_option maxHeartbeats 1000000
set_option autoImplicit false
/-! min and max of two tuples. -/
namespace DP
open PySem PySem.Spec L2

section
variable {prog : Program} {w : World} {A : Around} {R : Result → Shared → Prop} {I S : Addr} {fp wr : List Addr} {P : Nat → Value → Prop} {St : Nat → Heap → Prop} {E : Value → Shared → Prop} {s : Shared}
/-- the loop's last round -/
theorem min_end (W : Walks prog w A.in1 I fp wr 2 P St) (hSf : S ∉ fp) {vb : Value} {c : Nat} (hst : St 2 s.heap) (hS : s.heap.get? S = some { cls := .type "list", dict := none, data := .seq #[vb, vb] c, slots := #[] })
    (hR : ∀ h' tk, (∀ b o, b ∉ wr → b ≠ S → s.heap.get? b = some o → h'.get? b = some o) → R (.ok (.ret vb)) { s with heap := h', toks := tk }) : codeAny (model prog w) A (.builtin "min.loop" ⟨[.ref I, .none, .ref S], []⟩) R s := by
  apply codeAny_builtin F.entry_min_loop
  rw [Around.under_plainId F.plain_min_loop]
  apply wpAny_bind; apply wpAny_seqItems hS rfl
  apply wpAny_bind; apply wpAny_tryCatch; apply W.done s _ _ hst; intro h1 tk k1
  apply wpAny_bind; apply wpAny_updateSeq (k1 S _ (fun z => hSf (W.sub _ z)) hS) rfl
  apply wpAny_bind; apply wpAny_letGo; apply wpAny_pure
  exact hR _ tk fun b o n1 n2 e => (Heap.get?_update_other _ _ (Ne.symm n2)).trans (k1 b o n1 e)
/-- the second round -/
theorem min_mid (W : Walks prog w A.in1 I fp wr 2 P St) (hSf : S ∉ fp) {va : Value} {c : Nat} {lt : Bool} (hst : St 1 s.heap) (hS : s.heap.get? S = some { cls := .type "list", dict := none, data := .seq #[va, va] c, slots := #[] })
    (hc : ∀ vb (s' : Shared) (Q : Value → Shared → Prop) (E : Value → Shared → Prop), P 1 vb → (∀ b o, b ∉ wr → b ≠ S → s.heap.get? b = some o → s'.heap.get? b = some o) → Q (.bool lt) s' → wpAny (model prog w) A.in1 (richCompare .Lt vb va) Q E s')
    (hR : ∀ vb h' tk, P 1 vb → (∀ b o, b ∉ wr → b ≠ S → s.heap.get? b = some o → h'.get? b = some o) → R (.ok (.ret (if lt then vb else va))) { s with heap := h', toks := tk }) : codeAny (model prog w) A (.builtin "min.loop" ⟨[.ref I, .none, .ref S], []⟩) R s := by
  have nm : (toString "min" ++ toString ".loop" : String) = "min.loop" := by rfl
  have hSw : S ∉ wr := fun z => hSf (W.sub _ z)
  apply codeAny_builtin F.entry_min_loop
  rw [Around.under_plainId F.plain_min_loop]
  apply wpAny_bind; apply wpAny_seqItems hS rfl
  apply wpAny_bind; apply wpAny_tryCatch; apply W.item 1 s _ _ (by decide) hst; intro vb h1 tk hP st2 k1
  have hS1 := k1 S _ hSw hS
  apply wpAny_bind; apply wpAny_pure; apply wpAny_bind; apply wpAny_tryCatch; apply wpAny_holding; apply wpAny_bind
  refine hc vb _ _ _ hP (fun b o n1 _ e => k1 b o n1 e) ?_
  apply wpAny_bind; apply wpAny_holding; apply wpAny_truthy_bool
  apply wpAny_bind; apply wpAny_letGo; apply wpAny_pure
  cases lt with
  | true =>
    simp only [if_true]
    apply wpAny_bind; apply wpAny_updateSeq hS1 rfl; apply wpAny_bind; apply wpAny_letGo
    rw [nm]
    refine wpAny_pure ⟨plainId_quiet F.plain_min_loop _, min_end W hSf (vb := vb) (W.frame _ _ _ st2 fun b hb o e => ?_) (Heap.get?_update_self _ hS1 rfl) fun h2 tk2 k2 => ?_⟩
    · exact (Heap.get?_update_other _ _ (fun z : S = b => hSf (z ▸ hb))).trans e
    · exact hR vb h2 tk2 hP fun b o n1 n2 e => k2 b o n1 n2 ((Heap.get?_update_other _ _ (Ne.symm n2)).trans (k1 b o n1 e))
  | false =>
    simp only [Bool.false_eq_true, if_false]
    apply wpAny_bind; apply wpAny_letGo
    rw [nm]
    refine wpAny_pure ⟨plainId_quiet F.plain_min_loop _, min_end W hSf (vb := va) st2 hS1 fun h2 tk2 k2 => ?_⟩
    exact hR vb h2 tk2 hP fun b o n1 n2 e => k2 b o n1 n2 (k1 b o n1 e)
/-- of two values of any kind, by how they compare -/
theorem min_two {a b : Value} {lt : Bool} {Q : Value → Shared → Prop} (hh : A.handled = none)
    (hc : ∀ (s' : Shared) (Q : Value → Shared → Prop) (E : Value → Shared → Prop), (∀ x o, s.heap.get? x = some o → s'.heap.get? x = some o) → Q (.bool lt) s' → wpAny (model prog w) A.in1 (richCompare .Lt b a) Q E s')
    (h : ∀ h' tk, (∀ x o, s.heap.get? x = some o → h'.get? x = some o) → Q (if lt then b else a) { s with heap := h', toks := tk }) : wpAny (model prog w) A (call (.builtin "min") [a, b]) Q E s := by
  have nm : (toString "min" ++ toString ".loop" : String) = "min.loop" := by rfl
  apply call_function_tree F.kind_min F.plain_min F.entry_min (F.args_min2 a b)
  apply wpAny_bind; refine wpAny_of_eq (a := [none, none]) rfl ?_
  apply wpAny_bind; refine wpAny_newObj_type ?_
  have n0 : (s.heap.push { cls := .type "tuple", data := .seq #[a, b] }).objs.size = s.heap.objs.size + 1 := Heap.size_push ..
  have hT : (s.heap.push { cls := .type "tuple", data := .seq #[a, b] }).IsTuple s.heap.objs.size #[a, b] := ⟨_, Heap.get?_push_size _ rfl, rfl, 0, rfl⟩
  apply wpAny_bind; apply wpAny_pyIter_tuple hT
  apply wpAny_bind; refine wpAny_newObj_type ?_
  rw [nm]
  have W : Walks prog w A.in1 (s.heap.push { cls := .type "tuple", data := .seq #[a, b] }).objs.size _ _ 2 _ _ := Walks.tuple (prog := prog) (w := w) (A := A.in1) hh _ s.heap.objs.size (by rw [n0]; exact Nat.ne_of_lt (Nat.lt_succ_self _)) #[a, b]
  generalize hN : (s.heap.push { cls := .type "tuple", data := .seq #[a, b] }).push { cls := .type "tuple_iterator", data := .fields #[.ref s.heap.objs.size, .int 0 0] } = hp at *
  have n1 : hp.objs.size = s.heap.objs.size + 2 := by rw [← hN, Heap.size_push, n0]
  have hSf : hp.objs.size ∉ [(s.heap.push { cls := .type "tuple", data := .seq #[a, b] }).objs.size, s.heap.objs.size] := by
    rw [n0, n1]; simp
  have st0 : (hp.push { cls := .type "list", data := .seq #[] }).IsTupleIter (s.heap.push { cls := .type "tuple", data := .seq #[a, b] }).objs.size s.heap.objs.size 0 ∧ (hp.push { cls := .type "list", data := .seq #[] }).IsTuple s.heap.objs.size #[a, b] := by
    subst hN
    exact ⟨⟨_, Heap.get?_push_of_some _ (Heap.get?_push_size _ rfl), rfl, rfl⟩, (hT.push _).push _⟩
  have old : ∀ x o, s.heap.get? x = some o → (hp.push { cls := .type "list", data := .seq #[] }).get? x = some o := fun x o e => by
    subst hN
    exact Heap.get?_push_of_some _ (Heap.get?_push_of_some _ (Heap.get?_push_of_some _ e))
  refine wpAny_pure ⟨plainId_quiet F.plain_min_loop _, ?_⟩
  apply codeAny_builtin F.entry_min_loop
  rw [Around.under_plainId F.plain_min_loop]
  apply wpAny_bind; apply wpAny_seqItems (Heap.get?_push_size _ rfl) rfl
  apply wpAny_bind; apply wpAny_tryCatch; apply W.item 0 _ _ _ (by decide) st0; intro v h1 tk hP st2 k1
  obtain rfl : a = v := by simpa using hP
  have hS1 := k1 hp.objs.size _ (fun z => hSf (W.sub _ z)) (Heap.get?_push_size _ rfl)
  apply wpAny_bind; apply wpAny_pure; apply wpAny_bind; refine wpAny_updateSeq hS1 rfl ?_
  rw [nm]
  have out : ∀ x, x < s.heap.objs.size → x ∉ [(s.heap.push { cls := .type "tuple", data := .seq #[a, b] }).objs.size] ∧ x ≠ hp.objs.size := fun x hx => by
    rw [n0, n1]; constructor <;> simp <;> omega
  have keep : ∀ (f : Obj → Obj) x o, s.heap.get? x = some o → (h1.update hp.objs.size f).get? x = some o := fun f x o e => (Heap.get?_update_other _ _ (Ne.symm (out x (Heap.lt_size e)).2)).trans (k1 x o (out x (Heap.lt_size e)).1 (old x o e))
  refine wpAny_pure ⟨plainId_quiet F.plain_min_loop _, min_mid W hSf (va := a) (lt := lt) (W.frame _ _ _ st2 fun b hb o e => ?_) (Heap.get?_update_self _ hS1 rfl) (fun vb s' Q' E' hv k2 q => ?_) fun vb h2 tk2 hv k2 => ?_⟩
  · exact (Heap.get?_update_other _ _ (fun z : hp.objs.size = b => hSf (z ▸ hb))).trans e
  · obtain rfl : b = vb := by simpa using hv
    exact hc s' Q' E' (fun x o e => k2 x o (out x (Heap.lt_size e)).1 (out x (Heap.lt_size e)).2 (keep _ x o e)) q
  · obtain rfl : b = vb := by simpa using hv
    exact h h2 tk2 fun x o e => k2 x o (out x (Heap.lt_size e)).1 (out x (Heap.lt_size e)).2 (keep _ x o e)
end

section
variable {prog : Program} {w : World} {A : Around} {R : Result → Shared → Prop} {I S : Addr} {fp wr : List Addr} {P : Nat → Value → Prop} {St : Nat → Heap → Prop} {E : Value → Shared → Prop} {s : Shared}
/-- the loop's last round -/
theorem max_end (W : Walks prog w A.in1 I fp wr 2 P St) (hSf : S ∉ fp) {vb : Value} {c : Nat} (hst : St 2 s.heap) (hS : s.heap.get? S = some { cls := .type "list", dict := none, data := .seq #[vb, vb] c, slots := #[] })
    (hR : ∀ h' tk, (∀ b o, b ∉ wr → b ≠ S → s.heap.get? b = some o → h'.get? b = some o) → R (.ok (.ret vb)) { s with heap := h', toks := tk }) : codeAny (model prog w) A (.builtin "max.loop" ⟨[.ref I, .none, .ref S], []⟩) R s := by
  apply codeAny_builtin F.entry_max_loop
  rw [Around.under_plainId F.plain_max_loop]
  apply wpAny_bind; apply wpAny_seqItems hS rfl
  apply wpAny_bind; apply wpAny_tryCatch; apply W.done s _ _ hst; intro h1 tk k1
  apply wpAny_bind; apply wpAny_updateSeq (k1 S _ (fun z => hSf (W.sub _ z)) hS) rfl
  apply wpAny_bind; apply wpAny_letGo; apply wpAny_pure
  exact hR _ tk fun b o n1 n2 e => (Heap.get?_update_other _ _ (Ne.symm n2)).trans (k1 b o n1 e)
/-- the second round -/
theorem max_mid (W : Walks prog w A.in1 I fp wr 2 P St) (hSf : S ∉ fp) {va : Value} {c : Nat} {lt : Bool} (hst : St 1 s.heap) (hS : s.heap.get? S = some { cls := .type "list", dict := none, data := .seq #[va, va] c, slots := #[] })
    (hc : ∀ vb (s' : Shared) (Q : Value → Shared → Prop) (E : Value → Shared → Prop), P 1 vb → (∀ b o, b ∉ wr → b ≠ S → s.heap.get? b = some o → s'.heap.get? b = some o) → Q (.bool lt) s' → wpAny (model prog w) A.in1 (richCompare .Gt vb va) Q E s')
    (hR : ∀ vb h' tk, P 1 vb → (∀ b o, b ∉ wr → b ≠ S → s.heap.get? b = some o → h'.get? b = some o) → R (.ok (.ret (if lt then vb else va))) { s with heap := h', toks := tk }) : codeAny (model prog w) A (.builtin "max.loop" ⟨[.ref I, .none, .ref S], []⟩) R s := by
  have nm : (toString "max" ++ toString ".loop" : String) = "max.loop" := by rfl
  have hSw : S ∉ wr := fun z => hSf (W.sub _ z)
  apply codeAny_builtin F.entry_max_loop
  rw [Around.under_plainId F.plain_max_loop]
  apply wpAny_bind; apply wpAny_seqItems hS rfl
  apply wpAny_bind; apply wpAny_tryCatch; apply W.item 1 s _ _ (by decide) hst; intro vb h1 tk hP st2 k1
  have hS1 := k1 S _ hSw hS
  apply wpAny_bind; apply wpAny_pure; apply wpAny_bind; apply wpAny_tryCatch; apply wpAny_holding; apply wpAny_bind
  refine hc vb _ _ _ hP (fun b o n1 _ e => k1 b o n1 e) ?_
  apply wpAny_bind; apply wpAny_holding; apply wpAny_truthy_bool
  apply wpAny_bind; apply wpAny_letGo; apply wpAny_pure
  cases lt with
  | true =>
    simp only [if_true]
    apply wpAny_bind; apply wpAny_updateSeq hS1 rfl; apply wpAny_bind; apply wpAny_letGo
    rw [nm]
    refine wpAny_pure ⟨plainId_quiet F.plain_max_loop _, max_end W hSf (vb := vb) (W.frame _ _ _ st2 fun b hb o e => ?_) (Heap.get?_update_self _ hS1 rfl) fun h2 tk2 k2 => ?_⟩
    · exact (Heap.get?_update_other _ _ (fun z : S = b => hSf (z ▸ hb))).trans e
    · exact hR vb h2 tk2 hP fun b o n1 n2 e => k2 b o n1 n2 ((Heap.get?_update_other _ _ (Ne.symm n2)).trans (k1 b o n1 e))
  | false =>
    simp only [Bool.false_eq_true, if_false]
    apply wpAny_bind; apply wpAny_letGo
    rw [nm]
    refine wpAny_pure ⟨plainId_quiet F.plain_max_loop _, max_end W hSf (vb := va) st2 hS1 fun h2 tk2 k2 => ?_⟩
    exact hR vb h2 tk2 hP fun b o n1 n2 e => k2 b o n1 n2 (k1 b o n1 e)
/-- of two values of any kind, by how they compare -/
theorem max_two {a b : Value} {lt : Bool} {Q : Value → Shared → Prop} (hh : A.handled = none)
    (hc : ∀ (s' : Shared) (Q : Value → Shared → Prop) (E : Value → Shared → Prop), (∀ x o, s.heap.get? x = some o → s'.heap.get? x = some o) → Q (.bool lt) s' → wpAny (model prog w) A.in1 (richCompare .Gt b a) Q E s')
    (h : ∀ h' tk, (∀ x o, s.heap.get? x = some o → h'.get? x = some o) → Q (if lt then b else a) { s with heap := h', toks := tk }) : wpAny (model prog w) A (call (.builtin "max") [a, b]) Q E s := by
  have nm : (toString "max" ++ toString ".loop" : String) = "max.loop" := by rfl
  apply call_function_tree F.kind_max F.plain_max F.entry_max (F.args_max2 a b)
  apply wpAny_bind; refine wpAny_of_eq (a := [none, none]) rfl ?_
  apply wpAny_bind; refine wpAny_newObj_type ?_
  have n0 : (s.heap.push { cls := .type "tuple", data := .seq #[a, b] }).objs.size = s.heap.objs.size + 1 := Heap.size_push ..
  have hT : (s.heap.push { cls := .type "tuple", data := .seq #[a, b] }).IsTuple s.heap.objs.size #[a, b] := ⟨_, Heap.get?_push_size _ rfl, rfl, 0, rfl⟩
  apply wpAny_bind; apply wpAny_pyIter_tuple hT
  apply wpAny_bind; refine wpAny_newObj_type ?_
  rw [nm]
  have W : Walks prog w A.in1 (s.heap.push { cls := .type "tuple", data := .seq #[a, b] }).objs.size _ _ 2 _ _ := Walks.tuple (prog := prog) (w := w) (A := A.in1) hh _ s.heap.objs.size (by rw [n0]; exact Nat.ne_of_lt (Nat.lt_succ_self _)) #[a, b]
  generalize hN : (s.heap.push { cls := .type "tuple", data := .seq #[a, b] }).push { cls := .type "tuple_iterator", data := .fields #[.ref s.heap.objs.size, .int 0 0] } = hp at *
  have n1 : hp.objs.size = s.heap.objs.size + 2 := by rw [← hN, Heap.size_push, n0]
  have hSf : hp.objs.size ∉ [(s.heap.push { cls := .type "tuple", data := .seq #[a, b] }).objs.size, s.heap.objs.size] := by
    rw [n0, n1]; simp
  have st0 : (hp.push { cls := .type "list", data := .seq #[] }).IsTupleIter (s.heap.push { cls := .type "tuple", data := .seq #[a, b] }).objs.size s.heap.objs.size 0 ∧ (hp.push { cls := .type "list", data := .seq #[] }).IsTuple s.heap.objs.size #[a, b] := by
    subst hN
    exact ⟨⟨_, Heap.get?_push_of_some _ (Heap.get?_push_size _ rfl), rfl, rfl⟩, (hT.push _).push _⟩
  have old : ∀ x o, s.heap.get? x = some o → (hp.push { cls := .type "list", data := .seq #[] }).get? x = some o := fun x o e => by
    subst hN
    exact Heap.get?_push_of_some _ (Heap.get?_push_of_some _ (Heap.get?_push_of_some _ e))
  refine wpAny_pure ⟨plainId_quiet F.plain_max_loop _, ?_⟩
  apply codeAny_builtin F.entry_max_loop
  rw [Around.under_plainId F.plain_max_loop]
  apply wpAny_bind; apply wpAny_seqItems (Heap.get?_push_size _ rfl) rfl
  apply wpAny_bind; apply wpAny_tryCatch; apply W.item 0 _ _ _ (by decide) st0; intro v h1 tk hP st2 k1
  obtain rfl : a = v := by simpa using hP
  have hS1 := k1 hp.objs.size _ (fun z => hSf (W.sub _ z)) (Heap.get?_push_size _ rfl)
  apply wpAny_bind; apply wpAny_pure; apply wpAny_bind; refine wpAny_updateSeq hS1 rfl ?_
  rw [nm]
  have out : ∀ x, x < s.heap.objs.size → x ∉ [(s.heap.push { cls := .type "tuple", data := .seq #[a, b] }).objs.size] ∧ x ≠ hp.objs.size := fun x hx => by
    rw [n0, n1]; constructor <;> simp <;> omega
  have keep : ∀ (f : Obj → Obj) x o, s.heap.get? x = some o → (h1.update hp.objs.size f).get? x = some o := fun f x o e => (Heap.get?_update_other _ _ (Ne.symm (out x (Heap.lt_size e)).2)).trans (k1 x o (out x (Heap.lt_size e)).1 (old x o e))
  refine wpAny_pure ⟨plainId_quiet F.plain_max_loop _, max_mid W hSf (va := a) (lt := lt) (W.frame _ _ _ st2 fun b hb o e => ?_) (Heap.get?_update_self _ hS1 rfl) (fun vb s' Q' E' hv k2 q => ?_) fun vb h2 tk2 hv k2 => ?_⟩
  · exact (Heap.get?_update_other _ _ (fun z : hp.objs.size = b => hSf (z ▸ hb))).trans e
  · obtain rfl : b = vb := by simpa using hv
    exact hc s' Q' E' (fun x o e => k2 x o (out x (Heap.lt_size e)).1 (out x (Heap.lt_size e)).2 (keep _ x o e)) q
  · obtain rfl : b = vb := by simpa using hv
    exact h h2 tk2 fun x o e => k2 x o (out x (Heap.lt_size e)).1 (out x (Heap.lt_size e)).2 (keep _ x o e)
end
end DP

/-! ## DOp3 -/
set_option Elab.async false
set_option linter.all false
set_option maxRecDepth 100000
set_option maxHeartbeats 1000000
set_option autoImplicit false
/-! Pairs of ints: before one another, the lesser, the greater, sorted. -/
namespace DP
open PySem PySem.Spec L2
variable [Tb]
theorem lex2_lt (ns ms : List Int) (a b c d : Int) (h1 : ns = [a, b]) (h2 : ms = [c, d]) : Ob.lexAt (fun j => decide (ns.getD j 0 = ms.getD j 0)) (fun j => decide (ns.getD j 0 < ms.getD j 0)) false 0 2 = ltP2 a b c d := by
  subst h1; subst h2
  simp only [Ob.lexAt, List.getD_cons_zero, List.getD_cons_succ, ltP2, decide_eq_true_eq]
  split
  · split
    · have : ¬ b < d := by omega
      simp [this]
    · rfl
  · rfl
theorem lex2_gt (ns ms : List Int) (a b c d : Int) (h1 : ns = [a, b]) (h2 : ms = [c, d]) : Ob.lexAt (fun j => decide (ns.getD j 0 = ms.getD j 0)) (fun j => decide (ms.getD j 0 < ns.getD j 0)) false 0 2 = ltP2 c d a b := by
  subst h1; subst h2
  simp only [Ob.lexAt, List.getD_cons_zero, List.getD_cons_succ, ltP2, decide_eq_true_eq]
  by_cases e : a = c
  · subst e
    by_cases e2 : b = d <;> simp [e2]
  · have : ¬ c = a := fun z => e z.symm
    simp [e, this]
section
variable {X : Cx} {pins : List (Addr × Obj)} {σ : L2.St} {F H : Hp} {s : Shared}
/-- a pair of ints as it lies there -/
theorem pair_at (I : Inv X pins σ H s) (sF : St F H) {v : V} {u : Value} {a b : Int} (r : Rp X.K F v (.tuple [.int a, .int b])) (ru : RelV v u) :
    ∃ p t t', u = .ref p ∧ s.heap.IsTuple p #[.int a t, .int b t'] := by
  cases r with
  | tup hq z rr =>
    cases rr with
    | cons r1 rr =>
      cases rr with
      | cons r2 rr =>
        cases rr; cases r1; cases r2
        obtain ⟨its, rv, ht, _⟩ := I.tuple (sub_t sF hq)
        obtain ⟨u1, u2, rfl, ⟨t, rfl⟩, ⟨t', rfl⟩⟩ := vals2 rv
        cases ru
        exact ⟨_, t, t', rfl, ht⟩
theorem IsTuple.keep {h h' : Heap} {p : Addr} {vs : Array Value} (t : h.IsTuple p vs) (k : ∀ b o, h.get? b = some o → h'.get? b = some o) : h'.IsTuple p vs := by
  obtain ⟨o, e, c⟩ := t
  exact ⟨o, k _ _ e, c⟩
theorem int_at2 {a b : Int} {t t' : Tok} (j : Nat) (h : j < (#[Value.int a t, Value.int b t'] : Array Value).size) : ∃ k, (#[Value.int a t, Value.int b t'] : Array Value)[j] = .int ([a, b].getD j 0) k := by
  match j, h with
  | 0, _ => exact ⟨t, rfl⟩
  | 1, _ => exact ⟨t', rfl⟩
theorem pair_lt {A : Around} {s' : Shared} {p q : Addr} {a b c d : Int} {t t' u u' : Tok} (hu : A.units < cLine) (h1 : s'.heap.IsTuple p #[.int a t, .int b t']) (h2 : s'.heap.IsTuple q #[.int c u, .int d u']) :
    Ob.RcOp .Lt A s' (.ref p) (.ref q) (ltP2 a b c d) := by
  have R := Ob.RcOp.tuples_lt (e := fun j => decide ([a, b].getD j 0 = [c, d].getD j 0)) (r := fun j => decide ([a, b].getD j 0 < [c, d].getD j 0)) h1 h2 hu (fun j h1 h2 => by
    obtain ⟨k, e⟩ := int_at2 j h1
    obtain ⟨k', e'⟩ := int_at2 j h2
    rw [e, e']
    have z : ([a, b].getD j 0 == [c, d].getD j 0) = decide ([a, b].getD j 0 = [c, d].getD j 0) := rfl
    rw [← z]
    exact SeqAt.EqAt.int_int _ _ _ _) (fun j h1 h2 _ => by
    obtain ⟨k, e⟩ := int_at2 j h1
    obtain ⟨k', e'⟩ := int_at2 j h2
    rw [e, e']
    exact Ob.RcOp.lt_int _ _ _ _)
  rw [← lex2_lt [a, b] [c, d] a b c d rfl rfl]
  exact R
theorem pair_gt {A : Around} {s' : Shared} {p q : Addr} {a b c d : Int} {t t' u u' : Tok} (hu : A.units < cLine) (h1 : s'.heap.IsTuple p #[.int a t, .int b t']) (h2 : s'.heap.IsTuple q #[.int c u, .int d u']) :
    Ob.RcOp .Gt A s' (.ref p) (.ref q) (ltP2 c d a b) := by
  have R := Ob.RcOp.tuples_gt (e := fun j => decide ([a, b].getD j 0 = [c, d].getD j 0)) (r := fun j => decide ([c, d].getD j 0 < [a, b].getD j 0)) h1 h2 hu (fun j h1 h2 => by
    obtain ⟨k, e⟩ := int_at2 j h1
    obtain ⟨k', e'⟩ := int_at2 j h2
    rw [e, e']
    have z : ([a, b].getD j 0 == [c, d].getD j 0) = decide ([a, b].getD j 0 = [c, d].getD j 0) := rfl
    rw [← z]
    exact SeqAt.EqAt.int_int _ _ _ _) (fun j h1 h2 _ => by
    obtain ⟨k, e⟩ := int_at2 j h1
    obtain ⟨k', e'⟩ := int_at2 j h2
    rw [e, e']
    exact Ob.RcOp.gt_int _ _ _ _)
  rw [← lex2_gt [a, b] [c, d] a b c d rfl rfl]
  exact R
def rMinP (K : PySem.W.Frag) : List V → Hp → VK → Prop := fun xs H Q => ∃ F x y a b c d, xs = [x, y] ∧ St F H ∧ Rp K F x (.tuple [.int a, .int b]) ∧ Rp K F y (.tuple [.int c, .int d]) ∧ Q (if ltP2 c d a b then y else x) H
def rMaxP (K : PySem.W.Frag) : List V → Hp → VK → Prop := fun xs H Q => ∃ F x y a b c d, xs = [x, y] ∧ St F H ∧ Rp K F x (.tuple [.int a, .int b]) ∧ Rp K F y (.tuple [.int c, .int d]) ∧ Q (if ltP2 a b c d then y else x) H
end
section
variable {X : Cx}
theorem call_minP (hc : X.calm = true) (hu : X.A.units + 65 < cLine) : CallR X (.builtin "min") (rMinP X.K) := by
  intro pins s σ H xs us Q I r h
  obtain ⟨F, x, y, a, b, c, d, rfl, sF, r1, r2, q⟩ := h
  obtain ⟨u1, u2, rfl, e1, e2⟩ := vals2 r
  obtain ⟨p, t, t', rfl, h1⟩ := pair_at I sF r1 e1
  obtain ⟨p', k, k', rfl, h2⟩ := pair_at I sF r2 e2
  have hu1 : X.A.in1.units < cLine := by show X.A.units + 1 < cLine; omega
  refine min_two (lt := ltP2 c d a b) (I.ok.hd hc) (fun s' Q' E' kp q' => ?_) fun h' tk kp => ⟨_, H, I.kept kp, ?_, q⟩
  · exact pair_lt hu1 (IsTuple.keep h2 kp) (IsTuple.keep h1 kp) X.prog X.w E' Q' q'
  · split
    · exact e2
    · exact e1
theorem call_maxP (hc : X.calm = true) (hu : X.A.units + 65 < cLine) : CallR X (.builtin "max") (rMaxP X.K) := by
  intro pins s σ H xs us Q I r h
  obtain ⟨F, x, y, a, b, c, d, rfl, sF, r1, r2, q⟩ := h
  obtain ⟨u1, u2, rfl, e1, e2⟩ := vals2 r
  obtain ⟨p, t, t', rfl, h1⟩ := pair_at I sF r1 e1
  obtain ⟨p', k, k', rfl, h2⟩ := pair_at I sF r2 e2
  have hu1 : X.A.in1.units < cLine := by show X.A.units + 1 < cLine; omega
  refine max_two (lt := ltP2 a b c d) (I.ok.hd hc) (fun s' Q' E' kp q' => ?_) fun h' tk kp => ⟨_, H, I.kept kp, ?_, q⟩
  · exact pair_gt hu1 (IsTuple.keep h2 kp) (IsTuple.keep h1 kp) X.prog X.w E' Q' q'
  · split
    · exact e2
    · exact e1
def rSort2 (K : PySem.W.Frag) : List V → Hp → VK → Prop := fun xs H Q => ∃ F l x y a b c d, xs = [.ref l] ∧ SqL K H l [x, y] ∧ St F H ∧ Rp K F x (.tuple [.int a, .int b]) ∧ Rp K F y (.tuple [.int c, .int d]) ∧
  ∀ p z w, RpAll K F [z, w] (if ltP2 c d a b then [.tuple [.int c, .int d], .tuple [.int a, .int b]] else [.tuple [.int a, .int b], .tuple [.int c, .int d]]) → H p = none → Q (.ref p) (upd H p (.lst [z, w]))
theorem isPair_of {h : Heap} {p : Addr} {a b : Int} {t t' : Tok} (ht : h.IsTuple p #[.int a t, .int b t']) : Srt.IsPair h (.ref p) a b := by
  obtain ⟨o, e, c, n, d⟩ := ht
  exact ⟨p, o, t, t', n, rfl, e, c, d⟩
theorem call_sort2 : CallR X (.builtin "sorted") (rSort2 X.K) := by
  intro pins s σ H xs us Q I r h
  obtain ⟨F, l, x, y, a, b, c, d, rfl, hl, sF, r1, r2, q⟩ := h
  obtain ⟨u, rfl, ru⟩ := vals1 r
  obtain rfl : u = Value.ref l := ru
  obtain ⟨its, rv, hi, hz⟩ := I.list hl
  obtain ⟨u1, u2, rfl, e1, e2⟩ := vals2 rv
  obtain ⟨p1, t, t', rfl, h1⟩ := pair_at I sF r1 e1
  obtain ⟨p2, k, k', rfl, h2⟩ := pair_at I sF r2 e2
  have x1 : x = .ref p1 := by cases x <;> first | (cases e1; rfl) | (exact absurd e1 (by simp [RelV])) 
  have x2 : y = .ref p2 := by cases y <;> first | (cases e2; rfl) | (exact absurd e2 (by simp [RelV]))
  subst x1; subst x2
  let key : Value → Int × Int := fun v => if v = .ref p1 then (a, b) else (c, d)
  have k1 : key (.ref p1) = (a, b) := if_pos rfl
  have same : p1 = p2 → (a, b) = (c, d) := fun e => by
    subst e
    obtain ⟨o, ho, _, n, hd⟩ := h1
    obtain ⟨o', ho', _, n', hd'⟩ := h2
    rw [ho] at ho'; cases ho'
    rw [hd] at hd'
    cases hd'; rfl
  have k2 : key (.ref p2) = (c, d) := by
    by_cases e : p2 = p1
    · subst e; rw [k1]; exact same rfl
    · exact if_neg fun z => e (Value.ref.inj z)
  have lx : ∀ a b c d, SrtO.lexB (a, b) (c, d) = ltP2 a b c d := fun a b c d => rfl
  refine SrtO.sorted_pairsO (k := key) hi.isList (by simpa using hz) (fun v hv => ?_) fun h' dd out hs hb kp hd hn => ?_
  · simp only [List.mem_cons, List.not_mem_nil, or_false] at hv
    rcases hv with rfl | rfl
    · rw [k1]; exact isPair_of h1
    · rw [k2]; exact isPair_of h2
  · obtain ⟨n, hn⟩ := hn
    have pm := hb.perm
    have two : out = [.ref p1, .ref p2] ∨ out = [.ref p2, .ref p1] := by
      match out, pm.length_eq with
      | [v, w], _ =>
        have m1 : v ∈ [Value.ref p1, Value.ref p2] := pm.mem_iff.mp List.mem_cons_self
        simp only [List.mem_cons, List.not_mem_nil, or_false] at m1
        rcases m1 with rfl | rfl
        · have := List.Perm.singleton_eq (List.Perm.cons_inv pm).symm
          left; rw [← this]
        · have := List.Perm.singleton_eq (List.Perm.cons_inv (pm.trans (List.Perm.swap _ _ _))).symm
          right; rw [← this]
    have go : ∀ (z w : Addr) (ds : List PyData), out = [.ref z, .ref w] → RpAll X.K F [.ref z, .ref w] ds → ds = (if ltP2 c d a b then [.tuple [.int c, .int d], .tuple [.int a, .int b]] else [.tuple [.int a, .int b], .tuple [.int c, .int d]]) → EP X pins σ Q (.ref dd) { s with heap := h' } := fun z w ds eo rr ed => by
      refine ⟨.ref dd, upd H dd (.lst [.ref z, .ref w]), I.laid (t' := s.toks) kp hd ⟨by simp [sizeLine], out, n, ?_, hn⟩, rfl, q dd _ _ (ed ▸ rr) (I.hok.fresh hd)⟩
      rw [eo]
      exact .cons rfl (.cons rfl .nil)
    rcases two with e | e
    · have ns : ltP2 c d a b = false := by
        rw [e] at hs
        have this : SrtO.lexB (key (.ref p2)) (key (.ref p1)) = false := (List.pairwise_cons.mp hs).1 (.ref p2) List.mem_cons_self
        rw [k1, k2] at this
        exact this
      exact go p1 p2 _ e (.cons r1 (.cons r2 .nil)) (by rw [ns]; rfl)
    · have ns : ltP2 a b c d = false := by
        rw [e] at hs
        have this : SrtO.lexB (key (.ref p1)) (key (.ref p2)) = false := (List.pairwise_cons.mp hs).1 (.ref p1) List.mem_cons_self
        rw [k1, k2] at this
        exact this
      cases ns' : ltP2 c d a b with
      | true => exact go p2 p1 _ e (.cons r2 (.cons r1 .nil)) (by rw [ns']; rfl)
      | false =>
        have eq : a = c ∧ b = d := by
          unfold ltP2 at ns ns'
          split at ns <;> split at ns' <;> simp at ns ns' <;> omega
        obtain ⟨rfl, rfl⟩ := eq
        exact go p2 p1 _ e (.cons r2 (.cons r1 .nil)) (by rw [ns']; rfl)
end
end DP

/-! ## DOps2 -/
set_option Elab.async false
set_option linter.all false
set_option maxRecDepth 100000
set_option maxHeartbeats 1000000
set_option autoImplicit false
namespace DP
open PySem PySem.Spec L2
variable [Tb]
section
variable {X : Cx}
/-- a value that is no list at all goes by any flag -/
theorem rr_bool {K : PySem.W.Frag} {f : Bool} {F H : Hp} {b : Bool} (s : St F H) {Q : VK} (q : ∀ v F' H', Ext F H F' H' → RR K f H F' H' v (.bool b) → Q v H') : Q (.bl b) H :=
  rr_old s (.bl b) (fun _ z => nomatch z) q
theorem rr_int {K : PySem.W.Frag} {f : Bool} {F H : Hp} {i : Int} (s : St F H) {Q : VK} (q : ∀ v F' H', Ext F H F' H' → RR K f H F' H' v (.int i) → Q v H') : Q (.int i) H :=
  rr_old s (.int i) (fun _ z => nomatch z) q
theorem eqok_depth {d e : PyData} (h : eqok d e = true) : DP.nd d = true ∧ DP.nd e = true ∧ min d.depth e.depth ≤ 64 := by
  unfold eqok at h
  simp only [Bool.and_eq_true, Bool.or_eq_true, decide_eq_true_eq] at h
  exact ⟨h.1.1, h.1.2, by omega⟩
theorem op_cmpD (hu : X.A.units + 65 < cLine) (op : COp) : OpR X (compareOp (copOf op)) (rD X.K false (cmpD op)) := by
  intro pins s σ H x y v u Q I rx ry h
  obtain ⟨F, d1, d2, d, sF, h1, h2, e, q⟩ := h
  unfold cmpD at e
  cases eb : cmpB op d1 d2 with
  | exc c d => rw [eb] at e; cases e
  | stuck => rw [eb] at e; cases e
  | ok b =>
    rw [eb] at e
    cases e
    have qb : Q (.bl b) H := rr_bool sF q
    cases op with
    | eq =>
      simp only [cmpB] at eb
      split at eb
      · rename_i hc
        cases eb
        obtain ⟨n1, n2, hd⟩ := eqok_depth hc
        obtain ⟨as, r1⟩ := Dp.reads I d1 x v (h1.dp sF n1) rx
        obtain ⟨bs, r2⟩ := Dp.reads I d2 y u (h2.dp sF n2) ry
        exact SeqAt.compareEq_reads r1 r2 (h1.cl n1) (h2.cl n2) (by omega) ⟨.bl _, H, I, rfl, qb⟩
      · cases eb
    | ne =>
      simp only [cmpB] at eb
      split at eb
      · rename_i hc
        cases eb
        obtain ⟨n1, n2, hd⟩ := eqok_depth hc
        obtain ⟨as, r1⟩ := Dp.reads I d1 x v (h1.dp sF n1) rx
        obtain ⟨bs, r2⟩ := Dp.reads I d2 y u (h2.dp sF n2) ry
        exact SeqAt.compareNe_reads r1 r2 (h1.cl n1) (h2.cl n2) (by omega) ⟨.bl _, H, I, rfl, qb⟩
      · cases eb
    | lt =>
      simp only [cmpB, ltD] at eb
      split at eb
      · cases h1.int; cases h2.int; cases eb
        exact op_lt pins s σ H _ _ v u Q I rx ry ⟨_, _, rfl, rfl, qb⟩
      · cases h1.str.1; cases h2.str.1; cases eb
        exact op_lt_str pins s σ H _ _ v u Q I rx ry ⟨_, _, rfl, rfl, qb⟩
      · cases eb
    | le =>
      simp only [cmpB, leD] at eb
      split at eb
      · cases h1.int; cases h2.int; cases eb
        exact op_le pins s σ H _ _ v u Q I rx ry ⟨_, _, rfl, rfl, qb⟩
      · cases h1.str.1; cases h2.str.1; cases eb
        exact op_le_str pins s σ H _ _ v u Q I rx ry ⟨_, _, rfl, rfl, qb⟩
      · cases eb
    | gt =>
      simp only [cmpB, gtD] at eb
      split at eb
      · cases h1.int; cases h2.int; cases eb
        exact op_gt pins s σ H _ _ v u Q I rx ry ⟨_, _, rfl, rfl, qb⟩
      · cases eb
    | ge =>
      simp only [cmpB, geD] at eb
      split at eb
      · cases h1.int; cases h2.int; cases eb
        exact op_ge pins s σ H _ _ v u Q I rx ry ⟨_, _, rfl, rfl, qb⟩
      · cases eb
    | inn =>
      simp only [cmpB, inD] at eb
      split at eb
      · split at eb
        · rename_i hc
          cases eb
          simp only [Bool.and_eq_true, decide_eq_true_eq] at hc
          obtain ⟨⟨n1, nn⟩, hd⟩ := hc
          obtain ⟨as, r1⟩ := Dp.reads I d1 x v (h1.dp sF n1) rx
          obtain ⟨bs, r2⟩ := Dp.reads I _ y u (h2.dp sF (by simpa only [DP.nd] using nn)) ry
          have n2 := h2.cl (by simpa only [DP.nd] using nn)
          rw [PyData.canLay0] at n2
          exact SeqAt.in_list_reads r2 r1 n2 (h1.cl n1) (by omega) ⟨.bl _, H, I, rfl, qb⟩
        · cases eb
      · split at eb
        · rename_i hc
          cases eb
          simp only [Bool.and_eq_true, decide_eq_true_eq] at hc
          obtain ⟨⟨n1, nn⟩, hd⟩ := hc
          obtain ⟨as, r1⟩ := Dp.reads I d1 x v (h1.dp sF n1) rx
          obtain ⟨bs, r2⟩ := Dp.reads I _ y u (h2.dp sF (by simpa only [DP.nd] using nn)) ry
          have n2 := h2.cl (by simpa only [DP.nd] using nn)
          rw [PyData.canLay0] at n2
          exact SeqAt.in_tuple_reads r2 r1 n2 (h1.cl n1) (by omega) ⟨.bl _, H, I, rfl, qb⟩
        · cases eb
      · split at eb
        · cases h1.str.1; cases h2.str.1; cases eb
          exact op_in_sign pins s σ H _ _ v u Q I rx ry ⟨_, _, rfl, rfl, qb⟩
        · cases eb
      · cases eb
    | nin =>
      simp only [cmpB, inD] at eb
      split at eb
      · split at eb
        · rename_i hc
          cases eb
          simp only [Bool.and_eq_true, decide_eq_true_eq] at hc
          obtain ⟨⟨n1, nn⟩, hd⟩ := hc
          obtain ⟨as, r1⟩ := Dp.reads I d1 x v (h1.dp sF n1) rx
          obtain ⟨bs, r2⟩ := Dp.reads I _ y u (h2.dp sF (by simpa only [DP.nd] using nn)) ry
          have n2 := h2.cl (by simpa only [DP.nd] using nn)
          rw [PyData.canLay0] at n2
          exact SeqAt.notIn_list_reads r2 r1 n2 (h1.cl n1) (by omega) ⟨.bl _, H, I, rfl, qb⟩
        · cases eb
      · split at eb
        · rename_i hc
          cases eb
          simp only [Bool.and_eq_true, decide_eq_true_eq] at hc
          obtain ⟨⟨n1, nn⟩, hd⟩ := hc
          obtain ⟨as, r1⟩ := Dp.reads I d1 x v (h1.dp sF n1) rx
          obtain ⟨bs, r2⟩ := Dp.reads I _ y u (h2.dp sF (by simpa only [DP.nd] using nn)) ry
          have n2 := h2.cl (by simpa only [DP.nd] using nn)
          rw [PyData.canLay0] at n2
          exact SeqAt.notIn_tuple_reads r2 r1 n2 (h1.cl n1) (by omega) ⟨.bl _, H, I, rfl, qb⟩
        · cases eb
      · split at eb
        · cases h1.str.1; cases h2.str.1; cases eb
          exact op_notIn_sign pins s σ H _ _ v u Q I rx ry ⟨_, _, rfl, rfl, qb⟩
        · cases eb
      · cases eb
    | is =>
      simp only [cmpB, isD] at eb
      split at eb
      · cases h2.non
        have qn : Q (.bl (decide (x = .non))) H := by
          have : b = decide (x = .non) := by
            split at eb
            · cases h1.non; cases eb; simp
            · rename_i hne
              cases eb
              symm
              rw [decide_eq_false_iff_not]
              intro z
              subst z
              rcases h1 with h1 | h1
              · cases h1; exact hne rfl
              · cases d1 <;> first | exact h1.elim | (obtain ⟨_, _, z, _⟩ := h1; cases z)
          rw [← this]; exact qb
        exact op_isN pins s σ H _ _ v u Q I rx ry ⟨rfl, qn⟩
      · split at eb
        · cases h1.bl; cases h2.bl; cases eb
          exact op_isBl pins s σ H _ _ v u Q I rx ry ⟨_, _, rfl, rfl, qb⟩
        · cases eb
      · cases eb
    | isn =>
      simp only [cmpB, isD] at eb
      split at eb
      · cases h2.non
        have qn : Q (.bl (!decide (x = .non))) H := by
          have : b = !decide (x = .non) := by
            split at eb
            · cases h1.non; cases eb; simp
            · rename_i hne
              cases eb
              rw [Bool.not_false]
              symm
              rw [Bool.not_eq_true', decide_eq_false_iff_not]
              intro z
              subst z
              rcases h1 with h1 | h1
              · cases h1; exact hne rfl
              · cases d1 <;> first | exact h1.elim | (obtain ⟨_, _, z, _⟩ := h1; cases z)
          rw [← this]; exact qb
        exact op_notN pins s σ H _ _ v u Q I rx ry ⟨rfl, qn⟩
      · split at eb
        · cases h1.bl; cases h2.bl; cases eb
          exact op_notBl pins s σ H _ _ v u Q I rx ry ⟨_, _, rfl, rfl, qb⟩
        · cases eb
      · cases eb

theorem atI_rp {K : PySem.W.Frag} {F : Hp} {vs : List V} {ds : List PyData} (r : RpAll K F vs ds) {i : Int} {d : PyData} (h : L2.atI ds i = some d) : ∃ v, L2.atI vs i = some v ∧ Rp K F v d := by
  unfold L2.atI at *
  rw [r.length]
  cases e : L2.ixN ds.length i with
  | none => rw [e] at h; cases h
  | some j =>
    rw [e] at h
    exact r.get h
theorem atI_mapF {α β : Type} {f : α → β} {xs : List α} {i : Int} {x : α} (h : L2.atI xs i = some x) : L2.atI (xs.map f) i = some (f x) := by
  unfold L2.atI at *
  rw [List.length_map]
  cases e : L2.ixN xs.length i with
  | none => rw [e] at h; cases h
  | some j =>
    rw [e] at h
    show (xs.map f)[j]? = _
    rw [List.getElem?_map]
    have h' : xs[j]? = some x := h
    rw [h']; rfl
theorem atI_map {α β : Type} {f : α → β} {xs : List α} {i : Int} {y : β} (h : L2.atI (xs.map f) i = some y) : ∃ x, L2.atI xs i = some x ∧ f x = y := by
  unfold L2.atI at *
  rw [List.length_map] at h
  cases e : L2.ixN xs.length i with
  | none => rw [e] at h; cases h
  | some j =>
    rw [e] at h
    have h' : (xs.map f)[j]? = some y := h
    rw [List.getElem?_map] at h'
    cases q : xs[j]? with
    | none => rw [q] at h'; cases h'
    | some x => rw [q] at h'; cases h'; exact ⟨x, q, rfl⟩
theorem strOk_get {z : Str} (h : PyData.strOk z = true) {i : Int} {c : Nat} (e : L2.atI z.cps.toList i = some c) : PyData.strOk ⟨#[c]⟩ = true := by
  obtain ⟨j, _, hj, _⟩ := L2.atI_get e
  have hm : c ∈ z.cps := by simpa using List.mem_of_getElem? hj
  unfold PyData.strOk at *
  rw [Array.all_eq_true'] at h
  have := h c hm
  simpa using this
/-- a frozen value as a result -/
theorem rr_of1 {K : PySem.W.Frag} {F H : Hp} {v : V} {d : PyData} (s : St F H) (r : Rp K F v d) {Q : VK} (q : ∀ v F' H', Ext F H F' H' → RR K false H F' H' v d → Q v H') : Q v H := q _ _ _ (Ext.refl s) r
theorem ix_D : IxR X (rD X.K false idxD) := by
  intro ev es pins s σ H x y v u Q I rx ry h hsub
  obtain ⟨F, d1, d2, d, sF, h1, h2, e, q⟩ := h
  unfold idxD at e
  split at e
  · cases h2.int
    obtain ⟨a, vs, e1, hq, z, r⟩ := h1.lst sF
    subst e1
    split at e
    · rename_i hat
      cases e
      obtain ⟨w, hw, rw'⟩ := atI_rp r hat
      exact ix_list ev es pins s σ H _ _ v u Q I rx ry ⟨_, _, _, _, rfl, rfl, SqL.of hq, hw, rr_of1 sF rw' q⟩ hsub
    · cases e
  · cases h2.int
    obtain ⟨a, vs, e1, hq, z, r⟩ := h1.tup
    subst e1
    split at e
    · rename_i hat
      cases e
      obtain ⟨w, hw, rw'⟩ := atI_rp r hat
      exact ix_tup ev es pins s σ H _ _ v u Q I rx ry ⟨_, _, _, _, rfl, rfl, sub_t sF hq, hw, rr_of1 sF rw' q⟩ hsub
    · cases e
  · cases h2.int
    obtain ⟨e1, o1⟩ := h1.str
    subst e1
    split at e
    · rename_i hl
      split at e
      · rename_i hat
        cases e
        exact ix_str ev es pins s σ H _ _ v u Q I rx ry ⟨_, _, _, rfl, rfl, lim_line hl, hat, rr_of1 sF (.str _ (strOk_get o1 hat)) q⟩ hsub
      · cases e
    · cases e
  · cases h2.int
    obtain ⟨a, ns, e1, hq, z, e2⟩ := h1.scr sF
    subst e1; subst e2
    split at e
    · rename_i hat
      cases e
      obtain ⟨k, hk, e3⟩ := atI_map hat
      have e4 : L2.atI (ns.map V.int) _ = some (V.int k) := atI_mapF hk
      cases e3
      exact ix_list ev es pins s σ H _ _ v u Q I rx ry ⟨_, _, _, _, rfl, rfl, hq, e4, rr_of1 sF (.int k) q⟩ hsub
    · cases e
  · cases e

theorem cut_rp {K : PySem.W.Frag} {F : Hp} {vs : List V} {ds : List PyData} (r : RpAll K F vs ds) (lo hi : Option Int) : RpAll K F (cutV vs lo hi) (cutL ds lo hi) := by
  unfold cutV cutL
  rw [r.length]
  exact (r.drop _).take _
theorem cutL_whole {ds : List PyData} {lo hi : Option Int} (h : HT.sIx ds.length 0 lo = 0 ∧ HT.sIx ds.length ds.length hi = ds.length) : cutL ds lo hi = ds := by
  unfold cutL
  rw [h.1, h.2]
  simp
theorem strOk_cut {z : Str} (h : PyData.strOk z = true) (lo hi : Option Int) : PyData.strOk (L2.cutS z lo hi) = true := by
  unfold PyData.strOk at *
  unfold L2.cutS
  rw [Array.all_eq_true'] at h ⊢
  intro c hc
  refine h c ?_
  have : c ∈ ((z.cps.toList.drop (HT.sIx z.length 0 lo)).take (HT.sIx z.length z.length hi - HT.sIx z.length 0 lo)) := by simpa using hc
  simpa using List.mem_of_mem_drop (List.mem_of_mem_take this)
def rSlD (K : PySem.W.Frag) : V → Option Int → Option Int → Hp → VK → Prop := fun x lo hi H Q => ∃ F d1 d, St F H ∧ Rp1 K F H x d1 ∧ slcD d1 lo hi = .ok d ∧ ∀ v F' H', Ext F H F' H' → RR K true H F' H' v d → Q v H'
theorem sl_D : SlR X (rSlD X.K) := by
  intro pins s σ H x v vl vu lo hi sl Q I rx hs pl pu h
  obtain ⟨F, d1, d, sF, h1, e, q⟩ := h
  unfold slcD at e
  split at e
  · obtain ⟨a, vs, e1, hq, z, r⟩ := h1.lst sF
    subst e1
    cases e
    exact sl_list pins s σ H _ v vl vu _ _ sl Q I rx hs pl pu ⟨_, _, rfl, SqL.of hq, fun p hp => rr_lst sF hp (cut_rp r _ _) (Nat.le_trans (cutV_length vs _ _) z) q⟩
  · obtain ⟨a, vs, e1, hq, z, r⟩ := h1.tup
    subst e1
    cases e
    refine sl_tupA pins s σ H _ v vl vu _ _ sl Q I rx hs pl pu ⟨_, _, rfl, sub_t sF hq, fun w => ?_, fun w p hp => rr_tup sF hp (cut_rp r _ _) (Nat.le_trans (cutV_length vs _ _) z) q⟩
    rw [r.length] at w
    rw [cutL_whole w] at q
    exact rr_old sF (.tup hq z r) (fun _ z => nomatch z) q
  · obtain ⟨e1, o1⟩ := h1.str
    subst e1
    split at e
    · rename_i hl
      cases e
      exact sl_str pins s σ H _ v vl vu _ _ sl Q I rx hs pl pu ⟨_, rfl, lim_line hl, rr_old sF (.str _ (strOk_cut o1 _ _)) (fun _ z => nomatch z) q⟩
    · cases e
  · cases e
theorem un_negD : UnR X (unaryOp .USub) (rD1 X.K false negD) := by
  intro pins s σ H x v Q I rx h
  obtain ⟨F, d1, d, sF, h1, e, q⟩ := h
  unfold negD at e
  split at e
  · cases h1.int; cases e
    exact un_neg pins s σ H _ v Q I rx ⟨_, rfl, rr_int sF q⟩
  · cases e

/-! ### isinstance, built-in functions -/
def tyName : Ty → String
  | .int => "int" | .bool => "bool" | .str => "str" | .tuple => "tuple" | .list => "list"
theorem SqT.tyX {K : PySem.W.Frag} {H : Hp} {a : Addr} {vs : List V} (h : SqT K H a vs) : TyX K H (.ref a) (.type "tuple") := by
  rcases h with (h | ⟨o, h⟩) | ⟨o, its, n, h, c, _⟩
  · exact .base (.tup h)
  · exact .fTuple h
  · exact .kTuple h c
theorem lst_tyX {K : PySem.W.Frag} {H : Hp} {a : Addr} {vs : List V} (h : H a = some (.lst vs)) : TyX K H (.ref a) (.type "list") := .base (.lst h)
def rIsiD (K : PySem.W.Frag) (t : Ty) : List V → Hp → VK → Prop := fun xs H Q => ∃ F x d b, xs = [x, .ty (tyName t)] ∧ St F H ∧ Rp1 K F H x d ∧ isiD t d = .ok b ∧ Q (.bl b) H
theorem call_isiD (t : Ty) : CallR X (.builtin "isinstance") (rIsiD X.K t) := by
  intro pins s σ H xs us Q I r h
  obtain ⟨F, x, d, b, e0, sF, h1, e, q⟩ := h
  have go : ∀ (w : String), TyX X.K H x (.type w) → kitB w (tyName t) = some b → wpAny (model X.prog X.w) X.A (call (.builtin "isinstance") us) (EP X pins σ Q) X.xe s := fun w ty k =>
    call_isi pins s σ H xs us Q I r ⟨x, _, _, _, b, e0, .ty _, ty, kit_ty k, q⟩
  cases d with
  | none =>
    cases h1.non; cases e
    exact go "NoneType" (.base .non) (by cases t <;> decide +kernel)
  | bool y =>
    cases h1.bl; cases e
    exact go "bool" (.base (.bl _)) (by cases t <;> decide +kernel)
  | int i =>
    cases h1.int; cases e
    exact go "int" (.base (.int _)) (by cases t <;> decide +kernel)
  | str z =>
    cases h1.str.1; cases e
    exact go "str" (.base (.str _)) (by cases t <;> decide +kernel)
  | tuple ds =>
    obtain ⟨a, vs, e1, hq, _, _⟩ := h1.tup
    subst e1; cases e
    exact go "tuple" (SqT.tyX (sub_t sF hq)) (by cases t <;> decide +kernel)
  | list ds =>
    obtain ⟨a, vs, e1, hq, _, _⟩ := h1.lst sF
    subst e1; cases e
    exact go "list" (lst_tyX hq) (by cases t <;> decide +kernel)
  | dict _ => cases e

theorem RpAll1.one {K : PySem.W.Frag} {F H : Hp} {vs : List V} {d : PyData} (h : RpAll1 K F H vs [d]) : ∃ v, vs = [v] ∧ Rp1 K F H v d := by
  cases h with
  | cons a b => cases b; exact ⟨_, rfl, a⟩
theorem RpAll1.two {K : PySem.W.Frag} {F H : Hp} {vs : List V} {d e : PyData} (h : RpAll1 K F H vs [d, e]) : ∃ v w, vs = [v, w] ∧ Rp1 K F H v d ∧ Rp1 K F H w e := by
  cases h with
  | cons a b =>
    obtain ⟨w, rfl, r⟩ := b.one
    exact ⟨_, _, rfl, a, r⟩
theorem ints_rp {K : PySem.W.Frag} {F : Hp} : ∀ {ds : List PyData} {vs : List V} {ns : List Int}, RpAll K F vs ds → intsOf ds = some ns → vs = ns.map V.int
  | [], _, ns, h, e => by cases h; cases e; rfl
  | d :: ds, _, ns, h, e => by
    cases h with
    | cons a b =>
      cases d <;> first | (cases e; done) | skip
      rename_i i
      simp only [intsOf] at e
      cases q : intsOf ds with
      | none => rw [q] at e; cases e
      | some ms =>
        rw [q] at e; cases e
        cases a
        rw [ints_rp b q]; rfl
theorem bools_rp {K : PySem.W.Frag} {F : Hp} : ∀ {ds : List PyData} {vs : List V} {ns : List Bool}, RpAll K F vs ds → boolsOf ds = some ns → vs = ns.map V.bl
  | [], _, ns, h, e => by cases h; cases e; rfl
  | d :: ds, _, ns, h, e => by
    cases h with
    | cons a b =>
      cases d <;> first | (cases e; done) | skip
      rename_i i
      simp only [boolsOf] at e
      cases q : boolsOf ds with
      | none => rw [q] at e; cases e
      | some ms =>
        rw [q] at e; cases e
        cases a
        rw [bools_rp b q]; rfl
theorem maxL_spec : ∀ (ns : List Int) (m : Int), (maxL m ns = m ∨ maxL m ns ∈ ns) ∧ m ≤ maxL m ns ∧ ∀ y ∈ ns, y ≤ maxL m ns
  | [], m => ⟨.inl rfl, Int.le_refl _, fun _ h => by cases h⟩
  | x :: xs, m => by
    unfold maxL
    have ih := maxL_spec xs (if m < x then x else m)
    obtain ⟨h1, h2, h3⟩ := ih
    generalize maxL (if m < x then x else m) xs = M at h1 h2 h3 ⊢
    refine ⟨?_, ?_, fun y hy => ?_⟩
    · rcases h1 with h1 | h1
      · rw [h1]; split
        · exact .inr List.mem_cons_self
        · exact .inl rfl
      · exact .inr (List.mem_cons_of_mem _ h1)
    · split at h2 <;> omega
    · rcases List.mem_cons.mp hy with rfl | hy
      · split at h2 <;> omega
      · exact h3 y hy
theorem minL_spec : ∀ (ns : List Int) (m : Int), (minL m ns = m ∨ minL m ns ∈ ns) ∧ minL m ns ≤ m ∧ ∀ y ∈ ns, minL m ns ≤ y
  | [], m => ⟨.inl rfl, Int.le_refl _, fun _ h => by cases h⟩
  | x :: xs, m => by
    unfold minL
    have ih := minL_spec xs (if x < m then x else m)
    obtain ⟨h1, h2, h3⟩ := ih
    generalize minL (if x < m then x else m) xs = M at h1 h2 h3 ⊢
    refine ⟨?_, ?_, fun y hy => ?_⟩
    · rcases h1 with h1 | h1
      · rw [h1]; split
        · exact .inr List.mem_cons_self
        · exact .inl rfl
      · exact .inr (List.mem_cons_of_mem _ h1)
    · split at h2 <;> omega
    · rcases List.mem_cons.mp hy with rfl | hy
      · split at h2 <;> omega
      · exact h3 y hy
theorem strOk_ofString (z : String) : PyData.strOk (Str.ofString z) = true := by
  unfold PyData.strOk Str.ofString
  rw [cpsOfBytes_string]
  simp only [List.all_toArray, List.all_map, List.all_eq_true]
  intro c _
  have h := c.valid
  simp only [UInt32.isValidChar, Nat.isValidChar] at h
  have : c.toNat = c.val.toNat := rfl
  simp only [Function.comp, decide_eq_true_eq, this]
  omega
/-- what a built-in is as a value -/
def bltV : Blt → Value
  | .abs => .builtin "abs" | .len => .builtin "len" | .int => .type "int" | .str => .type "str" | .list => .type "list" | .tuple => .type "tuple" | .min => .builtin "min" | .max => .builtin "max" | .all => .builtin "all" | .any => .builtin "any" | .sorted => .builtin "sorted"
def bltF (f : Blt) : Bool := decide (f = .list) || decide (f = .sorted)
theorem call_bltD (hc : X.calm = true) (hu : X.A.units + 65 < cLine) (f : Blt) : CallR X (bltV f) (rDs X.K (bltF f) (bltD f)) := by
  intro pins s σ H xs us Q I r h
  obtain ⟨F, ds, d, sF, h1, e, q⟩ := h
  cases f with
  | abs =>
    simp only [bltD, absD] at e
    split at e
    · obtain ⟨v, rfl, r1⟩ := h1.one
      cases r1.int; cases e
      exact call_abs pins s σ H _ us Q I r ⟨_, rfl, rr_int sF q⟩
    · cases e
  | len =>
    simp only [bltD, lenD] at e
    split at e
    · obtain ⟨v, rfl, r1⟩ := h1.one
      obtain ⟨a, vs, e1, hq, z, rr⟩ := r1.lst sF
      subst e1; cases e
      rw [← rr.length] at q
      exact call_len_seq pins s σ H _ us Q I r ⟨_, _, rfl, .inl (SqL.of hq), rr_int sF q⟩
    · obtain ⟨v, rfl, r1⟩ := h1.one
      obtain ⟨a, vs, e1, hq, z, rr⟩ := r1.tup
      subst e1; cases e
      rw [← rr.length] at q
      exact call_len_seq pins s σ H _ us Q I r ⟨_, _, rfl, .inr (sub_t sF hq), rr_int sF q⟩
    · obtain ⟨v, rfl, r1⟩ := h1.one
      cases r1.str.1
      split at e
      · rename_i hl
        cases e
        exact call_len_str pins s σ H _ us Q I r ⟨_, rfl, lim_line hl, rr_int sF q⟩
      · cases e
    · obtain ⟨v, rfl, r1⟩ := h1.one
      obtain ⟨a, ns, e1, hq, z, e2⟩ := r1.scr sF
      subst e1; subst e2; cases e
      rw [List.length_map] at q
      exact call_len_seq pins s σ H _ us Q I r ⟨_, _, rfl, .inl hq, by rw [List.length_map]; exact rr_int sF q⟩
    · cases e
  | int =>
    simp only [bltD, intD] at e
    split at e
    · obtain ⟨v, rfl, r1⟩ := h1.one
      cases r1.int; cases e
      exact call_int1 pins s σ H _ us Q I r (.inl ⟨_, rfl, rr_int sF q⟩)
    · obtain ⟨v, rfl, r1⟩ := h1.one
      cases r1.bl; cases e
      exact call_int1 pins s σ H _ us Q I r (.inr ⟨_, rfl, rr_int sF q⟩)
    · cases e
  | str =>
    simp only [bltD, strD] at e
    split at e
    · obtain ⟨v, rfl, r1⟩ := h1.one
      cases r1.int
      split at e
      · rename_i hl
        cases e
        exact call_str_int pins s σ H _ us Q I r ⟨_, rfl, hl, rr_old sF (.str _ (strOk_ofString _)) (fun _ z => nomatch z) q⟩
      · cases e
    · obtain ⟨v, rfl, r1⟩ := h1.one
      obtain ⟨rfl, hok⟩ := r1.str
      cases e
      exact SkE.call_str_str pins s σ H _ us Q I r ⟨_, rfl, rr_old sF (.str _ hok) (fun _ z => nomatch z) q⟩
    · cases e
  | list =>
    simp only [bltD, listD] at e
    split at e
    · obtain ⟨v, rfl, r1⟩ := h1.one
      obtain ⟨a, vs, e1, hq, z, rr⟩ := r1.lst sF
      subst e1; cases e
      exact call_list_of pins s σ H _ us Q I r ⟨_, _, rfl, .inl (SqL.of hq), fun p hp => rr_lst sF hp rr z q⟩
    · obtain ⟨v, rfl, r1⟩ := h1.one
      obtain ⟨a, vs, e1, hq, z, rr⟩ := r1.tup
      subst e1; cases e
      exact call_list_of pins s σ H _ us Q I r ⟨_, _, rfl, .inr (sub_t sF hq), fun p hp => rr_lst sF hp rr z q⟩
    · cases e
  | tuple =>
    simp only [bltD, tupleD] at e
    split at e
    · obtain ⟨v, rfl, r1⟩ := h1.one
      obtain ⟨a, vs, e1, hq, z, rr⟩ := r1.lst sF
      subst e1; cases e
      exact call_tuple_of pins s σ H _ us Q I r ⟨_, _, rfl, .inl ⟨SqL.of hq, fun p hp => rr_tup sF hp rr z q⟩⟩
    · obtain ⟨v, rfl, r1⟩ := h1.one
      obtain ⟨a, vs, e1, hq, z, rr⟩ := r1.tup
      subst e1; cases e
      exact call_tuple_of pins s σ H _ us Q I r ⟨_, _, rfl, .inr ⟨sub_t sF hq, rr_old sF (.tup hq z rr) (fun _ z => nomatch z) q⟩⟩
    · cases e
  | min =>
    simp only [bltD, minD] at e
    split at e
    · obtain ⟨v, w, rfl, r1, r2⟩ := h1.two
      cases r1.int; cases r2.int; cases e
      exact call_min2 hc pins s σ H _ us Q I r ⟨_, _, rfl, rr_int sF q⟩
    · obtain ⟨v, w, rfl, r1, r2⟩ := h1.two
      have r1 := Rp1.rpT r1
      have r2 := Rp1.rpT r2
      cases e
      refine call_minP hc hu pins s σ H _ us Q I r ⟨F, v, w, _, _, _, _, rfl, sF, r1, r2, ?_⟩
      split
      · rename_i hh; rw [if_pos hh] at q; exact rr_old sF r2 (fun _ z => nomatch z) q
      · rename_i hh; rw [if_neg hh] at q; exact rr_old sF r1 (fun _ z => nomatch z) q
    · obtain ⟨v, rfl, r1⟩ := h1.one
      obtain ⟨a, vs, e1, hq, z, rr⟩ := r1.lst sF
      subst e1
      split at e
      · rename_i i rs _ ns hns
        cases e
        have hv := ints_rp (ns := i :: ns) rr (by simp [intsOf, hns])
        subst hv
        refine cr_min hc pins s σ H _ us Q I r ⟨_, i :: ns, rfl, SqL.of hq, by simp, fun m hm hle => ?_⟩
        obtain ⟨s1, s2, s3⟩ := minL_spec ns i
        have : m = minL i ns := by
          have a1 : minL i ns ∈ i :: ns := by rcases s1 with s1 | s1; rw [s1]; exact List.mem_cons_self; exact List.mem_cons_of_mem _ s1
          have a2 := hle _ a1
          have a3 : minL i ns ≤ m := by rcases List.mem_cons.mp hm with rfl | hm; exact s2; exact s3 _ hm
          omega
        rw [this]
        exact rr_int sF q
      · cases e
    · cases e
  | max =>
    simp only [bltD, maxD] at e
    split at e
    · obtain ⟨v, w, rfl, r1, r2⟩ := h1.two
      cases r1.int; cases r2.int; cases e
      exact call_max2 hc pins s σ H _ us Q I r ⟨_, _, rfl, rr_int sF q⟩
    · obtain ⟨v, w, rfl, r1, r2⟩ := h1.two
      have r1 := Rp1.rpT r1
      have r2 := Rp1.rpT r2
      cases e
      refine call_maxP hc hu pins s σ H _ us Q I r ⟨F, v, w, _, _, _, _, rfl, sF, r1, r2, ?_⟩
      split
      · rename_i hh; rw [if_pos hh] at q; exact rr_old sF r2 (fun _ z => nomatch z) q
      · rename_i hh; rw [if_neg hh] at q; exact rr_old sF r1 (fun _ z => nomatch z) q
    · obtain ⟨v, rfl, r1⟩ := h1.one
      obtain ⟨a, vs, e1, hq, z, rr⟩ := r1.lst sF
      subst e1
      split at e
      · rename_i i rs _ ns hns
        cases e
        have hv := ints_rp (ns := i :: ns) rr (by simp [intsOf, hns])
        subst hv
        refine cr_max hc pins s σ H _ us Q I r ⟨_, i :: ns, rfl, SqL.of hq, by simp, fun m hm hle => ?_⟩
        obtain ⟨s1, s2, s3⟩ := maxL_spec ns i
        have : m = maxL i ns := by
          have a1 : maxL i ns ∈ i :: ns := by rcases s1 with s1 | s1; rw [s1]; exact List.mem_cons_self; exact List.mem_cons_of_mem _ s1
          have a2 := hle _ a1
          have a3 : m ≤ maxL i ns := by rcases List.mem_cons.mp hm with rfl | hm; exact s2; exact s3 _ hm
          omega
        rw [this]
        exact rr_int sF q
      · cases e
    · cases e
  | all =>
    simp only [bltD, allD] at e
    split at e
    · obtain ⟨v, rfl, r1⟩ := h1.one
      obtain ⟨a, vs, e1, hq, z, rr⟩ := r1.lst sF
      subst e1
      split at e
      · rename_i bs hbs
        cases e
        have hv := bools_rp rr hbs
        subst hv
        exact cr_all hc pins s σ H _ us Q I r ⟨_, _, rfl, SqL.of hq, rr_bool sF q⟩
      · cases e
    · cases e
  | any =>
    simp only [bltD, anyD] at e
    split at e
    · obtain ⟨v, rfl, r1⟩ := h1.one
      obtain ⟨a, vs, e1, hq, z, rr⟩ := r1.lst sF
      subst e1
      split at e
      · rename_i bs hbs
        cases e
        have hv := bools_rp rr hbs
        subst hv
        exact cr_any hc pins s σ H _ us Q I r ⟨_, _, rfl, SqL.of hq, rr_bool sF q⟩
      · cases e
    · cases e
  | sorted =>
    simp only [bltD, sortedD] at e
    split at e
    · obtain ⟨v, rfl, r1⟩ := h1.one
      obtain ⟨l, vs, e1, hq, z, rr⟩ := r1.lst sF
      subst e1
      cases rr with
      | cons ra rr =>
        cases rr with
        | cons rb rr =>
          cases rr
          cases e
          exact call_sort2 pins s σ H _ us Q I r ⟨F, _, _, _, _, _, _, _, rfl, SqL.of hq, sF, ra, rb, fun p z w rz hp => rr_lst sF hp rz (by simp [sizeLine]) q⟩
    · cases e
end
end DP

/-! ## DTold -/
set_option Elab.async false
set_option linter.all false
set_option maxRecDepth 100000
set_option maxHeartbeats 4000000
set_option autoImplicit false
/-! The laws' told: what a deed told, or the number of its refusal. -/
namespace DP
open PySem PySem.Spec L2 LamX PyProof.Rows
variable [Tb]
/-! ### xs.count(True), xs of truths -/
def isTr : Value → Bool
  | .bool b => b == true
  | _ => false
theorem bools_of : ∀ {us : List Value} {bs : List Bool}, Vals (bs.map V.bl) us → us = bs.map Value.bool
  | us, [], r => by cases r; rfl
  | us, b :: bs, r => by
    rw [List.map_cons] at r
    cases r with
    | cons a r => cases a; rw [bools_of r]; rfl
theorem cnt_bools : ∀ bs : List Bool, (bs.map Value.bool).countP isTr = bs.count true
  | [] => rfl
  | b :: bs => by
    rw [List.map_cons, List.countP_cons, cnt_bools bs, List.count_cons]
    cases b <;> rfl
def rCntB (K : PySem.W.Frag) : V → List V → Hp → VK → Prop := fun x xs H Q => ∃ (p : Addr) (bs : List Bool), x = .ref p ∧ xs = [.bl true] ∧ SqL K H p (bs.map V.bl) ∧ Q (.int (bs.count true : Nat)) H
theorem mt_countB {X : Cx} : MtR X "list.count" (rCntB X.K) := by
  intro pins s σ H x xs v us Q I rx rxs h
  obtain ⟨p, bs, rfl, rfl, hs, q⟩ := h
  cases rx
  obtain ⟨u, rfl, ru⟩ := rxs.one
  cases ru
  obtain ⟨its, rv, ⟨⟨cls, dd, data, sl⟩, n, ho, hc, hdn, hd⟩, hlen⟩ := I.list hs
  simp only at hc hd
  subst hc hd
  have hi := bools_of rv
  refine call_meets PySem.F.slot_list_count ⟨_, ho, rfl⟩ PySem.F.entry_list_count (PySem.F.args_list_count_2 _ _)
    (SeqAt.list_countAt p its.toArray n dd sl (.bool true) isTr) ⟨ho, fun y hy => ?_, ?_⟩
  · have hy' : y ∈ bs.map Value.bool := by rw [← hi]; simpa using hy
    obtain ⟨b, _, rfl⟩ := List.mem_map.mp hy'
    exact eqAt_V (y := .bl b) (x := .bl true) rfl rfl rfl rfl
  · have ec : its.toArray.toList.countP isTr = bs.count true := by
      have : its.toArray.toList = its := by simp
      rw [this, hi, cnt_bools]
    refine ⟨.int (bs.count true : Nat), H, I.tok _, ⟨s.toks, ?_⟩, q⟩
    show Value.int ((its.toArray.toList.countP isTr : Nat) : Int) s.toks = Value.int ((bs.count true : Nat) : Int) s.toks
    rw [ec]
/-! ### the classes -/
def exName : Nat → Str
  | 0 => "NoText"
  | 1 => "NoPart"
  | 2 => "NoFit"
  | _ => "Clash"
/-- what is known of the exception classes: c k is the k-th -/
structure TK (K : PySem.W.Frag) (mg : Str → Option Value) (SE : Addr) (c : Nat → Addr) : Prop where
  se : mg "SheetError" = some (.ref SE)
  cl : ∀ k, k < 4 → mg (exName k) = some (.ref (c k))
  isi : mg "isinstance" = none
  ve : mg "ValueError" = none
  ok : ∀ k, k < 3 → ExcC K (c k)
  ex : ∀ k, k < 3 → PySem.W.exmOne K (.ref (c k)) (.ref SE) = some true
  kv : ∀ k, k < 3 → PySem.W.kitOne K (.ref (c k)) (.type "ValueError") = some true
  kc : ∀ k, k < 3 → ∀ j, j < 4 → PySem.W.kitOne K (.ref (c k)) (.ref (c j)) = some (decide (k = j))
theorem kit_same {K : PySem.W.Frag} {c : Addr} : PySem.W.kitOne K (.ref c) (.ref c) = some true := by
  unfold PySem.W.kitOne; rw [if_pos (by simp)]
theorem kit_no {K : PySem.W.Frag} {c C : Addr} (hd : PySem.W.hasDictIn K C = true) (ht : PySem.W.typeIn K (.ref C) = some (.type "type")) (h : PySem.W.subIn K (.ref c) (.ref C) = some false) (ne : c ≠ C) : PySem.W.kitOne K (.ref c) (.ref C) = some false := by
  obtain ⟨cd, hc, _⟩ := PySem.W.any_some hd
  unfold PySem.W.kitOne PySem.W.kitCls
  rw [if_neg (by simpa using ne)]
  simp only [hc, ht]
  rw [if_pos (by rfl)]
  exact h
theorem kit_ve {K : PySem.W.Frag} {c : Addr} (h : PySem.W.subIn K (.ref c) (.type "ValueError") = some true) : PySem.W.kitOne K (.ref c) (.type "ValueError") = some true := by
  unfold PySem.W.kitOne PySem.W.kitCls
  rw [if_neg (by simp)]
  show (if PySem.W.kitMeta "ValueError" = true then _ else _) = _
  rw [if_pos (by decide +kernel)]
  exact h
theorem tk_of {K : PySem.W.Frag} {h : Heap} {mg : Str → Option Value} (X : K.In h) (G : h.Ns mainGlobals mg) {SE c0 c1 c2 c3 : Addr} (nS : PySem.W.nsIn K mainGlobals "SheetError" = some (some (.ref SE))) (ni : PySem.W.nsIn K mainGlobals "isinstance" = some none) (nv : PySem.W.nsIn K mainGlobals "ValueError" = some none)
    (dS : PySem.W.hasDictIn K SE = true) (tS : PySem.W.typeIn K (.ref SE) = some (.type "type")) (bS : PySem.W.subIn K (.ref SE) (.type "BaseException") = some true) (sp : PySem.W.specialIn K (.builtin "object.__class__") "__get__" = some (some (.builtin "getset_descriptor.__get__"))) (tk : PySem.W.takesIn K (.builtin "object.__class__") = some true)
    (n0 : PySem.W.nsIn K mainGlobals (exName 0) = some (some (.ref c0)))
    (d0 : PySem.W.hasDictIn K c0 = true) (t0 : PySem.W.typeIn K (.ref c0) = some (.type "type"))
    (n1 : PySem.W.nsIn K mainGlobals (exName 1) = some (some (.ref c1)))
    (d1 : PySem.W.hasDictIn K c1 = true) (t1 : PySem.W.typeIn K (.ref c1) = some (.type "type"))
    (n2 : PySem.W.nsIn K mainGlobals (exName 2) = some (some (.ref c2)))
    (d2 : PySem.W.hasDictIn K c2 = true) (t2 : PySem.W.typeIn K (.ref c2) = some (.type "type"))
    (n3 : PySem.W.nsIn K mainGlobals (exName 3) = some (some (.ref c3)))
    (d3 : PySem.W.hasDictIn K c3 = true) (t3 : PySem.W.typeIn K (.ref c3) = some (.type "type"))
    (ga0 : PySem.W.findIn K (.ref c0) "__getattribute__" = some (some (.builtin "BaseException.__getattribute__"))) (gt0 : PySem.W.findIn K (.ref c0) "__getattr__" = some none) (bs0 : PySem.W.subIn K (.ref c0) (.type "BaseException") = some true) (ca0 : PySem.W.findIn K (.ref c0) "__class__" = some (some (.builtin "object.__class__"))) (mo0 : PySem.W.mroIn K c0 (.type "object") = some true)
    (sS0 : PySem.W.subIn K (.ref c0) (.ref SE) = some true) (v0 : PySem.W.subIn K (.ref c0) (.type "ValueError") = some true)
    (s01 : PySem.W.subIn K (.ref c0) (.ref c1) = some false) (e01 : c0 ≠ c1)
    (s02 : PySem.W.subIn K (.ref c0) (.ref c2) = some false) (e02 : c0 ≠ c2)
    (s03 : PySem.W.subIn K (.ref c0) (.ref c3) = some false) (e03 : c0 ≠ c3)
    (ga1 : PySem.W.findIn K (.ref c1) "__getattribute__" = some (some (.builtin "BaseException.__getattribute__"))) (gt1 : PySem.W.findIn K (.ref c1) "__getattr__" = some none) (bs1 : PySem.W.subIn K (.ref c1) (.type "BaseException") = some true) (ca1 : PySem.W.findIn K (.ref c1) "__class__" = some (some (.builtin "object.__class__"))) (mo1 : PySem.W.mroIn K c1 (.type "object") = some true)
    (sS1 : PySem.W.subIn K (.ref c1) (.ref SE) = some true) (v1 : PySem.W.subIn K (.ref c1) (.type "ValueError") = some true)
    (s10 : PySem.W.subIn K (.ref c1) (.ref c0) = some false) (e10 : c1 ≠ c0)
    (s12 : PySem.W.subIn K (.ref c1) (.ref c2) = some false) (e12 : c1 ≠ c2)
    (s13 : PySem.W.subIn K (.ref c1) (.ref c3) = some false) (e13 : c1 ≠ c3)
    (ga2 : PySem.W.findIn K (.ref c2) "__getattribute__" = some (some (.builtin "BaseException.__getattribute__"))) (gt2 : PySem.W.findIn K (.ref c2) "__getattr__" = some none) (bs2 : PySem.W.subIn K (.ref c2) (.type "BaseException") = some true) (ca2 : PySem.W.findIn K (.ref c2) "__class__" = some (some (.builtin "object.__class__"))) (mo2 : PySem.W.mroIn K c2 (.type "object") = some true)
    (sS2 : PySem.W.subIn K (.ref c2) (.ref SE) = some true) (v2 : PySem.W.subIn K (.ref c2) (.type "ValueError") = some true)
    (s20 : PySem.W.subIn K (.ref c2) (.ref c0) = some false) (e20 : c2 ≠ c0)
    (s21 : PySem.W.subIn K (.ref c2) (.ref c1) = some false) (e21 : c2 ≠ c1)
    (s23 : PySem.W.subIn K (.ref c2) (.ref c3) = some false) (e23 : c2 ≠ c3) :
    TK K mg SE (fun k => match k with | 0 => c0 | 1 => c1 | 2 => c2 | _ => c3) where
  se := PySem.W.mg_of X G nS
  cl := fun k hk => by
    match k, hk with
    | 0, _ => exact PySem.W.mg_of X G n0
    | 1, _ => exact PySem.W.mg_of X G n1
    | 2, _ => exact PySem.W.mg_of X G n2
    | 3, _ => exact PySem.W.mg_of X G n3
  isi := PySem.W.mg_none_of X G ni
  ve := PySem.W.mg_none_of X G nv
  ok := fun k hk => by
    match k, hk with
    | 0, _ => exact ⟨ga0, gt0, bs0, d0, ca0, sp, tk, mo0⟩
    | 1, _ => exact ⟨ga1, gt1, bs1, d1, ca1, sp, tk, mo1⟩
    | 2, _ => exact ⟨ga2, gt2, bs2, d2, ca2, sp, tk, mo2⟩
  ex := fun k hk => by
    match k, hk with
    | 0, _ => exact PySem.W.exm_ref bS dS tS sS0
    | 1, _ => exact PySem.W.exm_ref bS dS tS sS1
    | 2, _ => exact PySem.W.exm_ref bS dS tS sS2
  kv := fun k hk => by
    match k, hk with
    | 0, _ => exact kit_ve v0
    | 1, _ => exact kit_ve v1
    | 2, _ => exact kit_ve v2
  kc := fun k hk j hj => by
    match k, hk, j, hj with
    | 0, _, 0, _ => exact kit_same
    | 0, _, 1, _ => exact kit_no d1 t1 s01 e01
    | 0, _, 2, _ => exact kit_no d2 t2 s02 e02
    | 0, _, 3, _ => exact kit_no d3 t3 s03 e03
    | 1, _, 0, _ => exact kit_no d0 t0 s10 e10
    | 1, _, 1, _ => exact kit_same
    | 1, _, 2, _ => exact kit_no d2 t2 s12 e12
    | 1, _, 3, _ => exact kit_no d3 t3 s13 e13
    | 2, _, 0, _ => exact kit_no d0 t0 s20 e20
    | 2, _, 1, _ => exact kit_no d1 t1 s21 e21
    | 2, _, 2, _ => exact kit_same
    | 2, _, 3, _ => exact kit_no d3 t3 s23 e23
def isiE (x : Str) (p : Nat → Pos) (i : Nat) : Expr := .Call (.Name "isinstance" (p i)) [.Name "e" (p (i + 1)), .Name x (p (i + 2))] [] (p (i + 3))
def sKinds (p : Nat → Pos) : Stmt := .Assign [.Name "_law_kinds" (p 7)] (.List [isiE "NoText" p 8, isiE "NoPart" p 12, isiE "NoFit" p 16, isiE "Clash" p 20] (p 24)) (p 25)
def sRef (p : Nat → Pos) : Stmt := .Assign [.Name "_law_found" (p 26)] (.Tuple [.Constant (.str "refused") 0 (p 27), .UnaryOp .USub (.Constant (.int 1) 0 (p 28)) (p 29)] 0 (p 30)) (p 31)
def sFin (p : Nat → Pos) : Stmt := .Assign [.Name "_law_found" (p 43)] (.Tuple [.Constant (.str "refused") 0 (p 44), .Call (.Attribute (.Name "_law_kinds" (p 45)) "index" (p 46)) [.Constant (.bool true) 0 (p 47)] [] (p 48)] 0 (p 49)) (p 50)
def sIf (p : Nat → Pos) : Stmt := .If (.BoolOp .And [isiE "ValueError" p 32, .Compare (.Call (.Attribute (.Name "_law_kinds" (p 36)) "count" (p 37)) [.Constant (.bool true) 0 (p 38)] [] (p 39)) [.Eq] [.Constant (.int 1) 0 (p 40)] (p 41)] (p 42)) [sFin p] [] (p 51)
/-- told's text, whatever its places -/
def toldBody (a : Str) (p : Nat → Pos) : List Stmt :=
  [.Try [.Assign [.Name "_law_found" (p 0)] (.Tuple [.Constant (.str "told") 0 (p 1), .Call (.Name a (p 2)) [] [] (p 3)] 0 (p 4)) (p 5)]
    [.ExceptHandler (some (.Name "SheetError" (p 6))) (some "e") [sKinds p, sRef p, sIf p] (p 52)] [] [] (p 53),
   .Return (some (.Name "_law_found" (p 54))) (p 55)]
/-- told's places -/
def toldPos : List Stmt → List Pos
  | [.Try [.Assign [.Name _ q0] (.Tuple [.Constant _ _ q1, .Call (.Name _ q2) [] [] q3] _ q4) q5]
    [.ExceptHandler (some (.Name _ q6)) (some _)
      [.Assign [.Name _ q7] (.List [.Call (.Name _ q8) [.Name _ q9, .Name _ q10] [] q11, .Call (.Name _ q12) [.Name _ q13, .Name _ q14] [] q15, .Call (.Name _ q16) [.Name _ q17, .Name _ q18] [] q19, .Call (.Name _ q20) [.Name _ q21, .Name _ q22] [] q23] q24) q25,
       .Assign [.Name _ q26] (.Tuple [.Constant _ _ q27, .UnaryOp _ (.Constant _ _ q28) q29] _ q30) q31,
       .If (.BoolOp _ [.Call (.Name _ q32) [.Name _ q33, .Name _ q34] [] q35, .Compare (.Call (.Attribute (.Name _ q36) _ q37) [.Constant _ _ q38] [] q39) [_] [.Constant _ _ q40] q41] q42)
         [.Assign [.Name _ q43] (.Tuple [.Constant _ _ q44, .Call (.Attribute (.Name _ q45) _ q46) [.Constant _ _ q47] [] q48] _ q49) q50]
         [] q51] q52] [] [] q53,
   .Return (some (.Name _ q54)) q55] => [q0, q1, q2, q3, q4, q5, q6, q7, q8, q9, q10, q11, q12, q13, q14, q15, q16, q17, q18, q19, q20, q21, q22, q23, q24, q25, q26, q27, q28, q29, q30, q31, q32, q33, q34, q35, q36, q37, q38, q39, q40, q41, q42, q43, q44, q45, q46, q47, q48, q49, q50, q51, q52, q53, q54, q55]
  | _ => []
def toldP (bg : List Stmt) (i : Nat) : Pos := (toldPos bg).getD i ⟨0, 0, 0, 0⟩
def toldN (a : Str) : List Str := [a, "_law_found", "_law_kinds", "e"]
/-- told's names -/
def toldSc (a : Str) (sc : Scope) : Bool := scopeB (toldN a) [a] sc && [("_law_found" : Str), "_law_kinds", "e"].all (fun x => decide (sc.names.lookup x = some .local)) && decide (sc.names.lookup a = some .local)
    && [("SheetError" : Str), "NoText", "NoPart", "NoFit", "Clash", "isinstance", "ValueError"].all fun x => decide (sc.names.lookup x = some .globalImplicit)
where scopeB (N ps : List Str) (sc : Scope) : Bool :=
  decide (sc.kind = .function) && !sc.isCoroutine && !sc.isGenerator && decide N.Nodup && decide (N.take ps.length = ps) && (ps.all fun x => decide (sc.names.lookup x = some .local) || decide (sc.names.lookup x = some .cell)) && (sc.names.all fun y => decide (y.2 ≠ .free))
/-- the promise -/
def TTold (mg : Str → Option Value) : (XK → Hp → VK → Prop) → Hp → VK → Prop := fun tl H Q =>
  tl (fun cls dd H' => ∃ k : Nat, k < 3 ∧ mg (exName k) = some cls ∧ dd = none ∧ ∀ H'' T, (∀ b o, H' b = some o → H'' b = some o) → H' T = none → H'' T = some (.tup [.str "refused", .int k]) → Q (.ref T) H'') H
    (fun v H' => ∀ T, H' T = none → Q (.ref T) (upd H' T (.tup [.str "told", v])))
/-- a context in which told's text runs -/
structure ZOk (Z : Cx) (a : Str) (mg : Str → Option Value) (K : PySem.W.Frag) : Prop where
  N : Z.N = toldN a
  nd : (toldN a).Nodup
  found : Z.env.scope.names.lookup ("_law_found" : Str) = some NameKind.local
  kinds : Z.env.scope.names.lookup ("_law_kinds" : Str) = some NameKind.local
  e : Z.env.scope.names.lookup ("e" : Str) = some NameKind.local
  gl : ∀ x ∈ [("SheetError" : Str), "NoText", "NoPart", "NoFit", "Clash", "isinstance", "ValueError"], Z.env.scope.names.lookup x = some NameKind.globalImplicit
  mg : Z.mg = mg
  K : Z.K = K
/-- the suite's promise -/
def tsTold (mg : Str → Option Value) (a0 : Addr) (cls : Value) (dd : Option Addr) : TS := fun D σ H => (∃ σ0 : L2.St, σ = σ0.set 3 (some (.ref a0))) ∧ ∃ k : Nat, k < 3 ∧ mg (exName k) = some cls ∧ dd = none ∧
  ∀ (H'' : Hp) (T : Addr) (σ'' : L2.St), (∀ b o, H b = some o → H'' b = some o) → H T = none → H'' T = some (.tup [.str "refused", .int k]) → σ''[1]? = some (some (.ref T)) → D.nx σ'' H''
section
variable {Z : Cx} {a : Str} {mg : Str → Option Value} {K : PySem.W.Frag} {SE : Addr} {c : Nat → Addr} {p : Nat → Pos} {D a0 : Addr}
theorem isi_cls (z : ZOk Z a mg K) (k : TK K mg SE c) (ci : CallR Z (.builtin "isinstance") (rIsE K D a0)) {x : Str} {i j : Nat} (hx : x ∈ [("SheetError" : Str), "NoText", "NoPart", "NoFit", "Clash", "isinstance", "ValueError"]) (hm : mg x = some (.ref (c j))) (hd : (x == ("__debug__" : Str)) = false) :
    PE Z (isiE x p i) (tCB (rIsE K D a0) (tCons (tVar 3) (tCons (tC (.ref (c j))) tNil))) :=
  pe_callB ci (z.gl _ (by decide)) (by rw [z.mg]; exact k.isi) (by decide +kernel)
    (pa_cons (pe_var (by rw [z.N]; rfl) (.inl z.e)) (pa_cons (pe_glob (z.gl _ hx) (by rw [z.mg]; exact hm) rfl hd) pa_nil))
theorem isi_ve (z : ZOk Z a mg K) (k : TK K mg SE c) (ci : CallR Z (.builtin "isinstance") (rIsE K D a0)) {i : Nat} :
    PE Z (isiE "ValueError" p i) (tCB (rIsE K D a0) (tCons (tVar 3) (tCons (tC (.ty "ValueError")) tNil))) :=
  pe_callB ci (z.gl _ (by decide)) (by rw [z.mg]; exact k.isi) (by decide +kernel)
    (pa_cons (pe_var (by rw [z.N]; rfl) (.inl z.e)) (pa_cons (pe_bltn (z.gl _ (by decide)) (by rw [z.mg]; exact k.ve) (by decide +kernel) rfl) pa_nil))
abbrev tIsi (K : PySem.W.Frag) (D a0 : Addr) (v : V) : TE := tCB (rIsE K D a0) (tCons (tVar 3) (tCons (tC v) tNil))
theorem ps_kinds (z : ZOk Z a mg K) (k : TK K mg SE c) (ci : CallR Z (.builtin "isinstance") (rIsE K D a0)) :
    PS Z (sKinds p) (tAsg (tLst (tCons (tIsi K D a0 (.ref (c 0))) (tCons (tIsi K D a0 (.ref (c 1))) (tCons (tIsi K D a0 (.ref (c 2))) (tCons (tIsi K D a0 (.ref (c 3))) tNil))))) (gName 2)) :=
  ps_set (by rw [z.N]; exact z.nd) (by rw [z.N]; rfl) (.inl z.kinds) (pe_lst (pa_cons (isi_cls z k ci (by decide) (k.cl 0 (by decide)) rfl) (pa_cons (isi_cls z k ci (by decide) (k.cl 1 (by decide)) rfl) (pa_cons (isi_cls z k ci (by decide) (k.cl 2 (by decide)) rfl) (pa_cons (isi_cls z k ci (by decide) (k.cl 3 (by decide)) rfl) pa_nil))))) rfl (.inr z.kinds)
theorem ps_ref (z : ZOk Z a mg K) : PS Z (sRef p) (tAsg (tTup (tCons (tC (.str "refused")) (tCons (tUn (rU fun i => V.int (-i)) (tC (.int 1))) tNil))) (gName 1)) :=
  ps_set (by rw [z.N]; exact z.nd) (by rw [z.N]; rfl) (.inl z.found) (pe_tup (pa_cons pe_str (pa_cons (pe_un un_neg pe_int) pa_nil))) rfl (.inr z.found)
theorem ps_fin (z : ZOk Z a mg K) (l2 : ((p 46).endLine == (p 48).line) = true) : PS Z (sFin p) (tAsg (tTup (tCons (tC (.str "refused")) (tCons (tBM Z.K "list" (rIndex Z.K) (tVar 2) (tCons (tC (.bl true)) tNil)) tNil))) (gName 1)) :=
  ps_set (by rw [z.N]; exact z.nd) (by rw [z.N]; rfl) (.inl z.found) (pe_tup (pa_cons pe_str (pa_cons (pe_bm PySem.F.plainAttrs_list PySem.F.slot_list_index PySem.F.type_list_index mt_index (pe_var (by rw [z.N]; rfl) (.inl z.kinds)) (pa_cons pe_bl pa_nil) rfl rfl l2) pa_nil))) rfl (.inr z.found)
theorem ps_ifK (z : ZOk Z a mg K) (k : TK K mg SE c) (ci : CallR Z (.builtin "isinstance") (rIsE K D a0)) (l1 : ((p 37).endLine == (p 39).line) = true) (l2 : ((p 46).endLine == (p 48).line) = true) :
    PS Z (sIf p) (tIfS (tAnd (tB (tIsi K D a0 (.ty "ValueError"))) (tTest (tOp rEq (tBM Z.K "list" (rCntB Z.K) (tVar 2) (tCons (tC (.bl true)) tNil)) (tC (.int 1))))) (tSeq (tAsg (tTup (tCons (tC (.str "refused")) (tCons (tBM Z.K "list" (rIndex Z.K) (tVar 2) (tCons (tC (.bl true)) tNil)) tNil))) (gName 1)) tNext) tNext) :=
  ps_if (PW.pt (pw_and (pt_val (isi_ve z k ci)) (pw_and1 (pt_cmpR op_eq (pe_bm PySem.F.plainAttrs_list PySem.F.slot_list_count PySem.F.type_list_count mt_countB (pe_var (by rw [z.N]; rfl) (.inl z.kinds)) (pa_cons pe_bl pa_nil) rfl rfl l1) pe_int (by rfl))))) (pss_cons (ps_fin z l2) pss_nil) pss_nil
theorem ite_dec {c : Bool} {A B : Prop} (h : c = true) (a : A) : if c = true then A else B := by rw [if_pos h]; exact a
theorem told_suite (z : ZOk Z a mg K) (k : TK K mg SE c) (l1 : ((p 37).endLine == (p 39).line) = true) (l2 : ((p 46).endLine == (p 48).line) = true) {oe : Obj} {pn : List (Addr × Obj)} {cls : Value} {dd : Option Addr} (hz : Zc cls dd oe) (hf : ∃ vs, oe.data = .fields vs) :
    PSs (Z.suite a0 ((a0, oe) :: pn)) [sKinds p, sRef p, sIf p] (tsTold mg a0 cls dd) := by
  refine ⟨fun pins s σ H D I h => ?_⟩
  obtain ⟨⟨σ0, hσ⟩, kk, hk3, hcls, hdd, hQ⟩ := h
  have hck := k.cl kk (by omega)
  rw [hcls] at hck
  cases hck
  subst hdd
  have C := k.ok kk hk3
  have y : ZOk (Z.suite a0 ((a0, oe) :: pn)) a mg K := ⟨z.N, z.nd, z.found, z.kinds, z.e, z.gl, z.mg, z.K⟩
  have ci : CallR (Z.suite a0 ((a0, oe) :: pn)) (.builtin "isinstance") (rIsE K (c kk) a0) := by
    have := call_isE (X := Z) (a := a0) (pn := pn) (by rw [z.K]; exact C) hz hf
    rw [z.K] at this
    exact this
  have yK := y.K
  generalize Z.suite a0 ((a0, oe) :: pn) = Y at *
  have hlen : σ0.length = 4 := by
    have := I.len
    rw [hσ, List.length_set] at this
    rw [this, y.N]; rfl
  obtain ⟨w0, w1, w2, w3, rfl⟩ : ∃ w0 w1 w2 w3, σ0 = [w0, w1, w2, w3] := by
    match σ0, hlen with
    | [w0, w1, w2, w3], _ => exact ⟨_, _, _, _, rfl⟩
  have hσ' : σ = [w0, w1, w2, some (.ref a0)] := hσ
  subst hσ'
  have T := pss_cons (ps_kinds (p := p) y k ci) (pss_cons (ps_ref (p := p) y) (pss_cons (ps_ifK y k ci l1 l2) pss_nil))
  refine T.run pins s _ H D I ?_
  have isi : ∀ {σ : L2.St} {H : Hp} {Q : VK} {v : V} {cv : Value} {b : Bool}, σ[3]? = some (some (.ref a0)) → (∀ u, RelV v u → u = cv) → PySem.W.kitOne K (.ref (c kk)) cv = some b → Q (.bl b) H → tIsi K (c kk) a0 v σ H Q :=
    fun h1 h2 h3 q => ⟨_, h1, _, _, _, rfl, h2, h3, q⟩
  refine isi rfl (fun u r => r) (k.kc kk hk3 0 (by decide)) (isi rfl (fun u r => r) (k.kc kk hk3 1 (by decide)) (isi rfl (fun u r => r) (k.kc kk hk3 2 (by decide)) (isi rfl (fun u r => r) (k.kc kk hk3 3 (by decide)) ?_)))
  refine ⟨by show 4 ≤ sizeLine; decide, fun l hl => ?_⟩
  refine ⟨1, rfl, ?_⟩
  refine ⟨by show 2 ≤ sizeLine; decide, fun t1 ht1 => ?_⟩
  have hL : upd (upd H l (.lst [.bl (decide (kk = 0)), .bl (decide (kk = 1)), .bl (decide (kk = 2)), .bl (decide (kk = 3))])) t1 (.tup [.str "refused", .int (-1)]) l = some (.lst [.bl (decide (kk = 0)), .bl (decide (kk = 1)), .bl (decide (kk = 2)), .bl (decide (kk = 3))]) := by
    have : l ≠ t1 := fun e => by rw [← e, upd_same] at ht1; cases ht1
    rw [upd_ne this, upd_same]
  have fresh : ∀ T : Addr, upd (upd H l (.lst [.bl (decide (kk = 0)), .bl (decide (kk = 1)), .bl (decide (kk = 2)), .bl (decide (kk = 3))])) t1 (.tup [.str "refused", .int (-1)]) T = none → H T = none := fun T hT => by
    have h1 : T ≠ t1 := fun e => by rw [e, upd_same] at hT; cases hT
    rw [upd_ne h1] at hT
    have h2 : T ≠ l := fun e => by rw [e, upd_same] at hT; cases hT
    rwa [upd_ne h2] at hT
  have ht1' : H t1 = none := by
    have h2 : t1 ≠ l := fun e => by rw [e, upd_same] at ht1; cases ht1
    rwa [upd_ne h2] at ht1
  have grow : ∀ (T : Addr) (o : HO), H T = none → ∀ b u, H b = some u → upd (upd (upd H l (.lst [.bl (decide (kk = 0)), .bl (decide (kk = 1)), .bl (decide (kk = 2)), .bl (decide (kk = 3))])) t1 (.tup [.str "refused", .int (-1)])) T o b = some u := fun T o hT b u e => by
    rw [upd_ne (ne_of_none e hT), upd_ne (ne_of_none e ht1'), upd_ne (ne_of_none e hl)]; exact e
  refine isi rfl (fun u r => r) (k.kv kk hk3) ⟨true, rfl, iteT ?_⟩
  refine ⟨_, rfl, .inl ⟨rfl, _, SqL.of hL⟩, ⟨l, [decide (kk = 0), decide (kk = 1), decide (kk = 2), decide (kk = 3)], rfl, rfl, SqL.of hL, ?_⟩⟩
  have hcase : kk = 0 ∨ kk = 1 ∨ kk = 2 := by omega
  rcases hcase with rfl | rfl | rfl
  · refine ⟨rfl, _, rfl, ?_⟩
    refine ite_dec (by decide) ?_
    refine ⟨.ref l, rfl, .inl ⟨rfl, _, SqL.of hL⟩, ⟨l, _, .bl true, 0, .bl true, rfl, rfl, SqL.of hL, rfl, rfl, rfl, rfl, fun m z' hm => ?_, ?_⟩⟩
    · omega
    · exact ⟨by show 2 ≤ sizeLine; decide, fun T hT => hQ _ T _ (grow T _ (fresh T hT)) (fresh T hT) upd_same rfl⟩
  · refine ⟨rfl, _, rfl, ?_⟩
    refine ite_dec (by decide) ?_
    refine ⟨.ref l, rfl, .inl ⟨rfl, _, SqL.of hL⟩, ⟨l, _, .bl true, 1, .bl true, rfl, rfl, SqL.of hL, rfl, rfl, rfl, rfl, fun m z' hm e => ?_, ?_⟩⟩
    · have : m = 0 := by omega
      subst this; cases e; rfl
    · exact ⟨by show 2 ≤ sizeLine; decide, fun T hT => hQ _ T _ (grow T _ (fresh T hT)) (fresh T hT) upd_same rfl⟩
  · refine ⟨rfl, _, rfl, ?_⟩
    refine ite_dec (by decide) ?_
    refine ⟨.ref l, rfl, .inl ⟨rfl, _, SqL.of hL⟩, ⟨l, _, .bl true, 2, .bl true, rfl, rfl, SqL.of hL, rfl, rfl, rfl, rfl, fun m z' hm e => ?_, ?_⟩⟩
    · have : m = 0 ∨ m = 1 := by omega
      rcases this with rfl | rfl <;> cases e <;> rfl
    · exact ⟨by show 2 ≤ sizeLine; decide, fun T hT => hQ _ T _ (grow T _ (fresh T hT)) (fresh T hT) upd_same rfl⟩
end
theorem told_gives {X : Cx} {a q : Str} {sg : Scope} {g SE : Addr} {cdg : Value} {c : Nat → Addr} {p : Nat → Pos} (k : TK X.K X.mg SE c) (hs : toldSc a sg = true) (l1 : ((p 37).endLine == (p 39).line) = true) (l2 : ((p 46).endLine == (p 48).line) = true) :
    GivesTo X (toldN a) "_law_told" sg g cdg (toldBody a p) a q (TTold X.mg) := by
  intro f c' s H Q tl act hc h
  unfold toldSc toldSc.scopeB at hs
  simp only [Bool.and_eq_true, decide_eq_true_eq, List.all_cons, List.all_nil, Bool.and_true, Bool.not_eq_true'] at hs
  obtain ⟨⟨⟨⟨⟨⟨⟨⟨⟨b1, b2⟩, b3⟩, nd⟩, b5⟩, b6⟩, b7⟩, n1, n2, n3⟩, n0⟩, gse, g0, g1, g2, g3, gi, gv⟩ := hs
  have z : ZOk (cxOf C8.CX0 X.prog X.w X.K X.mg X.base (toldN a) "_law_told" sg g cdg X.A X.stack s H C8.E0).nox a X.mg X.K := by
    refine ⟨rfl, nd, n1, n2, n3, fun x hx => ?_, rfl, rfl⟩
    simp only [List.mem_cons, List.not_mem_nil, or_false] at hx
    rcases hx with rfl | rfl | rfl | rfl | rfl | rfl | rfl <;> assumption
  obtain ⟨Y, hY⟩ : ∃ Y, (cxOf C8.CX0 X.prog X.w X.K X.mg X.base (toldN a) "_law_told" sg g cdg X.A X.stack s H C8.E0).nox = Y := ⟨_, rfl⟩
  have stk : Y.stack = Y.env :: Y.outer := by rw [← hY]; rfl
  have frm : Y.env.frame = some Y.env.locals := by rw [← hY]; rfl
  have act' : ∀ (W : WX) (pn : List (Addr × Obj)) (xe : Value → Shared → Prop) (E : XK) (p1 p2 : Pos), Takes (Y.tr pn xe) W → (∀ cls d σ' H', E cls d H' → W cls d σ' H') →
      PE (Y.tr pn xe) (.Call (.Name a p1) [] [] p2) (fun σZ HZ Q => σZ[0]? = some (some (.ref f)) ∧ HZ c' = some (CodeO c' q) ∧ tl E HZ Q) := by
    intro W pn xe E p1 p2 tk hW
    rw [← hY] at tk ⊢
    exact act W pn xe E p1 p2 tk hW
  rw [hY] at z
  have start : L2.start (toldN a) [V.ref f] = [some (V.ref f), none, none, none] := rfl
  rw [show (cxOf C8.CX0 X.prog X.w X.K X.mg X.base (toldN a) "_law_told" sg g cdg X.A X.stack s H C8.E0).nox = Y from hY]
  clear hY act
  have tb : ∀ (W : WX) (pn : List (Addr × Obj)) (xe : Value → Shared → Prop), Takes (Y.tr pn xe) W →
      PSs (Y.tr pn xe) [.Assign [.Name "_law_found" (p 0)] (.Tuple [.Constant (.str "told") 0 (p 1), .Call (.Name a (p 2)) [] [] (p 3)] 0 (p 4)) (p 5)]
        (fun D σ H => ∃ (Ech : XK) (Qch : VK), (∀ cls d σ' H', Ech cls d H' → W cls d σ' H') ∧ σ[0]? = some (some (.ref f)) ∧ H c' = some (CodeO c' q) ∧ tl Ech H Qch ∧ ∀ v H', Qch v H' → ∀ T, H' T = none → D.nx (σ.set 1 (some (.ref T))) (upd H' T (.tup [.str "told", v]))) := by
    intro W pn xe tk
    refine ⟨fun pins s' σ H' D I h' => ?_⟩
    obtain ⟨Ech, Qch, hW, h1, h2, h3, h4⟩ := h'
    have hp : PE (Y.tr pn xe) (.Call (.Name a (p 2)) [] [] (p 3)) (fun σZ HZ Q => σZ[0]? = some (some (.ref f)) ∧ HZ c' = some (CodeO c' q) ∧ ∃ Qch : VK, tl Ech HZ Qch ∧ ∀ v H', Qch v H' → Q v H') := by
      refine ⟨fun pins s σ H Q I h => ?_⟩
      obtain ⟨g1, g2, Qc, g3, g4⟩ := h
      refine wpAny_mono ((act' W pn xe Ech (p 2) (p 3) tk hW).run pins s σ H Qc I ⟨g1, g2, g3⟩) (fun v s' hv => ?_) fun e s' he => he
      obtain ⟨w, H1, I1, r1, q1⟩ := hv
      exact ⟨w, H1, I1, r1, g4 _ _ q1⟩
    have T := pss_one (ps_set (X := Y.tr pn xe) (pos := p 5) (pos' := p 0) (i := 1) (by show Y.N.Nodup; rw [z.N]; exact z.nd) (by show Y.N[1]? = _; rw [z.N]; rfl) (.inl z.found) (pe_tup (x1 := 0) (pos := p 4) (pa_cons (pe_str (x := "told") (j := 0) (pos := p 1)) (pa_cons hp pa_nil))) rfl (.inr z.found))
    refine T.run pins s' σ H' D I ?_
    exact ⟨h1, h2, Qch, h3, fun v H2 hq => ⟨by show 2 ≤ sizeLine; decide, fun T hT => h4 v H2 hq T hT⟩⟩
  have hgl : Gl Y "SheetError" := z.gl _ (by decide)
  refine ⟨_, pss_cons (ps_try_as (X := Y) (i := 3) (n := "e") (c := .ref SE) (tb := fun W D σ H => ∃ (Ech : XK) (Qch : VK), (∀ cls d σ' H', Ech cls d H' → W cls d σ' H') ∧ σ[0]? = some (some (.ref f)) ∧ H c' = some (CodeO c' q) ∧ tl Ech H Qch ∧ ∀ v H', Qch v H' → ∀ T, H' T = none → D.nx (σ.set 1 (some (.ref T))) (upd H' T (.tup [.str "told", v])))
      (ts := fun a0 cls dd => tsTold X.mg a0 cls dd) stk frm (by rw [z.N]; exact z.nd) (by rw [z.N]; rfl) z.e ⟨hgl, rfl, .inl (by rw [z.mg]; exact k.se)⟩ L2.takes0 (fun W pn xe tk _ => tb W pn xe tk) (fun a0 oe cls dd pn hz hf => told_suite z k l1 l2 hz hf))
    (pss_one (ps_ret (pe_var (i := 1) (by rw [z.N]; rfl) (.inl z.found)))), ?_⟩
  rw [start]
  refine ⟨_, _, fun cls d σ' H' he => ?_, rfl, hc, h, fun v H' hq T hT => ⟨_, rfl, hq T hT⟩⟩
  obtain ⟨kk, hk3, hm, hd, hq⟩ := he
  refine ⟨true, ?_, fun _ a0 na => ⟨⟨σ', rfl⟩, kk, hk3, hm, hd, fun H'' T σ'' grow hT hTup hs => ⟨V.ref T, ?_, hq H'' T grow hT hTup⟩⟩, fun e => by cases e⟩
  · have := k.cl kk (by omega)
    rw [hm] at this
    cases this
    rw [z.K]
    exact k.ex kk hk3
  · rw [List.getElem?_set_ne (by decide)]
    exact hs
end DP

/-! ## DMatch -/
set_option Elab.async false
set_option linter.all false
set_option maxRecDepth 100000
set_option maxHeartbeats 1000000
set_option autoImplicit false
/-! Which text of the model an own term stands for; what the matching gives. -/
namespace DP
open PySem PySem.Spec L2

structure MC where
  N : List Str
  sc : Scope
  fnb : Str → Bool
  fns : Str → Bool
  excs : String → Bool
  lam : Bool
def visB (sc : Scope) (x : Str) : Bool := match sc.names.lookup x with
  | some .local => true
  | some .cell => true
  | some .free => true
  | _ => false
def glB (sc : Scope) (x : Str) : Bool := decide (sc.names.lookup x = some .globalImplicit)
def nameOk (x : Str) : Bool := decide (x ≠ "__debug__") && decide (x ≠ "__classdict__") && decide (x ≠ "__name__")
def noStar : Expr → Bool
  | .Starred _ _ => false
  | _ => true
def noSlice : Expr → Bool
  | .Slice _ _ _ _ => false
  | _ => true
def noSet : Expr → Bool
  | .Set _ _ _ => false
  | _ => true
/-- a test that is taken by its value -/
def plainT : Expr → Bool
  | .UnaryOp .Not _ _ => false
  | .BoolOp _ _ _ => false
  | .IfExp _ _ _ _ => false
  | .Compare _ _ _ _ => false
  | _ => true
def bltName : Blt → Str
  | .abs => "abs" | .len => "len" | .int => "int" | .str => "str" | .list => "list" | .tuple => "tuple" | .min => "min" | .max => "max" | .all => "all" | .any => "any" | .sorted => "sorted"
def nilB : DEs → Bool
  | .nil => true
  | _ => false
/-- a plain global name -/
def mGl (m : MC) (x : Str) (y : Str) : Bool := decide (x = y) && glB m.sc y && nameOk y
def mSlot (m : MC) (i : Nat) (x : Str) : Bool := decide (m.N[i]? = some x) && visB m.sc x && nameOk x
/-- a slot that is stored to -/
def mStore (m : MC) (i : Nat) (x : Str) : Bool := decide (m.N[i]? = some x) && (decide (m.sc.names.lookup x = some .local) || (decide (m.sc.names.lookup x = some .cell) && m.fnb x))
def mStores (m : MC) : List Nat → List Expr → Bool
  | [], [] => true
  | i :: is, .Name x _ :: es => mStore m i x && mStores m is es
  | _, _ => false
def mTg (m : MC) : Tg → Expr → Bool
  | .name i, .Name x _ => mStore m i x
  | .tup is, .Tuple es _ _ => mStores m is es
  | _, _ => false
def ownOf (m : MC) (tg : Tg) : List (Str × Nat) := (tgSlots tg).map fun i => (m.N.getD i "", i)
def blk (m : MC) (scope : Scope) : MC := ⟨m.N, relS scope m.sc, fun x => scope.names.lookup x == some .cell, m.fns, m.excs, false⟩
def one1 : DEs → Bool
  | .nil => true
  | .cons _ .nil => true
  | _ => false

/-- within a lambda's body -/
def lamM (m : MC) (scope : Scope) : MC := ⟨m.N, scope, fun _ => false, m.fns, m.excs, false⟩
def noPars : Arguments → Bool
  | ⟨[], [], none, [], [], none, []⟩ => true
  | _ => false
/-- names alone -/
def mVs (m : MC) : DEs → List Expr → Bool
  | .nil, [] => true
  | .cons (.var i) ps, .Name x _ :: es => mSlot m i x && mVs m ps es
  | _, _ => false
def lamOf : Expr → Option (Str × Arguments × Str × Expr × List Expr × Scope)
  | .Call (.Name y _) [.Lambda params (.Call (.Name z _) (e :: es) [] _) scope _] [] _ => some (y, params, z, e, es, scope)
  | _ => none
theorem lamOf_some {ex : Expr} {y z : Str} {params : Arguments} {e : Expr} {es : List Expr} {scope : Scope} (h : lamOf ex = some (y, params, z, e, es, scope)) : ∃ p pz p2 lpos pos, ex = .Call (.Name y p) [.Lambda params (.Call (.Name z pz) (e :: es) [] p2) scope lpos] [] pos := by
  unfold lamOf at h
  split at h
  · cases h; exact ⟨_, _, _, _, _, rfl⟩
  · cases h
def mTold (m : MC) (f : Str) (ps : DEs) (ex : Expr) : Bool := match lamOf ex with
  | some (y, params, z, e, es, scope) => m.lam && mGl m "_law_told" y && noPars params && LamX.lamSB m.sc scope && m.fns f && mGl (lamM m scope) f z && mVs (lamM m scope) ps (e :: es)
  | none => false
/-- an object whose method is asked: any expression but a call without arguments -/
def abOk : Expr → Bool
  | .Call _ [] [] _ => false
  | _ => true
def isM1 : Expr → Bool
  | .UnaryOp .USub (.Constant (.int 1) _ _) _ => true
  | _ => false
def isNon : DE → Bool
  | .non => true
  | _ => false
mutual
def mE (m : MC) : DE → Expr → Bool
  | .int i, .Constant (.int j) _ _ => decide (i = j)
  | .bl i, .Constant (.bool j) _ _ => decide (i = j)
  | .non, .Constant .none _ _ => true
  | .str i, .Constant (.str j) _ _ => decide (i = j) && PyData.strOk j
  | .var i, .Name x _ => mSlot m i x
  | .glob x, .Name y _ => mGl m x y
  | .tup ps, .Tuple es _ _ => mEs m ps es && decide (es.length ≤ 1000)
  | .lst ps, .List es _ => mEs m ps es && decide (es.length ≤ 1000)
  | .bin op a b, .BinOp x o y _ => decide (opOf op = o) && mE m a x && mE m b y
  | .neg a, .UnaryOp .USub x _ => mE m a x
  | .not a, .UnaryOp .Not x _ => mE m a x
  | .and ps, .BoolOp .And es _ => mEs m ps es
  | .or ps, .BoolOp .Or es _ => mEs m ps es
  | .cmp op a b, .Compare x [o] [y] _ => decide (copOf op = o) && mE m a x && mE m b y && !behindInMarks o y
  | .chain op op' a b c, .Compare x [o, o'] [y, z] _ => decide (copOf op = o) && decide (copOf op' = o') && mE m a x && mE m b y && mE m c z && !lastMarks [o, o'] [y, z]
  | .chain3 op op' op'' a b c d, .Compare x [o, o', o''] [y, z, w] _ => decide (copOf op = o) && decide (copOf op' = o') && decide (copOf op'' = o'') && mE m a x && mE m b y && mE m c z && mE m d w && !lastMarks [o, o', o''] [y, z, w]
  | .call f ps, .Call (.Name y _) (e :: es) [] _ => m.fns f && mGl m f y && mEs m ps (e :: es) && es.all noStar && noStar e
  | .blt f ps, .Call (.Name y _) (e :: es) [] _ => mGl m (bltName f) y && mEs m ps (e :: es) && es.all noStar && noStar e
  | .isi a t, .Call (.Name y _) [x, .Name z _] [] _ => mGl m "isinstance" y && mE m a x && noStar x && mGl m (tyName t) z
  | .idx a b, .Subscript x y _ => mE m a x && mE m b y && noSlice y
  | .slc a lo hi, .Subscript x (.Slice l h none _) _ => mE m a x && (match l with | none => isNon lo | some e => !isNon lo && mE m lo e) && (match h with | none => isNon hi | some e => !isNon hi && mE m hi e)
  | .rev a, .Subscript x (.Slice none none (some st) _) _ => mE m a x && isM1 st
  | .meth o mt ps, .Call (.Name x _) [.Call (.Name y _) [a, e] [] _] [] _ => decide (mt = "list.zip") && mGl m "list" x && mGl m "zip" y && mE m o a && mEs m ps [e] && noStar a && noStar e
  | .meth o mt ps, .Call (.Name x _) [.Call (.Name y _) [a] [] _] [] _ => decide (mt = "set.len") && mGl m "len" x && mGl m "set" y && mE m o a && nilB ps && noStar a
  | .meth o mt ps, .Call (.Attribute x a pa) (e :: es) [] pc => ((decide (mt = "list.index") && decide (a = "index")) || (decide (mt = "str.join") && decide (a = "join"))) && mE m o x && abOk x && (pa.endLine == pc.line) && mEs m ps (e :: es) && es.all noStar && noStar e && decide (es.length < 20)
  | .told f ps, e => mTold m f ps e
  | .comp elt tg it cs, .ListComp x [⟨t, i, ifs, 0⟩] scope _ => mIt m it i && mTg (blk m scope) tg t && mE (blk m scope) elt x && mEs (blk m scope) cs ifs && one1 cs && noSet i && blkC m.N m.sc scope (ownOf m tg)
  | _, _ => false
termination_by structural p => p
def mEs (m : MC) : DEs → List Expr → Bool
  | .nil, [] => true
  | .cons p ps, e :: es => mE m p e && noStar e && mEs m ps es
  | _, _ => false
termination_by structural p => p
def mIt (m : MC) : DI → Expr → Bool
  | .rng a, .Call (.Name y _) [x] [] _ => mGl m "range" y && mE m a x && noStar x
  | .rng2 a b, .Call (.Name y _) [x, z] [] _ => mGl m "range" y && mE m a x && mE m b z && noStar x && noStar z
  | .rev a, .Call (.Name y _) [x] [] _ => mGl m "reversed" y && mE m a x && noStar x
  | .plain a, x => mE m a x
  | _, _ => false
termination_by structural p => p
end
end DP

/-! ## DSnd -/
set_option Elab.async false
set_option linter.all false
set_option maxRecDepth 100000
set_option maxHeartbeats 2000000
set_option autoImplicit false
/-! What the evaluator says of an expression, the machine does. -/
namespace DP
open PySem PySem.Spec L2
variable [Tb]

/-! ### what the matching gives -/
section
variable {X : Cx} {m : MC}
theorem vis_of {sc : Scope} {x : Str} (h : visB sc x = true) : Vis sc x := by
  unfold visB at h
  unfold Vis
  split at h
  · exact .inl (by assumption)
  · exact .inr (.inl (by assumption))
  · exact .inr (.inr (by assumption))
  · cases h
theorem nm_dbg {x : Str} (h : nameOk x = true) : (x == ("__debug__" : Str)) = false := by
  unfold nameOk at h
  simp only [Bool.and_eq_true, decide_eq_true_eq] at h
  simpa using h.1.1
theorem nm_cd {x : Str} (h : nameOk x = true) : (x == ("__classdict__" : Str)) = false := by
  unfold nameOk at h
  simp only [Bool.and_eq_true, decide_eq_true_eq] at h
  simpa using h.1.2
theorem nm_nm {x : Str} (h : nameOk x = true) : x ≠ "__name__" := by
  unfold nameOk at h
  simp only [Bool.and_eq_true, decide_eq_true_eq] at h
  exact h.2
theorem star_cons {e : Expr} {es : List Expr} {env : Env} (h : noStar e = true) : starEach (e :: es) env = (false, eval e env) :: starEach es env := by
  cases e <;> first | rfl | cases h
theorem star_any {env : Env} {pos : Pos} : ∀ {es : List Expr}, es.all noStar = true → (backTo pos (starEach es env)).any (·.1) = false
  | [], _ => rfl
  | e :: es, h => by
    rw [List.all_cons, Bool.and_eq_true] at h
    rw [star_cons h.1]
    show (false || (backTo pos (starEach es env)).any (·.1)) = false
    rw [star_any h.2]
    rfl
theorem plainIx {b : Expr} (h : noSlice b = true) : PlainIx b := by
  intro o i
  cases b <;> first | rfl | cases h
theorem plainTest {e : Expr} {env : Env} (h : plainT e = true) (whole : Sem Value) : isTrue e env whole = (do let v ← whole; standAt e.pos; holding [v] (truthy v)) := by
  cases e <;> first
    | rfl
    | (cases h; done)
    | (rename_i op _ _; cases op <;> first | rfl | cases h)
theorem unfolded {e : Expr} {env : Env} (h : noSet e = true) (x : Value) : foldedSetIterable e env x = pure x := by
  cases e <;> first | rfl | cases h
end

/-- a def's promise by a function g on data -/
def SpD (K : PySem.W.Frag) (mg : Str → Option Value) (g : List PyData → Res PyData) : Sp := fun vs H Q E => ∃ F ds, St F H ∧ RpAll K F vs ds ∧ PostX K mg (fun c d _ h => E c d h) (fun F' _ v d => Rp K F' v d) [] F H Q (g ds)
def FnOkD (X : Cx) (f : Str) (g : List PyData → Res PyData) : Prop :=
  ∃ (k : Nat) (a : Addr) (fd : FuncData) (ps : List Str), FnOk X.prog X.w X.K X.mg X.base (L2.CX X.prog X.w) k a fd ps (SpD X.K X.mg g) ∧ Room k X.A ∧ X.mg f = some (.ref a) ∧ PySem.W.keepIn X.K (.ref a) = true ∧ Binds X.K fd ps []
def bltNames : List Str := ["abs", "len", "int", "str", "list", "tuple", "min", "max", "all", "any", "isinstance", "bool", "range", "reversed", "enumerate", "zip", "sorted", "set"]
/-- an exception class of the program's own, without an own __init__, below ValueError -/
def ExcOk (K : PySem.W.Frag) (mg : Str → Option Value) (c : String) : Prop := ∃ C : Addr, mg (Str.ofString c) = some (.ref C) ∧ PySem.W.excIn K C [.type "ValueError", .type "Exception", .type "BaseException", .type "object"] "ValueError.__new__" = true ∧
  PySem.W.keepIn K (.ref C) = true ∧ PySem.W.subIn K (.ref C) (.type "BaseException") = some true ∧ PySem.W.typeIn K (.ref C) = some (.type "type")
/-- what told asks of the def in which a lambda is handed to it -/
def LamOk (C : Ctx) (fns : Str → Bool) (X : Cx) : Prop := ∃ (g c P : Addr) (k : Nat) (pg : Arguments) (bg : List Stmt) (sg : Scope) (dV kV doc pm cdv ct oc : Value) (an od : Option Addr) (osl : Array (Option Value)) (Ng : List Str) (a : Str),
  X.mg "_law_told" = some (.ref g) ∧ PySem.W.keepIn X.K (.ref g) = true ∧ X.K.lookup g = some ⟨oc, od, .func (PySem.W.fnOf "_law_told" "_law_told" pg bg sg dV kV doc pm an cdv ct), osl⟩ ∧ PySem.W.codeIn X.K cdv "_law_told" = true ∧
  Binds X.K (PySem.W.fnOf "_law_told" "_law_told" pg bg sg dV kV doc pm an cdv ct) [a] [] ∧ FnScope Ng [a] sg ∧ Ng[0]? = some a ∧ Vis sg a ∧ nameOk a = true ∧ LamX.GivesTo X Ng "_law_told" sg g cdv bg a (X.env.qual ++ "<lambda>") (TTold X.mg) ∧
  LamX.TabB X.base X.mg c P ∧ X.env.code = .ref c ∧ (P, X.env.qual ++ "<lambda>") ∈ Tb.T ∧ (∀ p ∈ Tb.T, p.1 = P → p.2 = X.env.qual ++ "<lambda>") ∧ Room (k + 2) X.A ∧
  ∀ f, fns f = true → ∃ (a : Addr) (fd : FuncData) (ps : List Str), FnOk X.prog X.w X.K X.mg X.base (L2.CX X.prog X.w) k a fd ps (SpD X.K X.mg (C.call2 f)) ∧ X.mg f = some (.ref a) ∧ PySem.W.keepIn X.K (.ref a) = true ∧ Binds X.K fd ps []
structure XOk (C : Ctx) (W : WX) (m : MC) (X : Cx) : Prop where
  nm : X.N = m.N
  sc : X.env.scope = m.sc
  fn : X.fn = m.fnb
  nd : m.N.Nodup
  calm : X.calm = true
  units : X.A.units + 65 < cLine
  takes : Takes X W
  blt : ∀ x ∈ bltNames, X.mg x = none
  glob : ∀ x d, C.glob x = some d → ∃ u v, X.mg x = some u ∧ RelV v u ∧ Rp X.K (fun _ => none) v d
  fns : ∀ f, m.fns f = true → FnOkD X f (C.call f)
  excs : ∀ c, m.excs c = true → ExcOk X.K X.mg c
  lam : m.lam = true → (∃ f ds, C.call2 f ds ≠ .stuck) → LamOk C m.fns X

section
variable {C : Ctx} {W : WX} {m : MC} {X : Cx}
theorem PE.never {e : Expr} {t : TE} (h : ∀ σ H Q, ¬ t σ H Q) : PE X e t := ⟨fun _ _ σ H Q _ q => (h σ H Q q).elim⟩
theorem XOk.gl (o : XOk C W m X) {x y : Str} (h : mGl m x y = true) : x = y ∧ Gl X y ∧ nameOk y = true := by
  unfold mGl glB at h
  simp only [Bool.and_eq_true, decide_eq_true_eq] at h
  refine ⟨h.1.1, ?_, h.2⟩
  show X.env.scope.names.lookup y = _
  rw [o.sc]
  exact h.1.2
theorem XOk.slot (o : XOk C W m X) {i : Nat} {x : Str} (h : mSlot m i x = true) : X.N[i]? = some x ∧ Vis X.env.scope x ∧ nameOk x = true := by
  unfold mSlot at h
  simp only [Bool.and_eq_true, decide_eq_true_eq] at h
  rw [o.nm, o.sc]
  exact ⟨h.1.1, vis_of h.1.2, h.2⟩
theorem XOk.store (o : XOk C W m X) {i : Nat} {x : Str} (h : mStore m i x = true) : X.N[i]? = some x ∧ Loc X.env.scope x ∧ (X.fn x = true ∨ X.env.scope.names.lookup x = some .local) := by
  unfold mStore at h
  simp only [Bool.and_eq_true, Bool.or_eq_true, decide_eq_true_eq] at h
  rw [o.nm, o.sc, o.fn]
  rcases h.2 with h2 | ⟨h2, h3⟩
  · exact ⟨h.1, .inl h2, .inr h2⟩
  · exact ⟨h.1, .inr h2, .inl h3⟩
theorem XOk.ndX (o : XOk C W m X) : X.N.Nodup := by rw [o.nm]; exact o.nd
theorem XOk.noblt (o : XOk C W m X) {x : Str} (h : x ∈ bltNames) : X.mg x = none := o.blt x h
/-- in a comprehension's block -/
theorem XOk.blk (o : XOk C W m X) (s : Shared) (H : Hp) (scope : Scope) (Ca : Addr) (cl : List (Str × Addr)) (fp : List Addr) :
    XOk C (fun _ _ _ _ => False) (DP.blk m scope) (X.blk s H scope (compEnvC scope cl Ca X.env) fp) where
  nm := o.nm
  sc := by
    show relS scope X.env.scope = relS scope m.sc
    rw [o.sc]
  fn := rfl
  nd := o.nd
  calm := o.calm
  units := o.units
  takes := takes0
  blt := o.blt
  glob := o.glob
  fns := o.fns
  excs := o.excs
  lam := fun h => nomatch (show false = true from h)

/-! ### simple readings -/
theorem tv_const {f : Bool} {d : PyData} {v : V} (h : ∀ F : Hp, Rp X.K F v d) (n : ∀ ds, d ≠ .list ds) {σ : L2.St} {H : Hp} {Q : VK} (q : TV X W f (fun _ => .ok d) σ H Q) : tC v σ H Q := by
  obtain ⟨F, ρ, s, fr, p⟩ := q
  exact p v F H (Ext.refl s) (RR.of (h F) n)
theorem tv_var {i : Nat} {σ : L2.St} {H : Hp} {Q : VK} (q : TV X W false (fun ρ => match ρ.getD i .un with | .val d => .ok d | _ => .stuck) σ H Q) : tVar i σ H Q := by
  obtain ⟨F, ρ, s, fr, p⟩ := q
  dsimp only at p
  split at p
  · rename_i d e
    obtain ⟨v, h1, h2⟩ := fr.val e
    exact ⟨v, h1, p v F H (Ext.refl s) h2⟩
  · exact p.elim
theorem tb_var {i : Nat} {σ : L2.St} {H : Hp} {Q : VK} (q : TB X W (fun ρ => look ρ i) σ H Q) : tVar i σ H Q := by
  obtain ⟨F, ρ, s, fr, p⟩ := q
  dsimp only [look] at p
  split at p
  · rename_i d e
    obtain ⟨v, h1, h2⟩ := fr.val e
    exact ⟨v, h1, p v F H (Ext.refl s) (.inl h2)⟩
  · rename_i d e
    obtain ⟨v, h1, h2⟩ := fr.own e
    exact ⟨v, h1, p v F H (Ext.refl s) (.inr h2)⟩
  · exact p.elim
/-- an operand, from a value's rule -/
theorem brw_of {f : Bool} {p : DE} {e : Expr} (o : XOk C W m X) (hm : mE m p e = true) (h : PE X e (TV X W f (evalE C p))) : PE X e (TB X W (fun ρ => brw p ρ (evalE C p ρ))) := by
  cases p with
  | var i =>
    cases e <;> first | (simp only [mE] at hm; cases hm; done) | skip
    rename_i x pos
    simp only [mE] at hm
    obtain ⟨h1, h2, h3⟩ := o.slot hm
    exact PE.mono' (pe_var h1 h2 (nm_dbg h3) (nm_cd h3)) fun σ H Q q => tb_var q
  | _ => exact h.brw'
theorem rrBack {f : Bool} : ∀ (H0 H1 F' H' : Hp) (v : V) (d : PyData), Sub H0 H1 → RR X.K f H1 F' H' v d → RR X.K f H0 F' H' v d := fun _ _ _ _ _ _ s h => h.back s
theorem ttBack : ∀ (H0 H1 F' H' : Hp) (v : Bool) (d : Bool), Sub H0 H1 → (v = d) → (v = d) := fun _ _ _ _ _ _ _ h => h
/-- two operands and an operation -/
theorem bin_mono {f : Bool} {g : PyData → PyData → Res PyData} {ra rb : DEnv → Res PyData} {σ : L2.St} {H : Hp} {Q : VK} (hg : ∀ x y c d, g x y ≠ .exc c d)
    (q : TV X W f (fun ρ => (ra ρ).bind fun x => (rb ρ).bind fun y => g x y) σ H Q) : tOp (rD X.K f g) (TB X W ra) (TB X W rb) σ H Q := by
  obtain ⟨F, ρ, s, fr, p⟩ := q
  unfold tOp
  refine TX.bindF (R' := RR X.K f) rrBack s fr p fun x F1 H1 d1 e1 r1 _ f1 p1 => ?_
  refine TX.bindF (R' := RR X.K f) rrBack e1.fh f1 p1 fun y F2 H2 d2 e2 r2 _ f2 p2 => ?_
  cases z : g d1 d2 with
  | ok d => rw [z] at p2; exact ⟨F2, d1, d2, d, e2.fh, r1.ext e2, r2, z, p2⟩
  | exc c d => exact (hg _ _ _ _ z).elim
  | stuck => rw [z] at p2; exact p2.elim
theorem un_mono {f : Bool} {g : PyData → Res PyData} {ra : DEnv → Res PyData} {σ : L2.St} {H : Hp} {Q : VK} (hg : ∀ x c d, g x ≠ .exc c d)
    (q : TV X W f (fun ρ => (ra ρ).bind fun x => g x) σ H Q) : tUn (rD1 X.K f g) (TB X W ra) σ H Q := by
  obtain ⟨F, ρ, s, fr, p⟩ := q
  unfold tUn
  refine TX.bindF (R' := RR X.K f) rrBack s fr p fun x F1 H1 d1 e1 r1 _ f1 p1 => ?_
  cases z : g d1 with
  | ok d => rw [z] at p1; exact ⟨F1, d1, d, e1.fh, r1, z, p1⟩
  | exc c d => exact (hg _ _ _ z).elim
  | stuck => rw [z] at p1; exact p1.elim
/-- a test by its value -/
theorem tt_tv {f : Bool} {r : DEnv → Res PyData} {σ : L2.St} {H : Hp} {Q : Bool → Hp → Prop} (q : TTs X W (fun ρ => (r ρ).bind asB) σ H Q) : TV X W f r σ H (fun x H' => ∃ k, x = .bl k ∧ Q k H') := by
  obtain ⟨F, ρ, s, fr, p⟩ := q
  refine TX.bindF (R' := fun _ _ _ (b b' : Bool) => b = b') ttBack s fr p fun x F1 H1 d1 e1 r1 _ f1 p1 => ?_
  cases d1 with
  | bool b =>
    have : Rp X.K F1 x (.bool b) := by
      cases f with
      | false => exact r1
      | true => exact r1
    cases this
    exact ⟨b, rfl, p1 b F1 H1 (Ext.refl e1.fh) rfl⟩
  | _ => exact (show False from p1).elim
theorem add_noexc : ∀ x y c d, addD x y ≠ .exc c d := by
  intro x y c d h
  unfold addD at h
  split at h <;> (try split at h) <;> cases h
theorem sub_noexc : ∀ x y c d, subD x y ≠ .exc c d := by
  intro x y c d h
  unfold subD at h
  split at h <;> cases h
theorem mul_noexc : ∀ x y c d, mulD x y ≠ .exc c d := by
  intro x y c d h
  unfold mulD at h
  split at h <;> (try split at h) <;> cases h
theorem fdiv_noexc : ∀ x y c d, fdivD x y ≠ .exc c d := by
  intro x y c d h
  unfold fdivD at h
  split at h <;> (try split at h) <;> cases h
theorem mod_noexc : ∀ x y c d, modD x y ≠ .exc c d := by
  intro x y c d h
  unfold modD at h
  split at h <;> (try split at h) <;> cases h
theorem bin_noexc (op : BOp) : ∀ x y c d, binD op x y ≠ .exc c d := by
  cases op
  · exact add_noexc
  · exact sub_noexc
  · exact mul_noexc
  · exact fdiv_noexc
  · exact mod_noexc
theorem in_noexc : ∀ x y c d, inD x y ≠ .exc c d := by
  intro x y c d h
  unfold inD at h
  split at h <;> (try split at h) <;> cases h
theorem is_noexc : ∀ x y c d, isD x y ≠ .exc c d := by
  intro x y c d h
  unfold isD at h
  split at h <;> (try split at h) <;> cases h
theorem cmpB_noexc (op : COp) : ∀ x y c d, cmpB op x y ≠ .exc c d := by
  intro x y c d h
  cases op <;> simp only [cmpB] at h
  · split at h <;> cases h
  · split at h <;> cases h
  · unfold ltD at h; split at h <;> cases h
  · unfold leD at h; split at h <;> cases h
  · unfold gtD at h; split at h <;> cases h
  · unfold geD at h; split at h <;> cases h
  · exact in_noexc _ _ _ _ h
  · cases z : inD x y with
    | ok b => rw [z] at h; cases h
    | exc c d => exact in_noexc _ _ _ _ z
    | stuck => rw [z] at h; cases h
  · exact is_noexc _ _ _ _ h
  · cases z : isD x y with
    | ok b => rw [z] at h; cases h
    | exc c d => exact is_noexc _ _ _ _ z
    | stuck => rw [z] at h; cases h
theorem cmp_noexc (op : COp) : ∀ x y c d, cmpD op x y ≠ .exc c d := by
  intro x y c d h
  unfold cmpD at h
  cases z : cmpB op x y with
  | ok b => rw [z] at h; cases h
  | exc c d => exact cmpB_noexc op _ _ _ _ z
  | stuck => rw [z] at h; cases h
theorem idx_noexc : ∀ x y c d, idxD x y ≠ .exc c d := by
  intro x y c d h
  unfold idxD at h
  split at h <;> (try split at h) <;> (try split at h) <;> cases h
theorem neg_noexc : ∀ x c d, negD x ≠ .exc c d := by
  intro x c d h
  unfold negD at h
  split at h <;> cases h
theorem slc_noexc : ∀ x lo hi c d, slcD x lo hi ≠ .exc c d := by
  intro x lo hi c d h
  unfold slcD at h
  split at h <;> (try split at h) <;> cases h
theorem isi_noexc (t : Ty) : ∀ x c d, isiD t x ≠ .exc c d := by
  intro x c d h
  unfold isiD at h
  split at h <;> cases h
theorem blt_noexc (f : Blt) : ∀ x c d, bltD f x ≠ .exc c d := by
  intro x c d h
  cases f <;> simp only [bltD, absD, lenD, intD, strD, listD, tupleD, minD, maxD, allD, anyD, sortedD] at h <;> (split at h <;> (try split at h) <;> cases h)
/-- a chain -/
theorem chain_mono {op op' : COp} {ra rb rc : DEnv → Res PyData} {σ : L2.St} {H : Hp} {Q : VK}
    (q : TV X W false (fun ρ => (ra ρ).bind fun x => (rb ρ).bind fun y => (cmpB op x y).bind fun k => if k then (rc ρ).bind fun z => cmpD op' y z else .ok (.bool false)) σ H Q) :
    tChain (rD X.K false (cmpD op)) (rD X.K false (cmpD op')) (TB X W ra) (TB X W rb) (TB X W rc) σ H Q := by
  obtain ⟨F, ρ, s, fr, p⟩ := q
  unfold tChain
  refine TX.bindF (R' := RR X.K false) rrBack s fr p fun x F1 H1 d1 e1 r1 _ f1 p1 => ?_
  refine TX.bindF (R' := RR X.K false) rrBack e1.fh f1 p1 fun y F2 H2 d2 e2 r2 _ f2 p2 => ?_
  cases z : cmpB op d1 d2 with
  | exc c d => exact (cmpB_noexc _ _ _ _ _ z).elim
  | stuck => rw [z] at p2; exact p2.elim
  | ok k =>
    rw [z, Res.bind_ok] at p2
    refine ⟨F2, d1, d2, .bool k, e2.fh, r1.ext e2, r2, by unfold cmpD; rw [z]; rfl, fun v F3 H3 e3 r3 => ?_⟩
    cases (show Rp X.K F3 v (.bool k) from r3)
    refine ⟨k, rfl, ?_⟩
    have p3 : PostX X.K X.mg W (RR X.K false H3) σ F3 H3 Q (if k = true then (rc ρ).bind fun z => cmpD op' d2 z else .ok (.bool false)) := p2.mono e3 (fun v d F' H' _ q => q) fun _ _ q => q
    cases k with
    | false => exact iteF (p3 _ F3 H3 (Ext.refl e3.fh) (.bl false))
    | true =>
      refine iteT ?_
      refine TX.bindF (R' := RR X.K false) rrBack e3.fh (f2.ext e3) p3 fun w F4 H4 d4 e4 r4 _ f4 p4 => ?_
      cases z : cmpD op' d2 d4 with
      | ok d => rw [z] at p4; exact ⟨F4, d2, d4, d, e4.fh, (r2.ext e3).ext e4, r4, z, p4⟩
      | exc c d => exact (cmp_noexc _ _ _ _ _ z).elim
      | stuck => rw [z] at p4; exact p4.elim
end
end DP

/-! ## DSnd2 -/
set_option Elab.async false
set_option linter.all false
set_option maxRecDepth 100000
set_option maxHeartbeats 2000000
set_option autoImplicit false
namespace DP
open PySem PySem.Spec L2
variable [Tb]

/-! ### targets -/
def GDs : List Nat → TGs
  | [] => gNil
  | i :: is => gCons (gName i) (GDs is)
def GD (K : PySem.W.Frag) : Tg → TG
  | .name i => gName i
  | .tup is => gTup K is.length (GDs is)
section
variable {C : Ctx} {W : WX} {m : MC} {X : Cx}
theorem assignEach_name {x : Str} {pos : Pos} {es : List Expr} {env : Env} : assignEach (.Name x pos :: es) env = (false, assign (.Name x pos) env) :: assignEach es env := rfl
theorem snd_tgs (o : XOk C W m X) : ∀ (is : List Nat) (es : List Expr), mStores m is es = true → PGs X es (GDs is) ∧ (assignEach es X.env).length = is.length ∧ (assignEach es X.env).findIdx? (·.1) = none
  | [], [], _ => ⟨pgs_nil, rfl, rfl⟩
  | i :: is, e :: es, h => by
    cases e <;> first | (simp only [mStores] at h; cases h; done) | skip
    rename_i x pos
    simp only [mStores, Bool.and_eq_true] at h
    obtain ⟨h1, h2, h3⟩ := o.store h.1
    obtain ⟨a, b, c⟩ := snd_tgs o is es h.2
    refine ⟨pgs_cons (pg_name o.ndX h1 h2 h3) a (by rw [assignEach_name]; rfl), by rw [assignEach_name]; simp [b], ?_⟩
    rw [assignEach_name, List.findIdx?_cons]
    simp [c]
  | [], _ :: _, h => by simp only [mStores] at h; cases h
  | _ :: _, [], h => by simp only [mStores] at h; cases h
theorem snd_tg (o : XOk C W m X) {tg : Tg} {e : Expr} (h : mTg m tg e = true) : PG X e (GD X.K tg) := by
  cases tg with
  | name i =>
    cases e <;> first | (simp only [mTg] at h; cases h; done) | skip
    simp only [mTg] at h
    obtain ⟨h1, h2, h3⟩ := o.store h
    exact pg_name o.ndX h1 h2 h3
  | tup is =>
    cases e <;> first | (simp only [mTg] at h; cases h; done) | skip
    simp only [mTg] at h
    obtain ⟨a, b, c⟩ := snd_tgs o is _ h
    exact pg_tup o.calm a b c
end
section
variable {K : PySem.W.Frag} {F H : Hp} {σ : L2.St} {ρ : DEnv}
theorem gd_sets : ∀ {is : List Nat} {vs : List V} {ds : List PyData} {σ : L2.St} {ρ ρ' : DEnv} {Q : L2.St → Hp → Prop}, RpAll K F vs ds → Fr K σ F H ρ → setAll is ds ρ = .ok ρ' →
    (∀ σ', Fr K σ' F H ρ' → (∀ ws, (∀ i ∈ is, i ∈ ws) → wipe σ' ws = wipe σ ws) → Q σ' H) → GDs is vs σ H Q
  | [], vs, ds, σ, ρ, ρ', Q, r, f, e, q => by
    cases ds with
    | nil => cases r; simp only [setAll] at e; cases e; exact ⟨rfl, q σ f fun _ _ => rfl⟩
    | cons => simp only [setAll] at e; cases e
  | i :: is, vs, ds, σ, ρ, ρ', Q, r, f, e, q => by
    cases ds with
    | nil => simp only [setAll] at e; cases e
    | cons d ds =>
      cases r with
      | cons a b =>
        simp only [setAll] at e
        refine ⟨_, _, rfl, ?_⟩
        refine gd_sets b (f.setVal a) e fun σ' f' hw => q σ' f' fun ws hs => ?_
        rw [hw ws fun j hj => hs j (List.mem_cons_of_mem _ hj)]
        exact wipe_set (hs i List.mem_cons_self)
where
  wipe_set {i : Nat} {v : Option V} : ∀ {ws : List Nat} {σ : L2.St}, i ∈ ws → wipe (σ.set i v) ws = wipe σ ws
    | w :: ws, σ, h => by
      unfold wipe
      by_cases z : i ∈ ws
      · rw [wipe_set z]
      · rcases List.mem_cons.mp h with rfl | h
        · have : ∀ (ws : List Nat) (σ : L2.St), wipe (σ.set i v) ws = (wipe σ ws).set i ((wipe (σ.set i v) ws)[i]?.getD none) ∨ True := fun _ _ => .inr trivial
          exact wipe_set_same ws σ
        · exact absurd h z
  wipe_set_same {i : Nat} {v : Option V} : ∀ (ws : List Nat) (σ : L2.St), (wipe (σ.set i v) ws).set i none = (wipe σ ws).set i none
    | [], σ => by unfold wipe; rw [List.set_set]
    | w :: ws, σ => by
      unfold wipe
      by_cases z : w = i
      · subst z
        rw [List.set_set, List.set_set]
        exact wipe_set_same ws σ
      · rw [List.set_comm _ _ z, List.set_comm _ _ z, wipe_set_same ws σ]
theorem gd_set {tg : Tg} {v : V} {d : PyData} {ρ' : DEnv} {Q : L2.St → Hp → Prop} (s : Sub F H) (r : Rp K F v d) (f : Fr K σ F H ρ) (e : setTg tg d ρ = .ok ρ')
    (q : ∀ σ', Fr K σ' F H ρ' → wipe σ' (tgSlots tg) = wipe σ (tgSlots tg) → Q σ' H) : GD K tg v σ H Q := by
  cases tg with
  | name i =>
    simp only [setTg] at e
    cases e
    refine q _ (f.setVal r) ?_
    exact gd_sets.wipe_set (by simp [tgSlots])
  | tup is =>
    cases d <;> first | (simp only [setTg] at e; cases e; done) | skip
    rename_i ds
    simp only [setTg] at e
    cases r with
    | tup a z b =>
      rename_i ad vs
      have hl : vs.length = is.length := by
        rw [b.length]
        exact setAll_len e
      exact ⟨ad, vs, rfl, sub_t s a, hl, gd_sets b f e fun σ' f' hw => q σ' f' (hw _ fun _ h => h)⟩
where
  setAll_len : ∀ {is : List Nat} {ds : List PyData} {ρ ρ' : DEnv}, setAll is ds ρ = .ok ρ' → ds.length = is.length
    | [], [], _, _, _ => rfl
    | [], _ :: _, _, _, h => by simp only [setAll] at h; cases h
    | _ :: _, [], _, _, h => by simp only [setAll] at h; cases h
    | i :: is, d :: ds, _, _, h => by simp only [setAll] at h; simp [setAll_len h]
theorem Fr.wipe (f : Fr K σ F H ρ) : ∀ vs : List Nat, Fr K (L2.wipe σ vs) F H (wipeE ρ vs)
  | [] => f
  | v :: vs => by
    have ih := Fr.wipe f vs
    unfold L2.wipe wipeE
    refine ⟨by simp [ih.len], fun j sl q => ?_, fun j k d1 d2 w h1 h2 h3 h4 => ?_⟩
    · by_cases z : v = j
      · subst z
        have hi : v < (wipeE ρ vs).length := by
          have := (List.getElem?_eq_some_iff.mp q).1
          simpa using this
        rw [List.getElem?_set_self hi] at q
        cases q
        exact ⟨none, by rw [List.getElem?_set_self (by rw [ih.len]; exact hi)], trivial⟩
      · rw [List.getElem?_set_ne z] at q ⊢
        exact ih.at' j sl q
    · have ne : ∀ {l : Nat} {dd : PyData}, ((wipeE ρ vs).set v .un)[l]? = some (.own dd) → v ≠ l := fun {l dd} q z => by
        subst z
        have hi : v < (wipeE ρ vs).length := by
          have := (List.getElem?_eq_some_iff.mp q).1
          simpa using this
        rw [List.getElem?_set_self hi] at q; cases q
      have z1 := ne h1
      have z2 := ne h2
      rw [List.getElem?_set_ne z1] at h1 h3
      rw [List.getElem?_set_ne z2] at h2 h4
      exact ih.dis j k d1 d2 w h1 h2 h3 h4
end

/-! ### what is walked: J gives the data ds while B stands -/
def ItR (K : PySem.W.Frag) (B F : Hp) (J : It) (ds : List PyData) : Prop := ds.length ≤ sizeLine ∧ ∃ (G : Hp → Prop) (Y : Nat → Hp → V → Hp → Prop), Walk J ds.length G Y ∧ (∀ H, Sub B H → G H) ∧
  ∀ i H x H', i < ds.length → Sub F H → Y i H x H' → ∃ d, ds[i]? = some d ∧ ((H' = H ∧ Rp K F x d) ∨ ∃ T vs es, x = .ref T ∧ H T = none ∧ H' = upd H T (.tup vs) ∧ d = .tuple es ∧ vs.length ≤ sizeLine ∧ RpAll K F vs es)
section
variable {K : PySem.W.Frag} {F H B : Hp}
theorem itr_list {a : Addr} {vs : List V} {ds : List PyData} (h : ∀ H, Sub B H → SqL K H a vs) (z : vs.length ≤ sizeLine) (r : RpAll K F vs ds) : ItR K B F (Itl K a) ds := by
  refine ⟨by rw [← r.length]; exact z, _, _, by rw [← r.length]; exact walk_list, h, fun i H x H' hi _ y => ?_⟩
  obtain ⟨e, y⟩ := y
  obtain ⟨d, h1, h2⟩ := r.get' y
  exact ⟨d, h1, .inl ⟨e, h2⟩⟩
theorem itr_tup {a : Addr} {vs : List V} {ds : List PyData} (h : ∀ H, Sub B H → SqT K H a vs) (z : vs.length ≤ sizeLine) (r : RpAll K F vs ds) : ItR K B F (Itt K a) ds := by
  refine ⟨by rw [← r.length]; exact z, _, _, by rw [← r.length]; exact walk_tup, h, fun i H x H' hi _ y => ?_⟩
  obtain ⟨e, y⟩ := y
  obtain ⟨d, h1, h2⟩ := r.get' y
  exact ⟨d, h1, .inl ⟨e, h2⟩⟩
theorem itr_range {lo : Int} {n : Nat} (hn : n ≤ sizeLine) : ItR K B F (Itr lo n) (rangeD lo n) := by
  refine ⟨by simpa [rangeD] using hn, _, _, by simpa [rangeD] using walk_range, fun _ _ => trivial, fun i H x H' hi _ y => ?_⟩
  obtain ⟨e, y⟩ := y
  subst y
  have hi' : i < n := by simpa [rangeD] using hi
  refine ⟨.int (lo + (i : Nat)), ?_, .inl ⟨e, .int _⟩⟩
  simp [rangeD, hi']
theorem itr_str {z : Str} (hz : z.length ≤ sizeLine) (o : PyData.strOk z = true) : ItR K B F (Its z) (z.cps.toList.map fun c => .str ⟨#[c]⟩) := by
  refine ⟨by rw [List.length_map, Array.length_toList]; exact hz, _, _, by simpa using walk_str, fun _ _ => trivial, fun i H x H' hi _ y => ?_⟩
  obtain ⟨e, c, hc, hx⟩ := y
  subst hx
  refine ⟨.str ⟨#[c]⟩, by simp [hc], .inl ⟨e, .str _ ?_⟩⟩
  unfold PyData.strOk at *
  rw [Array.all_eq_true'] at o
  have := o c (Array.mem_of_getElem? hc)
  simpa using this
theorem itr_rev {a : Addr} {vs : List V} {ds : List PyData} (h : ∀ H, Sub B H → SqL K H a vs) (z : vs.length ≤ sizeLine) (r : RpAll K F vs ds) : ItR K B F (Itv K a vs.length) ds.reverse := by
  refine ⟨by rw [List.length_reverse, ← r.length]; exact z, _, _, by rw [List.length_reverse, ← r.length]; exact walk_rev, h, fun i H x H' hi _ y => ?_⟩
  obtain ⟨e, y⟩ := y
  obtain ⟨d, h1, h2⟩ := r.get' y
  rw [List.length_reverse] at hi
  refine ⟨d, ?_, .inl ⟨e, h2⟩⟩
  rw [List.getElem?_reverse hi, ← r.length]
  exact h1
end
end DP

/-! ## DSnd3 -/
set_option Elab.async false
set_option linter.all false
set_option maxRecDepth 100000
set_option maxHeartbeats 2000000
set_option autoImplicit false
namespace DP
open PySem PySem.Spec L2
variable [Tb]
section
variable {C : Ctx} {W : WX} {m : MC} {X : Cx} {tg : Expr}
/-- the reading of an iteration; B: what must stand -/
abbrev TIb (X : Cx) (W : WX) (r : DEnv → Res (List PyData)) : TI := TX X.K X.mg W (fun _ F H J ds => ItR X.K H F J ds) r
abbrev TIf (X : Cx) (W : WX) (r : DEnv → Res (List PyData)) : TI := TX X.K X.mg W (fun _ F _ J ds => ItR X.K F F J ds) r
theorem itBack : ∀ (H0 H1 F' H' : Hp) (v : It) (d : List PyData), Sub H0 H1 → ItR X.K H' F' v d → ItR X.K H' F' v d := fun _ _ _ _ _ _ _ h => h
theorem itBackF : ∀ (H0 H1 F' H' : Hp) (v : It) (d : List PyData), Sub H0 H1 → ItR X.K F' F' v d → ItR X.K F' F' v d := fun _ _ _ _ _ _ _ h => h
theorem sq_rd {K : PySem.W.Frag} {H H' : Hp} {a : Addr} {vs : List V} (h : H a = some (.lst vs)) (s : Sub H H') : SqL K H' a vs := SqL.of (s.get h)
/-- over a value: a list, a tuple, a text -/
theorem pi_plain {e : Expr} {r : DEnv → Res PyData} (h : PE X e (TB X W r)) : PI X tg e (TIb X W fun ρ => (r ρ).bind itemsD) := by
  refine ⟨fun pins s σ H R I q => ?_⟩
  obtain ⟨F, ρ, sF, f, p⟩ := q
  dsimp only at p
  cases z : r ρ with
  | stuck => rw [z] at p; exact p.elim
  | exc c d =>
    refine (pi_list h).run pins s σ H R I ⟨F, ρ, sF, f, ?_⟩
    rw [z] at p ⊢; exact p
  | ok d =>
    rw [z, Res.bind_ok] at p
    cases d with
    | list ds =>
      refine (pi_list h).run pins s σ H R I ⟨F, ρ, sF, f, ?_⟩
      rw [z]
      intro v F' H' ex rr
      obtain ⟨a, vs, rfl, hq, zz, r'⟩ := rr.lst ex.fh
      exact ⟨a, rfl, ⟨vs, SqL.of hq⟩, p _ F' H' ex (itr_list (fun H'' s'' => sq_rd hq s'') zz r')⟩
    | tuple ds =>
      refine (pi_tup h).run pins s σ H R I ⟨F, ρ, sF, f, ?_⟩
      rw [z]
      intro v F' H' ex rr
      obtain ⟨a, vs, rfl, hq, zz, r'⟩ := rr.tup
      exact ⟨a, rfl, ⟨vs, sub_t ex.fh hq⟩, p _ F' H' ex (itr_tup (fun H'' s'' => sub_t (ex.fh.trans s'') hq) zz r')⟩
    | str y =>
      dsimp only [itemsD] at p
      split at p
      · rename_i hl
        refine (pi_str h).run pins s σ H R I ⟨F, ρ, sF, f, ?_⟩
        rw [z]
        intro v F' H' ex rr
        obtain ⟨e1, o1⟩ := rr.str
        subst e1
        exact ⟨y, rfl, p _ F' H' ex (itr_str (lim_line hl) o1)⟩
      · exact p.elim
    | _ => exact (show False from p).elim
/-- .. where what is walked is fixed -/
theorem pi_plainF {e : Expr} {r : DEnv → Res PyData} (h : PE X e (TV X W false r)) : PI X tg e (TIf X W fun ρ => (r ρ).bind itemsD) := by
  refine ⟨fun pins s σ H R I q => ?_⟩
  obtain ⟨F, ρ, sF, f, p⟩ := q
  dsimp only at p
  cases z : r ρ with
  | stuck => rw [z] at p; exact p.elim
  | exc c d =>
    refine (pi_list h).run pins s σ H R I ⟨F, ρ, sF, f, ?_⟩
    rw [z] at p ⊢; exact p
  | ok d =>
    rw [z, Res.bind_ok] at p
    cases d with
    | list ds =>
      refine (pi_list h).run pins s σ H R I ⟨F, ρ, sF, f, ?_⟩
      rw [z]
      intro v F' H' ex rr
      cases rr with
      | lst hq zz r' => exact ⟨_, rfl, ⟨_, sq_rd hq ex.fh⟩, p _ F' H' ex (itr_list (fun H'' s'' => sq_rd hq s'') zz r')⟩
    | tuple ds =>
      refine (pi_tup h).run pins s σ H R I ⟨F, ρ, sF, f, ?_⟩
      rw [z]
      intro v F' H' ex rr
      cases rr with
      | tup hq zz r' => exact ⟨_, rfl, ⟨_, sub_t ex.fh hq⟩, p _ F' H' ex (itr_tup (fun H'' s'' => sub_t s'' hq) zz r')⟩
    | str y =>
      dsimp only [itemsD] at p
      split at p
      · rename_i hl
        refine (pi_str h).run pins s σ H R I ⟨F, ρ, sF, f, ?_⟩
        rw [z]
        intro v F' H' ex rr
        cases rr with
        | str _ o1 => exact ⟨y, rfl, p _ F' H' ex (itr_str (lim_line hl) o1)⟩
      · exact p.elim
    | _ => exact (show False from p).elim
/-- a list of one argument -/
theorem pa1 {e : Expr} {r : DEnv → Res PyData} (h : PE X e (TV X W false r)) (hs : noStar e = true) : PA X [e] (tCons (TV X W false r) tNil) := pa_cons h pa_nil (star_cons hs)
theorem pi_rng {e : Expr} {p pos : Pos} {r : DEnv → Res PyData} (hg : Gl X "range") (hm : X.mg "range" = none) (h : PE X e (TV X W false r)) (hs : noStar e = true) : PI X tg (.Call (.Name "range" p) [e] [] pos) (TIf X W fun ρ => (r ρ).bind rngD) := by
  refine ⟨fun pins s σ H R I q => ?_⟩
  refine (pi_range1 hg hm (pa1 h hs) (by rw [star_cons hs]; rfl)).run pins s σ H R I ?_
  obtain ⟨F, ρ, sF, f, p⟩ := q
  show TV X W false r σ H _
  refine TX.bindF (R' := fun _ F' H' J ds => ItR X.K F' F' J ds) itBackF sF f p fun x F1 H1 d1 e1 r1 _ f1 p1 => ?_
  cases d1 with
  | int n =>
    cases (show Rp X.K F1 x (.int n) from r1)
    simp only [rngD] at p1
    split at p1
    · rename_i hl
      exact ⟨n, rfl, hl.1, by omega, p1 _ F1 H1 (Ext.refl e1.fh) (itr_range (lim_line (by unfold LIM; omega)))⟩
    · exact p1.elim
  | _ => exact (show False from p1).elim
theorem pi_rng2 {a b : Expr} {p pos : Pos} {r r' : DEnv → Res PyData} (hg : Gl X "range") (hm : X.mg "range" = none) (h : PE X a (TV X W false r)) (h' : PE X b (TV X W false r')) (hs : noStar a = true) (hs' : noStar b = true) :
    PI X tg (.Call (.Name "range" p) [a, b] [] pos) (TIf X W fun ρ => (r ρ).bind fun x => (r' ρ).bind fun y => rng2D x y) := by
  refine ⟨fun pins s σ H R I q => ?_⟩
  have hpa : PA X [a, b] (tCons (TV X W false r) (tCons (TV X W false r') tNil)) := pa_cons h (pa_cons h' pa_nil (star_cons hs')) (star_cons hs)
  refine (pi_range2 hg hm hpa (by rw [star_cons hs, star_cons hs']; rfl) (by rw [star_cons hs']; rfl)).run pins s σ H R I ?_
  obtain ⟨F, ρ, sF, f, p⟩ := q
  show TV X W false r σ H _
  refine TX.bindF (R' := fun _ F' H' J ds => ItR X.K F' F' J ds) itBackF sF f p fun x F1 H1 d1 e1 r1 _ f1 p1 => ?_
  show TV X W false r' σ H1 _
  refine TX.bindF (R' := fun _ F' H' J ds => ItR X.K F' F' J ds) itBackF e1.fh f1 p1 fun y F2 H2 d2 e2 r2 _ f2 p2 => ?_
  unfold rng2D at p2
  split at p2
  · rename_i lo hi _ _
    cases (show Rp X.K F1 x (.int lo) from r1)
    cases (show Rp X.K F2 y (.int hi) from r2)
    split at p2
    · rename_i hl
      obtain ⟨l1, l2, l3, l4, l5⟩ := hl
      exact ⟨lo, hi, rfl, ⟨l1, l2, l3, l4⟩, p2 _ F2 H2 (Ext.refl e2.fh) (itr_range (n := (hi - lo).toNat) (lim_line (by unfold LIM; omega)))⟩
    · exact p2.elim
  · exact p2.elim
theorem itr_revT {K : PySem.W.Frag} {B F : Hp} {a : Addr} {vs : List V} {ds : List PyData} (h : ∀ H, Sub B H → SqT K H a vs) (z : vs.length ≤ sizeLine) (r : RpAll K F vs ds) : ItR K B F (RT.ItvT K a vs.length) ds.reverse := by
  refine ⟨by rw [List.length_reverse, ← r.length]; exact z, (fun H => SqT K H a vs), (fun i H x H' => H' = H ∧ vs[vs.length - 1 - i]? = some x), ?_, h, fun i H x H' hi _ y => ?_⟩
  · rw [List.length_reverse, ← r.length]
    exact ⟨fun i _ hi q => ⟨hi, vs, vs[vs.length - 1 - i]'(by omega), q, by simp [show vs.length - 1 - i < vs.length by omega]⟩, fun _ _ => Nat.le_refl _, fun _ _ _ _ _ q y => ⟨y.1, y.2 vs q⟩⟩
  obtain ⟨e, y⟩ := y
  obtain ⟨d, h1, h2⟩ := r.get' y
  rw [List.length_reverse] at hi
  refine ⟨d, ?_, .inl ⟨e, h2⟩⟩
  rw [List.getElem?_reverse hi, ← r.length]
  exact h1
theorem pi_rev {e : Expr} {p pos : Pos} {r : DEnv → Res PyData} (hg : Gl X "reversed") (hm : X.mg "reversed" = none) (h : PE X e (TB X W r)) (hs : noStar e = true) : PI X tg (.Call (.Name "reversed" p) [e] [] pos) (TIb X W fun ρ => (r ρ).bind revIt) := by
  refine ⟨fun pins s σ H R I q => ?_⟩
  refine (RT.pi_revA hg hm h (star_cons hs)).run pins s σ H R I ?_
  obtain ⟨F, ρ, sF, f, p⟩ := q
  show TB X W r σ H _
  refine TX.bindF (R' := fun _ F' H' J ds => ItR X.K H' F' J ds) itBack sF f p fun x F1 H1 d1 e1 r1 _ f1 p1 => ?_
  cases d1 with
  | list ds =>
    obtain ⟨a, vs, rfl, hq, zz, r'⟩ := r1.lst e1.fh
    exact ⟨a, vs, rfl, .inl ⟨SqL.of hq, p1 _ F1 H1 (Ext.refl e1.fh) (itr_rev (fun H'' s'' => sq_rd hq s'') zz r')⟩⟩
  | tuple ds =>
    obtain ⟨a, vs, rfl, hq, zz, r'⟩ := r1.tup
    exact ⟨a, vs, rfl, .inr ⟨sub_t e1.fh hq, p1 _ F1 H1 (Ext.refl e1.fh) (itr_revT (fun H'' s'' => sub_t (e1.fh.trans s'') hq) zz r')⟩⟩
  | _ => exact (show False from p1).elim
theorem pi_revF {e : Expr} {p pos : Pos} {r : DEnv → Res PyData} (hg : Gl X "reversed") (hm : X.mg "reversed" = none) (h : PE X e (TV X W false r)) (hs : noStar e = true) : PI X tg (.Call (.Name "reversed" p) [e] [] pos) (TIf X W fun ρ => (r ρ).bind revIt) := by
  refine ⟨fun pins s σ H R I q => ?_⟩
  refine (RT.pi_revA hg hm h (star_cons hs)).run pins s σ H R I ?_
  obtain ⟨F, ρ, sF, f, p⟩ := q
  show TV X W false r σ H _
  refine TX.bindF (R' := fun _ F' H' J ds => ItR X.K F' F' J ds) itBackF sF f p fun x F1 H1 d1 e1 r1 _ f1 p1 => ?_
  cases d1 with
  | list ds =>
    cases (show Rp X.K F1 x (.list ds) from r1) with
    | lst hq zz r' => exact ⟨_, _, rfl, .inl ⟨sq_rd hq e1.fh, p1 _ F1 H1 (Ext.refl e1.fh) (itr_rev (fun H'' s'' => sq_rd hq s'') zz r')⟩⟩
  | tuple ds =>
    cases (show Rp X.K F1 x (.tuple ds) from r1) with
    | tup hq zz r' => exact ⟨_, _, rfl, .inr ⟨sub_t e1.fh hq, p1 _ F1 H1 (Ext.refl e1.fh) (itr_revT (fun H'' s'' => sub_t s'' hq) zz r')⟩⟩
  | _ => exact (show False from p1).elim
end
end DP

/-! ## DSnd4 -/
set_option Elab.async false
set_option linter.all false
set_option maxRecDepth 100000
set_option maxHeartbeats 4000000
set_option autoImplicit false
namespace DP
open PySem PySem.Spec L2
variable [Tb]
section
variable {C : Ctx} {W : WX} {m : MC} {X : Cx} {tg : Expr}
abbrev W0 : WX := fun _ _ _ _ => False

/-! ### comprehensions -/
/-- the reading of a comprehension, from the parts' -/
theorem comp_mono {tgt : Tg} {ri : DEnv → Res (List PyData)} {rt : DEnv → Res Bool} {re : DEnv → Res PyData} {σ : L2.St} {H : Hp} {Q : VK}
    (q : TV X W true (fun ρ => (ri ρ).bind fun ds => (noExc (compLoop rt re tgt (wipeE ρ (tgSlots tgt)) ds)).bind fun rs => .ok (.list rs)) σ H Q) :
    tLc (TIb X W ri) (GD X.K tgt) (TTs X W0 rt) (TV X W0 false re) (tgSlots tgt) σ H Q := by
  obtain ⟨F, ρ, sF, fr, p⟩ := q
  unfold tLc
  refine TX.bindF (R' := RR X.K true) rrBack sF fr p fun J F1 H1 ds e1 hJ _ f1 p1 => ?_
  intro D hD
  obtain ⟨hz, G, Y, wk, hG, hY⟩ := hJ
  cases z : compLoop rt re tgt (wipeE ρ (tgSlots tgt)) ds with
  | stuck => rw [z] at p1; exact p1.elim
  | exc c d => rw [z] at p1; exact p1.elim
  | ok rs =>
    rw [z] at p1
    have p2 : ∀ v F' H', Ext F1 H1 F' H' → RR X.K true H1 F' H' v (.list rs) → Q v H' := p1
    have nD : Nn F1 D := e1.fh.free hD
    refine lc_it wk (fun i H' => ∃ F' acc done rest, Ext F1 H1 F' H' ∧ Nn F' D ∧ H' D = some (.lst acc) ∧ acc.length ≤ i ∧ RpAll X.K F' acc done ∧ compLoop rt re tgt (wipeE ρ (tgSlots tgt)) (ds.drop i) = .ok rest ∧ rs = done ++ rest) ?_ ?_ ?_ ?_
    · exact ⟨F1, [], [], rs, Ext.newOwn e1.fh hD, nD, upd_same, Nat.le_refl _, .nil, by simpa using z, rfl⟩
    · rintro i H' hi ⟨F', acc, done, rest, ex, n, ha, hl, r, c, e⟩
      exact hG H' ex.hh
    · rintro i x H' H'' hi ⟨F', acc, done, rest, ex, n, ha, hl, r, c, e⟩ hy
      obtain ⟨d, hd, hx⟩ := hY i H' x H'' hi (ex.ff.trans ex.fh) hy
      have hdrop : ds.drop i = d :: ds.drop (i + 1) := List.drop_eq_getElem?_toList_append.trans (by rw [hd]; rfl)
      rw [hdrop] at c
      simp only [compLoop] at c
      -- the heap behind the item
      obtain ⟨F2, e2, rx⟩ : ∃ F2, Ext F' H' F2 H'' ∧ Rp X.K F2 x d := by
        rcases hx with ⟨rfl, rx⟩ | ⟨T, vs, es, rfl, hT, rfl, rfl, zz, rr⟩
        · exact ⟨F', Ext.refl ex.fh, rx.sub ex.ff⟩
        · have ss : St F' H' := ex.fh
          exact ⟨_, Ext.new ss hT, .tup (.inl (.inl upd_same)) zz ((rr.sub ex.ff).sub (Sub.new (ss.free hT)))⟩
      have fw : Fr X.K (L2.wipe σ (tgSlots tgt)) F2 H'' (wipeE ρ (tgSlots tgt)) := ((f1.ext ex).ext e2).wipe _
      cases z1 : setTg tgt d (wipeE ρ (tgSlots tgt)) with
      | stuck => rw [z1] at c; cases c
      | exc c' d' => rw [z1] at c; cases c
      | ok ρ' =>
        rw [z1, Res.bind_ok] at c
        refine gd_set e2.fh rx fw z1 fun σ2 f2 hw => ⟨hw.trans (wipe_wipe _ _), ?_⟩
        cases z2 : rt ρ' with
        | stuck => rw [z2] at c; cases c
        | exc c' d' => rw [z2] at c; cases c
        | ok b =>
          rw [z2, Res.bind_ok] at c
          refine ⟨F2, ρ', e2.fh, f2, ?_⟩
          rw [z2]
          rintro b' F3 H3 e3 rfl
          have e03 := e2.trans e3
          have hD2 : H'' D = some (.lst acc) := e2.hh.get ha
          have n2 : Nn F2 D := fun o q => (e2.fr D o q).elim (fun q => n o q) fun q => (q.no ha).elim
          have n3 : Nn F3 D := fun o q => (e3.fr D o q).elim (fun q => n2 o q) fun q => (q.no hD2).elim
          cases b' with
          | false =>
            simp only [Bool.false_eq_true, if_false] at c ⊢
            exact ⟨F3, acc, done, rest, ex.trans e03, n3, e3.hh.get hD2, Nat.le_succ_of_le hl, r.sub e03.ff, c, e⟩
          | true =>
            simp only [if_true] at c ⊢
            cases z3 : re ρ' with
            | stuck => rw [z3] at c; cases c
            | exc c' d' => rw [z3] at c; cases c
            | ok y =>
              rw [z3, Res.bind_ok] at c
              cases z4 : compLoop rt re tgt (wipeE ρ (tgSlots tgt)) (ds.drop (i + 1)) with
              | stuck => rw [z4] at c; cases c
              | exc c' d' => rw [z4] at c; cases c
              | ok ys =>
                rw [z4, Res.bind_ok] at c
                cases c
                refine ⟨F3, ρ', e3.fh, f2.ext e3, ?_⟩
                rw [z3]
                intro yv F4 H4 e4 ry
                have hD3 : H3 D = some (.lst acc) := e3.hh.get hD2
                have hD4 : H4 D = some (.lst acc) := e4.hh.get hD3
                have n4 : Nn F4 D := fun o q => (e4.fr D o q).elim (fun q => n3 o q) fun q => (q.no hD3).elim
                have e14 : Ext F1 H1 F4 H4 := (ex.trans e03).trans e4
                refine ⟨acc, hD4, by omega, F4, acc ++ [yv], done ++ [y], ys, ?_, n4, upd_same, by rw [List.length_append, List.length_singleton]; omega, (r.sub (e03.trans e4).ff).append (.cons ry .nil), rfl, by rw [e]; simp⟩
                exact ⟨e14.ff, e14.fh.mut n4 hD4, e14.hh.mut (nn_of hD), e14.fr⟩
    · rintro H' ⟨F', acc, done, rest, ex, n, ha, hl, r, c, e⟩
      rw [List.drop_eq_nil_of_le (Nat.le_refl _)] at c
      simp only [compLoop] at c
      cases c
      rw [List.append_nil] at e
      subst e
      exact p2 (.ref D) F' H' ex ⟨⟨D, acc, rfl, n, ha, Nat.le_trans hl hz, r⟩, fun a e => by cases e; exact nn_of hD⟩
where
  wipe_wipe (σ : L2.St) : ∀ vs : List Nat, L2.wipe (L2.wipe σ vs) vs = L2.wipe σ vs := by
    have key : ∀ (us vs : List Nat), (∀ u ∈ us, u ∈ vs) → L2.wipe (L2.wipe σ vs) us = L2.wipe σ vs := by
      intro us
      induction us with
      | nil => intro vs _; rfl
      | cons u us ih =>
        intro vs h
        show (L2.wipe (L2.wipe σ vs) us).set u none = _
        rw [ih vs fun w hw => h w (List.mem_cons_of_mem _ hw)]
        exact set_wiped (h u List.mem_cons_self)
    exact fun vs => key vs vs fun _ h => h
  set_wiped {σ : L2.St} {u : Nat} : ∀ {vs : List Nat}, u ∈ vs → (L2.wipe σ vs).set u none = L2.wipe σ vs
    | v :: vs, h => by
      unfold L2.wipe
      by_cases z : v = u
      · subst z; rw [List.set_set]
      · rcases List.mem_cons.mp h with rfl | h
        · exact absurd rfl z
        · rw [List.set_comm _ _ z, set_wiped h]
end
end DP

/-! ## DSnd5 -/
set_option Elab.async false
set_option linter.all false
set_option maxRecDepth 100000
set_option maxHeartbeats 4000000
set_option autoImplicit false
namespace DP
open PySem PySem.Spec L2
variable [Tb]
section
variable {C : Ctx} {W : WX} {m : MC} {X : Cx} {tg : Expr}
/-- an expression's rule -/
abbrev SE (C : Ctx) (X : Cx) (W : WX) (p : DE) (e : Expr) : Prop := PE X e (TV X W (isFresh p) (evalE C p))
abbrev STst (C : Ctx) (X : Cx) (W : WX) (p : DE) (e : Expr) : Prop := PT X e (TTs X W (fun ρ => (evalE C p ρ).bind asB))

theorem tv_tup {r : DEnv → Res (List PyData)} {f : Bool} {n : Nat} (hn : n ≤ 1000) (hr : ∀ ρ ds, r ρ = .ok ds → ds.length = n) {σ : L2.St} {H : Hp} {Q : VK} (q : TV X W f (fun ρ => (r ρ).bind fun ds => .ok (.tuple ds)) σ H Q) : tTup (TAs X W r) σ H Q := by
  obtain ⟨F, ρ, s, fr, p⟩ := q
  unfold tTup
  refine TX.bindF (R' := RR X.K f) rrBack s fr p fun vs F1 H1 ds e1 r1 z f1 p1 => ?_
  have hl : vs.length ≤ sizeLine := by
    rw [r1.length, hr ρ ds z]
    exact Nat.le_trans hn (by decide)
  exact ⟨hl, fun a ha => rr_tup e1.fh ha r1 hl p1⟩
theorem tv_lst {r : DEnv → Res (List PyData)} {n : Nat} (hn : n ≤ 1000) (hr : ∀ ρ ds, r ρ = .ok ds → ds.length = n) {σ : L2.St} {H : Hp} {Q : VK} (q : TV X W true (fun ρ => (r ρ).bind fun ds => .ok (.list ds)) σ H Q) : tLst (TAs X W r) σ H Q := by
  obtain ⟨F, ρ, s, fr, p⟩ := q
  unfold tLst
  refine TX.bindF (R' := RR X.K true) rrBack s fr p fun vs F1 H1 ds e1 r1 z f1 p1 => ?_
  have hl : vs.length ≤ sizeLine := by
    rw [r1.length, hr ρ ds z]
    exact Nat.le_trans hn (by decide)
  exact ⟨hl, fun a ha => rr_lst e1.fh ha r1 hl p1⟩
theorem evalEs_len (C : Ctx) : ∀ (ps : DEs) (es : List Expr) (m : MC), mEs m ps es = true → ∀ ρ ds, evalEs C ps ρ = .ok ds → ds.length = es.length
  | .nil, [], _, _, ρ, ds, e => by simp only [evalEs] at e; cases e; rfl
  | .nil, _ :: _, _, h, _, _, _ => by simp only [mEs] at h; cases h
  | .cons _ _, [], _, h, _, _, _ => by simp only [mEs] at h; cases h
  | .cons p ps, e :: es, m, h, ρ, ds, q => by
    simp only [mEs, Bool.and_eq_true] at h
    simp only [evalEs] at q
    cases z : evalE C p ρ with
    | stuck => rw [z] at q; cases q
    | exc c d => rw [z] at q; cases q
    | ok d =>
      rw [z, Res.bind_ok] at q
      cases z2 : evalEs C ps ρ with
      | stuck => rw [z2] at q; cases q
      | exc c d => rw [z2] at q; cases q
      | ok ds' =>
        rw [z2, Res.bind_ok] at q
        cases q
        simp [evalEs_len C ps es m h.2 ρ ds' z2]
theorem asBack : ∀ (H0 H1 F' H' : Hp) (v : List V) (d : List PyData), Sub H0 H1 → RpAll X.K F' v d → RpAll X.K F' v d := fun _ _ _ _ _ _ _ h => h
theorem bsBack : ∀ (H0 H1 F' H' : Hp) (v : List V) (d : List PyData), Sub H0 H1 → RpAll1 X.K F' H' v d → RpAll1 X.K F' H' v d := fun _ _ _ _ _ _ _ h => h
theorem tas_cons {r : DEnv → Res PyData} {rs : DEnv → Res (List PyData)} {σ : L2.St} {H : Hp} {Q : List V → Hp → Prop} (q : TAs X W (fun ρ => (r ρ).bind fun d => (rs ρ).bind fun ds => .ok (d :: ds)) σ H Q) :
    tCons (TV X W false r) (TAs X W rs) σ H Q := by
  obtain ⟨F, ρ, s, fr, p⟩ := q
  unfold tCons
  refine TX.bindF (R' := fun _ F _ vs ds => RpAll X.K F vs ds) asBack s fr p fun x F1 H1 d1 e1 r1 _ f1 p1 => ?_
  refine TX.bindF (R' := fun _ F _ vs ds => RpAll X.K F vs ds) asBack e1.fh f1 p1 fun xs F2 H2 d2 e2 r2 _ f2 p2 => ?_
  exact p2 _ F2 H2 (Ext.refl e2.fh) (.cons (Rp.sub e2.ff r1) r2)
theorem tbs_cons {r : DEnv → Res PyData} {rs : DEnv → Res (List PyData)} {σ : L2.St} {H : Hp} {Q : List V → Hp → Prop} (q : TBs X W (fun ρ => (r ρ).bind fun d => (rs ρ).bind fun ds => .ok (d :: ds)) σ H Q) :
    tCons (TB X W r) (TBs X W rs) σ H Q := by
  obtain ⟨F, ρ, s, fr, p⟩ := q
  unfold tCons
  refine TX.bindF (R' := fun _ F H vs ds => RpAll1 X.K F H vs ds) bsBack s fr p fun x F1 H1 d1 e1 r1 _ f1 p1 => ?_
  refine TX.bindF (R' := fun _ F H vs ds => RpAll1 X.K F H vs ds) bsBack e1.fh f1 p1 fun xs F2 H2 d2 e2 r2 _ f2 p2 => ?_
  exact p2 _ F2 H2 (Ext.refl e2.fh) (.cons (r1.ext e2) r2)
theorem tas_nil {σ : L2.St} {H : Hp} {Q : List V → Hp → Prop} (q : TAs X W (fun _ => .ok []) σ H Q) : tNil σ H Q := by
  obtain ⟨F, ρ, s, fr, p⟩ := q
  exact p [] F H (Ext.refl s) .nil
theorem tbs_nil {σ : L2.St} {H : Hp} {Q : List V → Hp → Prop} (q : TBs X W (fun _ => .ok []) σ H Q) : tNil σ H Q := by
  obtain ⟨F, ρ, s, fr, p⟩ := q
  exact p [] F H (Ext.refl s) .nil
/-- a call of a def -/
theorem snd_call (o : XOk C W m X) {f : Str} {ps : DEs} {y : Str} {e : Expr} {es : List Expr} {p pos : Pos} (hn : m.fns f = true) (hf : mGl m f y = true) (hs : es.all noStar = true) (hs0 : noStar e = true) (ha : PA X (e :: es) (TAs X W (evalEs C ps))) :
    PE X (.Call (.Name y p) (e :: es) [] pos) (TV X W false (evalE C (.call f ps))) := by
  obtain ⟨e1, g, n⟩ := o.gl hf
  subst e1
  obtain ⟨k, a, fd, prs, Fn, hr, hm, hk, hb⟩ := o.fns f hn
  refine PE.mono' (pe_callS Fn hr g hm hk hb (fun σ => passAt o.takes σ) ha (nm_dbg n) (star_cons hs0) (star_any hs)) fun σ H Q q => ?_
  obtain ⟨F, ρ, s, fr, p⟩ := q
  simp only [evalE] at p
  unfold tCallS
  refine TX.bindF (R' := RR X.K false) rrBack s fr p fun vs F1 H1 ds ex r1 _ f1 p1 => ?_
  refine ⟨F1, ds, ex.fh, r1, ?_⟩
  cases z : C.call f ds with
  | ok d => rw [z] at p1; exact p1
  | exc c d => rw [z] at p1; exact p1
  | stuck => rw [z] at p1; exact p1
theorem vs_star {m : MC} : ∀ {ps : DEs} {es : List Expr}, mVs m ps es = true → es.all noStar = true
  | .nil, [], _ => rfl
  | .nil, _ :: _, h => by simp only [mVs] at h; cases h
  | .cons p ps, [], h => by cases p <;> (simp only [mVs] at h; cases h)
  | .cons p ps, e :: es, h => by
    cases p <;> first | (simp only [mVs] at h; cases h; done) | skip
    cases e <;> first | (simp only [mVs] at h; cases h; done) | skip
    simp only [mVs, Bool.and_eq_true] at h
    rw [List.all_cons, vs_star h.2]; rfl
theorem evalEs_vs (C C2 : Ctx) {m : MC} : ∀ {ps : DEs} {es : List Expr}, mVs m ps es = true → ∀ ρ, evalEs C2 ps ρ = evalEs C ps ρ
  | .nil, _, _, ρ => rfl
  | .cons p ps, [], h, ρ => by cases p <;> (simp only [mVs] at h; cases h)
  | .cons p ps, e :: es, h, ρ => by
    cases p <;> first | (simp only [mVs] at h; cases h; done) | skip
    cases e <;> first | (simp only [mVs] at h; cases h; done) | skip
    simp only [mVs, Bool.and_eq_true] at h
    simp only [evalEs, evalE, evalEs_vs C C2 h.2 ρ]
theorem vs_noexc (C : Ctx) {m : MC} : ∀ {ps : DEs} {es : List Expr}, mVs m ps es = true → ∀ ρ c d, evalEs C ps ρ ≠ .exc c d
  | .nil, _, _, ρ, c, d => fun h => by simp only [evalEs] at h; cases h
  | .cons p ps, [], h, ρ, c, d => by cases p <;> (simp only [mVs] at h; cases h)
  | .cons p ps, e :: es, h, ρ, c, d => fun q => by
    cases p <;> first | (simp only [mVs] at h; cases h; done) | skip
    cases e <;> first | (simp only [mVs] at h; cases h; done) | skip
    rename_i i x pos
    simp only [mVs, Bool.and_eq_true] at h
    simp only [evalEs, evalE] at q
    cases z : ρ.getD i .un with
    | un => rw [z] at q; cases q
    | own d' => rw [z] at q; cases q
    | val d' =>
      rw [z] at q
      simp only [Res.bind_ok] at q
      cases z2 : evalEs C ps ρ with
      | stuck => rw [z2] at q; cases q
      | exc c' d'' => exact vs_noexc C h.2 ρ c' d'' z2
      | ok ds => rw [z2] at q; cases q
theorem pa_vs (o : XOk C W m X) : ∀ {ps : DEs} {es : List Expr}, mVs m ps es = true → PA X es (TAs X W (evalEs C ps))
  | .nil, [], _ => PA.mono' pa_nil fun σ H Q q => tas_nil (by simp only [evalEs] at q; exact q)
  | .nil, _ :: _, h => by simp only [mVs] at h; cases h
  | .cons p ps, [], h => by cases p <;> (simp only [mVs] at h; cases h)
  | .cons p ps, e :: es, h => by
    cases p <;> first | (simp only [mVs] at h; cases h; done) | skip
    cases e <;> first | (simp only [mVs] at h; cases h; done) | skip
    rename_i i x pos
    simp only [mVs, Bool.and_eq_true] at h
    obtain ⟨h1, h2, h3⟩ := o.slot h.1
    have he : PE X (.Name x pos) (TV X W false (evalE C (.var i))) := PE.mono' (pe_var h1 h2 (nm_dbg h3) (nm_cd h3)) fun σ H Q q => tv_var (by simp only [evalE] at q; exact q)
    exact PA.mono' (pa_cons he (pa_vs o h.2) (star_cons rfl)) fun σ H Q q => tas_cons (by simp only [evalEs] at q; exact q)
theorem noPars_eq {a : Arguments} (h : noPars a = true) : a = ⟨[], [], none, [], [], none, []⟩ := by
  unfold noPars at h
  split at h
  · rfl
  · cases h
/-- a deed told -/
theorem snd_told (o : XOk C W m X) {f y z : Str} {ps : DEs} {params : Arguments} {e : Expr} {es : List Expr} {scope : Scope} {p pz p2 lpos pos : Pos} (hl : m.lam = true) (hy : mGl m "_law_told" y = true) (hp : noPars params = true) (hs : LamX.lamSB m.sc scope = true) (hf : m.fns f = true)
    (hz : mGl (lamM m scope) f z = true) (hv : mVs (lamM m scope) ps (e :: es) = true) :
    PE X (.Call (.Name y p) [.Lambda params (.Call (.Name z pz) (e :: es) [] p2) scope lpos] [] pos) (TV X W false (evalE C (.told f ps))) := by
  by_cases hc2 : ∃ f ds, C.call2 f ds ≠ .stuck
  case neg =>
    refine PE.never fun σ H Q q => ?_
    obtain ⟨F, ρ, s, fr, pp⟩ := q
    simp only [evalE] at pp
    cases zz : evalEs C ps ρ with
    | stuck => rw [zz] at pp; exact pp
    | exc c d => exact vs_noexc C hv ρ c d zz
    | ok ds =>
      rw [zz, Res.bind_ok] at pp
      have : C.call2 f ds = .stuck := Classical.byContradiction fun h => hc2 ⟨f, ds, h⟩
      rw [this] at pp
      exact pp
  obtain ⟨e1, gy, n⟩ := o.gl hy
  subst e1
  obtain ⟨g, c, P, k, pg, bg, sg, dV, kV, doc, pm, cdv, ct, oc, an, od, osl, Ng, a, hm, hk, lk, hcg, hb, Sg, hNg, hva, hna, hG, TB, hcode, hmT, hu, hr, hfn⟩ := o.lam hl hc2
  have hpar := noPars_eq hp
  subst hpar
  have hL : LamX.LamS X.env.scope scope := by rw [o.sc]; exact LamX.lamS_by hs
  let C2 : Ctx := { C with call := C.call2 }
  have hbody : ∀ (A : Around) (outer : List Env) (s : Shared) (H : Hp) (E : XK) (f0 c' : Addr), Room k (A.deeper (LamX.lamEnv X scope s.heap.objs.size f0 c')) →
      PE (LamX.lamCx X A outer s H E scope f0 c') (.Call (.Name z pz) (e :: es) [] p2) (TV X (fun cls dd _ H => E cls dd H) false (fun ρ => (evalEs C ps ρ).bind fun ds => C.call2 f ds)) := by
    intro A outer s H E f0 c' hr2
    have o2 : XOk C2 (fun cls dd _ H => E cls dd H) (lamM m scope) (LamX.lamCx X A outer s H E scope f0 c') :=
      { nm := o.nm, sc := rfl, fn := rfl, nd := o.nd, calm := rfl, units := by have h1 := hr2.un; have e0 : (LamX.lamCx X A outer s H E scope f0 c').A.units = (A.deeper (LamX.lamEnv X scope s.heap.objs.size f0 c')).units := rfl; rw [e0]; omega, takes := takes_of rfl rfl rfl rfl, blt := o.blt, glob := o.glob,
        fns := fun g hg => by obtain ⟨a', fd, prs, Fn, h1, h2, h3⟩ := hfn g hg; exact ⟨k, a', fd, prs, Fn, hr2, h1, h2, h3⟩, excs := o.excs, lam := fun h => nomatch (show false = true from h) }
    have hall := vs_star hv
    rw [List.all_cons, Bool.and_eq_true] at hall
    have key := snd_call o2 (p := pz) (pos := p2) hf hz hall.2 hall.1 (pa_vs o2 hv)
    refine PE.mono' key fun σ H Q q => ?_
    obtain ⟨F, ρ, s', fr, pp⟩ := q
    refine ⟨F, ρ, s', fr, ?_⟩
    simp only [evalE, evalEs_vs C C2 hv]
    exact pp
  refine PE.mono' (LamX.pe_lamcall (T := Tb.T) (TT := TTold X.mg) (t := fun E => TV X (fun cls dd _ H => E cls dd H) false (fun ρ => (evalEs C ps ρ).bind fun ds => C.call2 f ds)) gy hm hk lk hcg hb Sg hNg hva hG TB hcode hmT hu hr hL rfl (fun q cl pm cv ctv => rfl) hbody (nm_dbg n) (nm_dbg hna) (nm_cd hna)) fun σ H Q q => ?_
  obtain ⟨F, ρ, s, fr, pp⟩ := q
  simp only [evalE] at pp
  refine ⟨s.tb, fun H1 eN tb1 => ?_⟩
  have hh : Sub H H1 := fun b u e n => eN b u e fun qs z => by subst z; cases n
  have ex : Ext F H F H1 := ⟨Sub.refl F, ⟨s.sub.trans hh, tb1⟩, hh, fun _ _ e => .inl e⟩
  refine ⟨F, ρ, ex.fh, fr.ext ex, ?_⟩
  have p1 := pp.mono ex (R' := RR X.K false H1) (fun v d F' H' e q => q) fun _ _ q => q
  show PostX X.K X.mg _ (RR X.K false H1) σ F H1 _ ((evalEs C ps ρ).bind fun ds => C.call2 f ds)
  cases zz : ((evalEs C ps ρ).bind fun ds => C.call2 f ds) with
  | stuck => rw [zz] at p1; exact p1
  | ok d =>
    rw [zz] at p1
    intro v F' H' e' r
    intro T hT
    refine p1 (.ref T) _ _ (e'.trans (Ext.new e'.fh hT)) ?_
    have r' : Rp X.K F' v d := r
    exact (Rp.tup (.inl (.inl upd_same)) (by show 2 ≤ sizeLine; decide) (.cons (.str _ (by decide +kernel)) (.cons (r'.sub (Sub.new (e'.fh.free hT))) .nil)) : Rp X.K _ _ (.tuple [.str "told", d]))
  | exc c d =>
    rw [zz] at p1
    intro cls dd F' H' e' r
    cases d <;> first | (exact p1.elim) | skip
    have p2 : PostX X.K X.mg W (RR X.K false H1) σ F H1 Q (match excIx c with | some k => .ok (.tuple [.str "refused", .int k]) | none => .stuck) := p1
    obtain ⟨hcl, hdd⟩ := r
    cases hx : excIx c with
    | none => rw [hx] at p2; exact p2.elim
    | some kk =>
      rw [hx] at p2
      obtain ⟨j, hj, rfl, hn⟩ : ∃ j : Nat, j < 3 ∧ kk = (j : Int) ∧ exName j = Str.ofString c := by
        unfold excIx at hx
        split at hx
        · rename_i h; cases hx; exact ⟨0, by decide, rfl, by rw [h]; rfl⟩
        · split at hx
          · rename_i h; cases hx; exact ⟨1, by decide, rfl, by rw [h]; rfl⟩
          · split at hx
            · rename_i h; cases hx; exact ⟨2, by decide, rfl, by rw [h]; rfl⟩
            · cases hx
      refine ⟨j, hj, by rw [hn]; exact hcl, hdd, fun H'' T grow hT hTup => ?_⟩
      have ex2 : Ext F' H' (upd F' T (.tup [.str "refused", .int j])) H'' := by
        refine ⟨Sub.new (e'.fh.free hT), ⟨fun b u e n => ?_, e'.fh.tb.ext grow⟩, Sub.of grow, fun b u e => ?_⟩
        · by_cases q : b = T
          · subst q; rw [upd_same] at e; cases e; exact hTup
          · rw [upd_ne q] at e; exact grow b u (e'.fh.get e n)
        · by_cases q : b = T
          · subst q; exact .inr (nn_of hT)
          · rw [upd_ne q] at e; exact .inl e
      refine p2 (.ref T) _ _ (e'.trans ex2) ?_
      exact (Rp.tup (.inl (.inl upd_same)) (by show 2 ≤ sizeLine; decide) (.cons (.str _ (by decide +kernel)) (.cons (.int _) .nil)) : Rp X.K _ _ (.tuple [.str "refused", .int (j : Int)]))
theorem noblt_of (o : XOk C W m X) (f : Blt) : X.mg (bltName f) = none := o.blt _ (by cases f <;> decide)
/-- a call of a built-in -/
theorem snd_blt (o : XOk C W m X) {f : Blt} {ps : DEs} {y : Str} {e : Expr} {es : List Expr} {p pos : Pos} (hf : mGl m (bltName f) y = true) (hs : es.all noStar = true) (hs0 : noStar e = true) (ha : PA X (e :: es) (TBs X W (evalBs C ps))) :
    PE X (.Call (.Name y p) (e :: es) [] pos) (TV X W (bltF f) (evalE C (.blt f ps))) := by
  obtain ⟨e1, g, n⟩ := o.gl hf
  subst e1
  have hm := noblt_of o f
  have key : PE X (.Call (.Name (bltName f) p) (e :: es) [] pos) (tCB (rDs X.K (bltF f) (bltD f)) (TBs X W (evalBs C ps))) := by
    have hc := call_bltD o.calm o.units f
    cases f
    · exact pe_callB hc g hm (by decide +kernel) ha (nm_nm n) (nm_dbg n) (star_cons hs0) (star_any hs)
    · exact pe_callB hc g hm (by decide +kernel) ha (nm_nm n) (nm_dbg n) (star_cons hs0) (star_any hs)
    · exact pe_callTy hc g hm (by decide +kernel) ha (nm_nm n) (nm_dbg n) (star_cons hs0) (star_any hs)
    · exact pe_callTy hc g hm (by decide +kernel) ha (nm_nm n) (nm_dbg n) (star_cons hs0) (star_any hs)
    · exact pe_callTy hc g hm (by decide +kernel) ha (nm_nm n) (nm_dbg n) (star_cons hs0) (star_any hs)
    · exact pe_callTy hc g hm (by decide +kernel) ha (nm_nm n) (nm_dbg n) (star_cons hs0) (star_any hs)
    · exact pe_callB hc g hm (by decide +kernel) ha (nm_nm n) (nm_dbg n) (star_cons hs0) (star_any hs)
    · exact pe_callB hc g hm (by decide +kernel) ha (nm_nm n) (nm_dbg n) (star_cons hs0) (star_any hs)
    · exact pe_callB hc g hm (by decide +kernel) ha (nm_nm n) (nm_dbg n) (star_cons hs0) (star_any hs)
    · exact pe_callB hc g hm (by decide +kernel) ha (nm_nm n) (nm_dbg n) (star_cons hs0) (star_any hs)
    · exact pe_callB hc g hm (by decide +kernel) ha (nm_nm n) (nm_dbg n) (star_cons hs0) (star_any hs)
  refine PE.mono' key fun σ H Q q => ?_
  obtain ⟨F, ρ, s, fr, p⟩ := q
  simp only [evalE] at p
  unfold tCB
  refine TX.bindF (R' := RR X.K (bltF f)) rrBack s fr p fun vs F1 H1 ds ex r1 _ f1 p1 => ?_
  cases z : bltD f ds with
  | ok d => rw [z] at p1; exact ⟨F1, ds, d, ex.fh, r1, z, p1⟩
  | exc c d => exact (blt_noexc _ _ _ _ z).elim
  | stuck => rw [z] at p1; exact p1.elim
/-- isinstance -/
theorem snd_isi (o : XOk C W m X) {a : DE} {t : Ty} {y z : Str} {x : Expr} {p p2 pos : Pos} (hf : mGl m "isinstance" y = true) (hz : mGl m (tyName t) z = true) (hs : noStar x = true) (ha : PE X x (TB X W fun ρ => brw a ρ (evalE C a ρ))) :
    PE X (.Call (.Name y p) [x, .Name z p2] [] pos) (TV X W false (evalE C (.isi a t))) := by
  obtain ⟨e1, g, n⟩ := o.gl hf
  obtain ⟨e2, g2, n2⟩ := o.gl hz
  subst e1; subst e2
  have hty : PE X (.Name (tyName t) p2) (tC (.ty (tyName t))) := by
    have hmt : X.mg (tyName t) = none := o.blt _ (by cases t <;> decide)
    cases t
    · exact pe_bltn (u := .type "int") g2 hmt (by decide +kernel) rfl (nm_nm n2) (nm_dbg n2)
    · exact pe_bltn (u := .type "bool") g2 hmt (by decide +kernel) rfl (nm_nm n2) (nm_dbg n2)
    · exact pe_bltn (u := .type "str") g2 hmt (by decide +kernel) rfl (nm_nm n2) (nm_dbg n2)
    · exact pe_bltn (u := .type "tuple") g2 hmt (by decide +kernel) rfl (nm_nm n2) (nm_dbg n2)
    · exact pe_bltn (u := .type "list") g2 hmt (by decide +kernel) rfl (nm_nm n2) (nm_dbg n2)
  have hpa : PA X [x, .Name (tyName t) p2] (tCons (TB X W fun ρ => brw a ρ (evalE C a ρ)) (tCons (tC (.ty (tyName t))) tNil)) := pa_cons ha (pa_cons hty pa_nil) (star_cons hs)
  refine PE.mono' (pe_callB (call_isiD t) g (o.blt _ (by decide)) (by decide +kernel) hpa (nm_nm n) (nm_dbg n) (star_cons hs) (by rw [star_cons (by rfl)]; rfl)) fun σ H Q q => ?_
  obtain ⟨F, ρ, s, fr, p⟩ := q
  simp only [evalE] at p
  show TB X W (fun ρ => brw a ρ (evalE C a ρ)) σ H _
  refine TX.bindF (R' := RR X.K false) rrBack s fr p fun v F1 H1 d ex r1 _ f1 p1 => ?_
  cases z : isiD t d with
  | ok b => rw [z] at p1; exact ⟨F1, v, d, b, rfl, ex.fh, r1, z, p1 _ F1 H1 (Ext.refl ex.fh) (.bl b)⟩
  | exc c d => exact (isi_noexc _ _ _ _ z).elim
  | stuck => rw [z] at p1; exact p1.elim
/-- a slice's parts -/
theorem po_part {W : WX} {p : DE} {l : Option Expr} (h : (match l with | none => isNon p | some e => !isNon p && mE m p e) = true) (hp : ∀ e, l = some e → mE m p e = true → PE X e (TV X W (isFresh p) (evalE C p))) :
    PO X l (TX X.K X.mg W (fun _ _ _ (i j : Option Int) => i = j) fun ρ => partD p (evalE C p ρ)) := by
  cases l with
  | none =>
    refine ⟨fun pins s σ H Q I q => po_none.run pins s σ H Q I ?_⟩
    obtain ⟨F, ρ, sF, f, p1⟩ := q
    cases p <;> first | (cases h; done) | skip
    exact p1 none F H (Ext.refl sF) rfl
  | some e =>
    rw [Bool.and_eq_true] at h
    refine ⟨fun pins s σ H Q I q => (po_some (hp e rfl h.2).fix).run pins s σ H Q I ?_⟩
    obtain ⟨F, ρ, sF, f, p1⟩ := q
    have p2 : PostX X.K X.mg W (fun _ _ (i j : Option Int) => i = j) σ F H Q ((evalE C p ρ).bind fun d => match d with | .int i => .ok (some i) | _ => .stuck) := by
      cases p <;> first | exact p1 | (cases h.1)
    unfold tPart
    refine TX.bindF (R' := fun _ _ _ (i j : Option Int) => i = j) (fun _ _ _ _ _ _ _ h => h) sF f p2 fun x F1 H1 d e1 r1 _ f1 p3 => ?_
    cases d with
    | int i =>
      cases (show Rp X.K F1 x (.int i) from r1)
      exact ⟨i, rfl, p3 _ F1 H1 (Ext.refl e1.fh) rfl⟩
    | _ => exact (show False from p3).elim
theorem slc_mono {ra : DEnv → Res PyData} {rl rh : DEnv → Res (Option Int)} {σ : L2.St} {H : Hp} {Q : VK} (q : TV X W true (fun ρ => (ra ρ).bind fun x => (rl ρ).bind fun l => (rh ρ).bind fun h => slcD x l h) σ H Q) :
    tSl (rSlD X.K) (TB X W ra) (TX X.K X.mg W (fun _ _ _ (i j : Option Int) => i = j) rl) (TX X.K X.mg W (fun _ _ _ (i j : Option Int) => i = j) rh) σ H Q := by
  obtain ⟨F, ρ, s, fr, p⟩ := q
  unfold tSl
  refine TX.bindF (R' := RR X.K true) rrBack s fr p fun x F1 H1 d1 e1 r1 _ f1 p1 => ?_
  refine TX.bindF (R' := RR X.K true) rrBack e1.fh f1 p1 fun l F2 H2 l' e2 r2 _ f2 p2 => ?_
  subst r2
  refine TX.bindF (R' := RR X.K true) rrBack e2.fh f2 p2 fun h F3 H3 h' e3 r3 _ f3 p3 => ?_
  subst r3
  cases z : slcD d1 l h with
  | ok d => rw [z] at p3; exact ⟨F3, d1, d, e3.fh, (r1.ext e2).ext e3, z, p3⟩
  | exc c d => exact (slc_noexc _ _ _ _ _ z).elim
  | stuck => rw [z] at p3; exact p3.elim
end
end DP

/-! ## DNew -/
set_option Elab.async false
set_option linter.all false
set_option maxRecDepth 100000
set_option maxHeartbeats 4000000
set_option autoImplicit false
/-! x[::-1] of a list or a tuple; x.index(y); x.join(y). -/
namespace HT
open PySem PySem.Spec PyProof.Rows L2

section
variable {prog : Program} {w : World} {A : Around} {E : Value → Shared → Prop} {s : Shared}
theorem adjust_rev (n : Nat) : Builtin.Slice.sliceAdjust none none (-1) (n : Int) = ((n : Int) - 1, -1) := by
  unfold Builtin.Slice.sliceAdjust
  rfl
theorem places_rev (n : Nat) : Builtin.Slice.slicePlaces ((n : Int) - 1) (-1) (-1) = n := by
  unfold Builtin.Slice.slicePlaces
  have h1 : ¬ ((-1 : Int) > 0) := by omega
  simp only [h1, if_false]
  have e : (- -1 : Int) = 1 := by decide
  simp only [e, Int.ediv_one]
  split <;> omega
theorem sliceApplied_rev {sl : Addr} {vl vu vs : Value} {n : Nat} {Q : Int × Int × Nat → Shared → Prop} (hs : s.heap.IsSliceOf sl vl vu vs) (pl : IsPart vl none) (pu : IsPart vu none) (ps : IsPart vs (some (-1)))
    (h : Q ((n : Int) - 1, -1, n) s) : wpAny (model prog w) A (Builtin.Slice.sliceApplied (.ref sl) (pure (n : Int))) Q E s := by
  obtain ⟨os, hos, hcs, hds⟩ := id hs
  unfold Builtin.Slice.sliceApplied Builtin.Slice.sliceFields
  refine wpAny_bind (wpAny_bind (wpAny_field hos hds (x := vl) rfl (wpAny_bind (wpAny_field hos hds (x := vu) rfl (wpAny_bind (wpAny_field hos hds (x := vs) rfl (wpAny_pure ?_)))))))
  refine wpAny_bind (slicePart_ ps ?_)
  show wpAny _ _ (if ((-1 : Int) == 0) = true then _ else _) _ _ s
  rw [if_neg (by decide)]
  refine wpAny_bind (slicePart_ pl (wpAny_bind (slicePart_ pu (wpAny_bind (wpAny_pure ?_)))))
  show wpAny _ _ (match Builtin.Slice.sliceAdjust none none (-1) (n : Int) with | (lo, hi) => pure (lo, (-1 : Int), Builtin.Slice.slicePlaces lo hi (-1))) _ _ s
  rw [adjust_rev n]
  show wpAny _ _ (pure ((n : Int) - 1, (-1 : Int), Builtin.Slice.slicePlaces ((n : Int) - 1) (-1) (-1))) _ _ s
  rw [places_rev]
  exact wpAny_pure h
theorem pick_rev (xs : Array Value) : ((List.range xs.size).filterMap fun (m : Nat) => xs[((xs.size : Int) - 1 + (m : Int) * -1).toNat]?).toArray = xs.toList.reverse.toArray := by
  have e : ∀ m ∈ List.range xs.size, (fun (m : Nat) => xs[((xs.size : Int) - 1 + (m : Int) * -1).toNat]?) m = (fun m => xs[xs.size - 1 - m]?) m := by
    intro m hm
    have := List.mem_range.mp hm
    have : ((xs.size : Int) - 1 + (m : Int) * -1).toNat = xs.size - 1 - m := by omega
    simp only [this]
  have e2 : (List.range xs.size).filterMap (fun (m : Nat) => xs[((xs.size : Int) - 1 + (m : Int) * -1).toNat]?) = ((List.range xs.size).map (fun k => xs.size - 1 - k)).filterMap (xs[·]?) := by
    rw [List.filterMap_map]
    have key : ∀ l : List Nat, (∀ m ∈ l, (fun (m : Nat) => xs[((xs.size : Int) - 1 + (m : Int) * -1).toNat]?) m = (fun m => xs[xs.size - 1 - m]?) m) → l.filterMap (fun (m : Nat) => xs[((xs.size : Int) - 1 + (m : Int) * -1).toNat]?) = l.filterMap ((fun x => xs[x]?) ∘ fun k => xs.size - 1 - k) := by
      intro l
      induction l with
      | nil => intro _; rfl
      | cons a l ih =>
        intro h
        rw [List.filterMap_cons, List.filterMap_cons, ih fun m hm => h m (List.mem_cons_of_mem _ hm)]
        have := h a List.mem_cons_self
        simp only at this
        rw [this]; rfl
    exact key _ e
  rw [e2, PySem.W.krv_range, List.filterMap_reverse, PySem.W.krv_all]
theorem getItem_tuple_rev {t sl : Addr} {items : Array Value} {vl vu vs : Value} {Q : Value → Shared → Prop} (ht : IsTup s.heap t items) (hs : s.heap.IsSliceOf sl vl vu vs) (pl : IsPart vl none) (pu : IsPart vu none) (ps : IsPart vs (some (-1)))
    (h : Q (.ref s.heap.objs.size) { s with heap := s.heap.push { cls := .type "tuple", data := .seq items.toList.reverse.toArray } })
    (hsz : items.size ≤ sizeLine) : wpAny (model prog w) A (getItem (.ref t) (.ref sl)) Q E s := by
  have htake : sizeOk (.seq items.toList.reverse.toArray) := by
    show items.toList.reverse.toArray.size ≤ sizeLine
    rw [List.size_toArray, List.length_reverse, Array.length_toList]
    exact hsz
  obtain ⟨os, hos, hcs, hds⟩ := id hs
  have hTs : s.TypeIs (.ref sl) "slice" := ⟨os, hos, hcs⟩
  unfold getItem
  try with_reducible refine wpAny_holding ?_
  first | refine wpAny_bind (wpAny_pure ?_) | skip
  refine wpAny_bind (wpAny_sequenceKey ht.typeIs (by decide) ?_)
  refine wpAny_bind (wpAny_callSpecial?_slot (name := Str.ofString "__getitem__") ht.typeIs PyProof.Rows.slot_tuple_getitem
    (wpAny_call_entry PyProof.Rows.slot_tuple_getitem ht.typeIs entry_tuple_getitem ?_ (args_tuple_getitem _ _)))
  show wpAny _ _ (Builtin.Tuple.tupleItemsOf (.ref t) >>= _) _ _ s
  refine wpAny_bind (tupleItemsOf_ ht ?_)
  refine wpAny_bind (wpAny_typeOf hTs ?_)
  rw [if_pos (by decide)]
  refine wpAny_bind (sliceApplied_rev hs pl pu ps ?_)
  have hno : ¬ ((((items.size : Nat) : Int) - 1 == 0 && (-1 : Int) == 1 && items.size == items.size) = true) := by
    intro q
    rw [Bool.and_eq_true, Bool.and_eq_true] at q
    exact absurd (eq_of_beq q.1.2) (by decide)
  show wpAny _ _ (if (((items.size : Nat) : Int) - 1 == 0 && (-1 : Int) == 1 && items.size == items.size) = true then _ else _) _ _ s
  rw [if_neg hno, pick_rev]
  first
    | exact wpAny_bind (m := Builtin.Tuple.tupleExact _) (wpAny_newObj_type (wpAny_pure ⟨_, rfl, wpAny_pure h⟩) htake)
    | exact wpAny_bind (m := Builtin.Tuple.tupleExact _) (wpAny_newObj_type (wpAny_bind (wpAny_pure (wpAny_pure ⟨_, rfl, wpAny_pure h⟩))) htake)
    | exact wpAny_bind (wpAny_bind (m := Builtin.Tuple.tupleExact _) (wpAny_newObj_type (wpAny_pure (wpAny_pure ⟨_, rfl, wpAny_pure h⟩)) htake))
    | exact wpAny_bind (wpAny_bind (m := Builtin.Tuple.tupleExact _) (wpAny_newObj_type (wpAny_pure ⟨_, rfl, wpAny_pure h⟩) htake))
end
end HT
namespace DP
open PySem PySem.Spec L2 PyProof.Rows
variable [Tb]
def tRevA (K : PySem.W.Frag) (te : TE) : TE := fun σ H Q => te σ H fun x H1 => ∃ a xs, x = .ref a ∧ ((SqL K H1 a xs ∧ ∀ p, H1 p = none → Q (.ref p) (upd H1 p (.lst xs.reverse))) ∨ (SqT K H1 a xs ∧ ∀ p, H1 p = none → Q (.ref p) (upd H1 p (.tup xs.reverse))))
section
variable {X : Cx}
theorem pe_revA {e : Expr} {te : TE} {k : Nat} {p1 p2 p3 pos : Pos} (he : PE X e te) : PE X (.Subscript e (.Slice none none (some (.UnaryOp .USub (.Constant (.int 1) k p1) p2)) p3) pos) (tRevA X.K te) := by
  refine ⟨fun pins s σ H Q I h => ?_⟩
  refine Subscript_ (thn (he.run pins s σ H _ I h) fun v s1 ⟨x, H1, I1, r1, q1⟩ => ?_)
  obtain ⟨a, xs, ex, hq⟩ := q1
  subst ex
  cases r1
  have hst : PO X (some (.UnaryOp .USub (.Constant (.int 1) k p1) p2)) (tPart (tUn (rU fun i => .int (-i)) (tC (.int 1)))) := po_some (pe_un un_neg pe_int)
  refine wpAny_Slice (thn (po_none.run pins s1 σ H1 (fun o H2 => o = none ∧ H2 = H1) I1 ⟨rfl, rfl⟩) fun vl s2 ⟨l, H2, I2, pl, el, e2⟩ => ?_)
  subst el e2
  refine thn (po_none.run pins s2 σ H2 (fun o H3 => o = none ∧ H3 = H2) I2 ⟨rfl, rfl⟩) fun vu s3 ⟨u, H3, I3, pu, eu, e3⟩ => ?_
  subst eu e3
  refine thn (hst.run pins s3 σ H3 (fun o H4 => o = some (-1) ∧ H4 = H3) I3 ⟨1, rfl, -1, rfl, rfl, rfl⟩) fun vs s4 ⟨o, H4, I4, ps, eo, e4⟩ => ?_
  subst eo e4
  have I5 : Inv X pins σ H4 { s4 with heap := s4.heap.push { cls := .type "slice", data := .fields #[vl, vu, vs] } } := I4.kept (t' := s4.toks) fun b ob q => Heap.get?_push_of_some _ q
  show wpAny (model X.prog X.w) X.A (subscriptTail e (.Slice none none (some (.UnaryOp .USub (.Constant (.int 1) k p1) p2)) p3) (.ref a) (.ref s4.heap.objs.size)) (EP X pins σ Q) X.xe { s4 with heap := s4.heap.push { cls := .type "slice", data := .fields #[vl, vu, vs] } }
  rcases hq with ⟨hx, q⟩ | ⟨hx, q⟩
  · obtain ⟨its, r, ht, hz⟩ := I5.list hx
    have hlen := r.length
    refine tail_any (ops := [.ref a, .ref s4.heap.objs.size]) ht.isList.typeIs (PySem.slot_list_getitem.lookup) ?_ (by with_unfolding_all rfl)
    refine wpAny_getItem_list_slice ht.isList (Heap.IsSliceOf.new _ vl vu vs) pl pu ps (by decide) ?_ (by rw [List.size_toArray]; omega)
    rw [PySem.W.krv_pick]
    refine ⟨.ref _, _, I5.laid (t' := s4.toks) (o := .lst xs.reverse) (fun b ob q => Heap.get?_push_of_some _ q) (Nat.le_refl _) ?_, rfl, q _ (I5.hok.fresh (Nat.le_refl _))⟩
    exact ⟨by rw [List.length_reverse]; exact hz, _, 0, r.reverse, Heap.get?_push_size _ rfl⟩
  · obtain ⟨its, r, ht, hz⟩ := I5.tuple hx
    have hlen := r.length
    refine tail_any (ops := [.ref a, .ref s4.heap.objs.size]) ht.typeIs PyProof.Rows.slot_tuple_getitem.lookup ?_ (by with_unfolding_all rfl)
    refine HT.getItem_tuple_rev ht (Heap.IsSliceOf.new _ vl vu vs) pl pu ps ?_ (by rw [List.size_toArray]; omega)
    refine ⟨.ref _, _, I5.laid (t' := s4.toks) (o := .tup xs.reverse) (fun b ob q => Heap.get?_push_of_some _ q) (Nat.le_refl _) ?_, rfl, q _ (I5.hok.fresh (Nat.le_refl _))⟩
    refine ⟨by rw [List.length_reverse]; exact hz, _, r.reverse, ?_⟩
    exact IsTup.new _ _
variable {W : WX}
theorem rev_mono {ra : DEnv → Res PyData} {σ : L2.St} {H : Hp} {Q : VK} (q : TV X W true (fun ρ => (ra ρ).bind revD) σ H Q) : tRevA X.K (TB X W ra) σ H Q := by
  obtain ⟨F, ρ, s, fr, p⟩ := q
  unfold tRevA
  refine TX.bindF (R' := RR X.K true) rrBack s fr p fun x F1 H1 d1 e1 r1 _ f1 p1 => ?_
  cases d1 with
  | list ds =>
    obtain ⟨a, vs, rfl, hq, zz, r'⟩ := r1.lst e1.fh
    refine ⟨a, vs, rfl, .inl ⟨SqL.of hq, fun p hp => ?_⟩⟩
    exact rr_lst e1.fh hp r'.reverse (by rw [List.length_reverse]; exact zz) p1
  | tuple ds =>
    obtain ⟨a, vs, rfl, hq, zz, r'⟩ := r1.tup
    refine ⟨a, vs, rfl, .inr ⟨sub_t e1.fh hq, fun p hp => ?_⟩⟩
    exact rr_tup e1.fh hp r'.reverse (by rw [List.length_reverse]; exact zz) p1
  | _ => exact (show False from p1).elim

variable {C : Ctx} {m : MC}
theorem ab_rfl {o : Expr} {a : Str} {env : Env} (h : abOk o = true) : attributeBase o a env (eval o env) = eval o env := by
  cases o <;> first | rfl | skip
  rename_i f as ks pos
  cases f <;> first | rfl | skip
  cases as with
  | cons => rfl
  | nil =>
    cases ks with
    | cons => rfl
    | nil => cases h
theorem findIx_some {d : PyData} : ∀ {xs : List PyData} {k j : Nat}, findIx d xs k = some j → ∃ i z, j = k + i ∧ xs[i]? = some z ∧ PyData.eqv z d = true ∧ ∀ (n : Nat) (z' : PyData), n < i → xs[n]? = some z' → PyData.eqv z' d = false
  | [], _, _, h => by cases h
  | x :: xs, k, j, h => by
    unfold findIx at h
    split at h
    · rename_i e
      cases h
      exact ⟨0, x, rfl, rfl, e, fun n z' hn => absurd hn (Nat.not_lt_zero _)⟩
    · rename_i e
      obtain ⟨i, z, h1, h2, h3, h4⟩ := findIx_some h
      refine ⟨i + 1, z, by omega, by simpa using h2, h3, fun n z' hn hz => ?_⟩
      cases n with
      | zero => simp at hz; subst hz; simpa using e
      | succ n => exact h4 n z' (by omega) (by simpa using hz)
theorem strs_rp {K : PySem.W.Frag} {F : Hp} : ∀ {ds : List PyData} {vs : List V} {ns : List Str}, RpAll K F vs ds → strsOf ds = some ns → vs = ns.map V.str ∧ ∀ z ∈ ns, PyData.strOk z = true
  | [], _, _, r, h => by cases r; cases h; exact ⟨rfl, by simp⟩
  | d :: ds, _, ns, r, h => by
    cases r with
    | cons a b =>
      cases d <;> first | (simp [strsOf] at h; done) | skip
      rename_i z
      simp only [strsOf, Option.map_eq_some_iff] at h
      obtain ⟨ns', h', rfl⟩ := h
      obtain ⟨e, q⟩ := strs_rp b h'
      cases a with
      | str _ hz => exact ⟨by rw [e]; rfl, fun y hy => by rcases List.mem_cons.mp hy with h | h; (subst h; exact hz); exact q y h⟩
theorem strOk_join (a : Str) (ha : PyData.strOk a = true) (ys : List Str) (h : ∀ z ∈ ys, PyData.strOk z = true) : PyData.strOk (Txt.join a ys) = true := by
  match ys with
  | [] => rw [show ∀ ys, Txt.join a ys = Str.join a ys from fun ys => StrLaws.glued_eq_join a ys]; show PyData.strOk Str.empty = true; unfold PyData.strOk; exact Array.all_eq_true.mpr fun i h => absurd h (Nat.not_lt_zero _)
  | [x] => rw [show ∀ ys, Txt.join a ys = Str.join a ys from fun ys => StrLaws.glued_eq_join a ys]; exact h x List.mem_cons_self
  | x :: y :: r =>
    have ih := strOk_join a ha (y :: r) fun z hz => h z (List.mem_cons_of_mem _ hz)
    rw [show ∀ ys, Txt.join a ys = Str.join a ys from fun ys => StrLaws.glued_eq_join a ys] at ih ⊢
    show PyData.strOk (x ++ a ++ Str.join a (y :: r)) = true
    exact strOk_append (strOk_append (h x List.mem_cons_self) ha) ih
theorem index_noexc : ∀ x ds c d, indexD x ds ≠ .exc c d := by
  intro x ds c d h
  unfold indexD at h
  split at h <;> (try split at h) <;> (try split at h) <;> cases h
theorem join_noexc : ∀ x ds c d, joinD x ds ≠ .exc c d := by
  intro x ds c d h
  unfold joinD at h
  split at h <;> (try split at h) <;> (try split at h) <;> cases h
theorem few_ok {X : Cx} {e : Expr} {es : List Expr} {cpos : Pos} (hs : es.all noStar = true) (hs0 : noStar e = true) (hn : es.length < 20) : ((backTo cpos (starEach (e :: es) X.env)).all (fun x => !x.1) && (backToKw cpos (keywordEach [] X.env)).all (fun x => x.1.isSome)
      && decide ((e :: es).length + ([] : List Keyword).length + (if ([] : List Keyword).isEmpty then 0 else 1) < 30)) = true := by
  have key : ∀ (l : List Expr), l.all noStar = true → (backTo cpos (starEach l X.env)).all (fun x => !x.1) = true := by
    intro l
    induction l with
    | nil => intro _; rfl
    | cons a l ih =>
      intro h
      rw [List.all_cons, Bool.and_eq_true] at h
      rw [star_cons h.1]
      exact ih h.2
  rw [key (e :: es) (by rw [List.all_cons, hs0, hs]; rfl)]
  have : (backToKw cpos (keywordEach [] X.env)).all (fun x => x.1.isSome) = true := rfl
  rw [this]
  simp only [Bool.true_and, decide_eq_true_eq, List.length_cons, List.length_nil, List.isEmpty_nil, if_true]
  omega
/-- o.index(e), o a list -/
theorem snd_index (o : XOk C W m X) {oe e : Expr} {es : List Expr} {ro : DEnv → Res PyData} {rs : DEnv → Res (List PyData)} {apos cpos : Pos} (hb : abOk oe = true) (hl : (apos.endLine == cpos.line) = true) (hs : es.all noStar = true) (hs0 : noStar e = true) (hn : es.length < 20) (ho : PE X oe (TB X W ro)) (ha : PA X (e :: es) (TBs X W rs)) :
    PE X (.Call (.Attribute oe "index" apos) (e :: es) [] cpos) (TV X W false (fun ρ => (ro ρ).bind fun x => if methOk "list.index" x then (rs ρ).bind fun ds => methD "list.index" x ds else .stuck)) := by
  refine PE.mono' (pe_bm (apos := apos) (cpos := cpos) PySem.F.plainAttrs_list PySem.F.slot_list_index PySem.F.type_list_index (mt_indexD o.units) ho ha (ab_rfl hb) (few_ok hs hs0 hn) hl (star_cons hs0) (star_any hs)) fun σ H Q q => ?_
  obtain ⟨F, ρ, s, fr, p⟩ := q
  unfold tBM
  refine TX.bindF (R' := RR X.K false) rrBack s fr p fun x F1 H1 d1 e1 r1 _ f1 p1 => ?_
  cases d1 with
  | list xs =>
    obtain ⟨a, vs, rfl, hq, zz, r'⟩ := r1.lst e1.fh
    refine ⟨.inl ⟨rfl, vs, SqL.of hq⟩, ?_⟩
    have p1 : PostX X.K X.mg W (RR X.K false H1) σ F1 H1 Q ((rs ρ).bind fun ds => indexD (.list xs) ds) := p1
    refine TX.bindF (R' := RR X.K false) rrBack e1.fh f1 p1 fun us F2 H2 ds e2 r2 _ f2 p2 => ?_
    have p2 : PostX X.K X.mg W (RR X.K false H2) σ F2 H2 Q (indexD (.list xs) ds) := p2
    match ds, r2, p2 with
    | [], _, p2 => exact p2.elim
    | _ :: _ :: _, _, p2 => exact p2.elim
    | [d'], r2, p2 =>
      simp only [indexD] at p2
      split at p2
      · rename_i hc
        simp only [Bool.and_eq_true, decide_eq_true_eq] at hc
        obtain ⟨⟨⟨c1, c2⟩, c3⟩, c4⟩ := hc
        split at p2
        · rename_i j hj
          obtain ⟨v, rfl, rv⟩ := r2.one
          obtain ⟨i, w, hi, hw, ew, no⟩ := findIx_some hj
          have r1' := r1.ext e2
          have nl : DP.nd (.list xs) = true := by simpa only [DP.nd] using c2
          refine ⟨a, v, d', xs, j, w, rfl, rfl, r1'.dp e2.fh nl, rv.dp e2.fh c1, ?_, ?_, by rw [hi]; simpa using hw, ew, fun n z' hn hz => no n z' (by omega) hz, ?_⟩
          · simp only [SeqAt.shaped, Bool.and_eq_true, decide_eq_true_eq]; exact ⟨r1'.cl nl, c4⟩
          · simp only [SeqAt.shaped, Bool.and_eq_true, decide_eq_true_eq]; exact ⟨rv.cl c1, c3⟩
          · exact p2 _ F2 H2 (Ext.refl e2.fh) (.int _)
        · exact p2.elim
      · exact p2.elim
  | str z => exact (show False from p1).elim
  | _ => exact (show False from p1).elim
/-- o.join(e), o a text -/
theorem snd_join (o : XOk C W m X) {oe e : Expr} {es : List Expr} {ro : DEnv → Res PyData} {rs : DEnv → Res (List PyData)} {apos cpos : Pos} (hb : abOk oe = true) (hl : (apos.endLine == cpos.line) = true) (hs : es.all noStar = true) (hs0 : noStar e = true) (hn : es.length < 20) (ho : PE X oe (TB X W ro)) (ha : PA X (e :: es) (TBs X W rs)) :
    PE X (.Call (.Attribute oe "join" apos) (e :: es) [] cpos) (TV X W false (fun ρ => (ro ρ).bind fun x => if methOk "str.join" x then (rs ρ).bind fun ds => methD "str.join" x ds else .stuck)) := by
  refine PE.mono' (pe_bm (apos := apos) (cpos := cpos) PySem.F.plainAttrs_str PySem.F.slot_str_join PySem.F.type_str_join mt_join ho ha (ab_rfl hb) (few_ok hs hs0 hn) hl (star_cons hs0) (star_any hs)) fun σ H Q q => ?_
  obtain ⟨F, ρ, s, fr, p⟩ := q
  unfold tBM
  refine TX.bindF (R' := RR X.K false) rrBack s fr p fun x F1 H1 d1 e1 r1 _ f1 p1 => ?_
  cases d1 with
  | str a =>
    obtain ⟨e1', o1⟩ := r1.str
    subst e1'
    refine ⟨rfl, ?_⟩
    have p1 : PostX X.K X.mg W (RR X.K false H1) σ F1 H1 Q ((rs ρ).bind fun ds => joinD (.str a) ds) := p1
    refine TX.bindF (R' := RR X.K false) rrBack e1.fh f1 p1 fun us F2 H2 ds e2 r2 _ f2 p2 => ?_
    have p2 : PostX X.K X.mg W (RR X.K false H2) σ F2 H2 Q (joinD (.str a) ds) := p2
    match ds, r2, p2 with
    | [], _, p2 => exact p2.elim
    | h0 :: _ :: _, _, p2 => cases h0 <;> exact (show False from p2).elim
    | [d'], r2, p2 =>
      cases d' with
      | list xs =>
        simp only [joinD] at p2
        split at p2
        · rename_i ys hy
          split at p2
          · rename_i hz
            obtain ⟨v, rfl, rv⟩ := r2.one
            obtain ⟨b, vs, rfl, hq, zz, r'⟩ := rv.lst e2.fh
            obtain ⟨e3, ok⟩ := strs_rp r' hy
            subst e3
            exact ⟨a, b, ys, rfl, rfl, .inl (SqL.of hq), Nat.le_trans hz (by decide), p2 _ F2 H2 (Ext.refl e2.fh) (.str _ (strOk_join a o1 ys ok))⟩
          · exact p2.elim
        · exact p2.elim
      | _ => exact (show False from p2).elim
  | list xs => exact (show False from p1).elim
  | _ => exact (show False from p1).elim
end
end DP

/-! ## ZipN -/
set_option Elab.async false
set_option linter.all false
set_option maxRecDepth 100000
set_option maxHeartbeats 1000000
set_option autoImplicit false
/-! zip's next while its last tuple is held (list(zip(..))). -/
namespace DP
open PySem PySem.Spec PyProof.Rows L2
section
variable {prog : Program} {w : World} {A : Around} {E : Value → Shared → Prop} {s : Shared} {z TI TO i1 i2 T : Addr} {f : Bool} {oT : Obj} {fp1 fp2 : List Addr} {n1 n2 i : Nat} {P1 P2 : Nat → Value → Prop} {St1 St2 : Nat → Heap → Prop}
theorem zipH_next {Q : Value → Shared → Prop} (S : ZipSep2 z TI TO i1 i2 fp1 fp2) (D1 : Draws prog w A i1 fp1 n1 P1 St1) (D2 : Draws prog w A i2 fp2 n2 P2 St2)
    (hz : IsZipHeld s.heap z TI TO T f) (hT : s.heap.get? T = some oT) (hTI : IsTupOf2 s.heap TI (.ref i1) (.ref i2)) (st1 : St1 i s.heap) (st2 : St2 i s.heap) (l1 : i < n1) (l2 : i < n2)
    (hQ : ∀ x1 x2 h' tk, P1 i x1 → P2 i x2 → IsZipHeld h' z TI TO T true → St1 (i + 1) h' → St2 (i + 1) h' → IsTupOf2 h' s.heap.objs.size x1 x2 → h'.objs.size = s.heap.objs.size + 1 →
      (∀ c o, c ≠ z → c ≠ i1 → c ≠ i2 → s.heap.get? c = some o → h'.get? c = some o) → Q (.ref s.heap.objs.size) { s with heap := h', toks := tk }) :
    wpAny (model prog w) A (Builtin.«zip.__next__» ⟨[.ref z], []⟩) (fun fin s' => ∃ v, fin = .done (.ret v) ∧ Q v s') E s := by
  obtain ⟨hp, g, d, tk0, os⟩ := s
  show wpAny _ _ (field (.ref z) 2 >>= _) _ _ _
  refine wpAny_bind (wpAny_field hz rfl (x := .bool false) rfl ?_)
  show wpAny _ _ (field (.ref z) 3 >>= _) _ _ _
  refine wpAny_bind (wpAny_field hz rfl (x := .ref TI) rfl ?_)
  refine wpAny_bind (wpAny_seqItems hTI rfl ?_)
  show wpAny _ _ (Builtin.SmallTypes.ownedTupleIsFree (.ref z) >>= _) _ _ _
  refine wpAny_bind (wpAny_tupleHeld_zip hz hT fun h₁ hz₁ hs₁ => ?_)
  replace hs₁ : Heap.SameBut z hp h₁ := hs₁
  simp only [Bool.false_eq_true, if_false]
  refine wpAny_bind ?_
  rw [← Array.forIn_toList]
  simp only [List.forIn_cons, List.forIn_nil]
  refine wpAny_bind (wpAny_bind (wpAny_holding ?_))
  show wpAny _ _ (Builtin.SmallTypes.nextOf (.ref i1) >>= _) _ _ ⟨h₁, g, d, tk0, os⟩
  refine wpAny_bind (D1.item i _ _ _ l1 (D1.over st1 hs₁ S.zf1) fun x1 h₂ tk1 hx1 sn1 hs₂ => wpAny_pure ?_)
  replace hs₂ : Heap.SameBut i1 h₁ h₂ := hs₂
  refine wpAny_pure ?_
  refine wpAny_bind (wpAny_bind (wpAny_holding ?_))
  show wpAny _ _ (Builtin.SmallTypes.nextOf (.ref i2) >>= _) _ _ ⟨h₂, g, d, tk1, os⟩
  refine wpAny_bind (D2.item i _ _ _ l2 (D2.over (D2.over st2 hs₁ S.zf2) hs₂ S.sep1_2) fun x2 h₃ tk2 hx2 sn2 hs₃ => wpAny_pure ?_)
  replace hs₃ : Heap.SameBut i2 h₂ h₃ := hs₃
  refine wpAny_pure (wpAny_pure ?_)
  show wpAny _ _ (newTuple [x1, x2] >>= _) _ _ ⟨h₃, g, d, tk2, os⟩
  refine wpAny_bind (wpAny_newTuple ?_)
  have hsz : h₃.objs.size = hp.objs.size := by rw [hs₃.1, hs₂.1, hs₁.1]
  have hz₃ : IsZipHeld h₃ z TI TO T true := hs₃.extBut _ _ S.zi2 (hs₂.extBut _ _ S.zi1 hz₁)
  have hk : ∀ c o, c ≠ z → c ≠ i1 → c ≠ i2 → hp.get? c = some o → h₃.get? c = some o := fun c o c1 c2 c3 e => hs₃.extBut _ _ c3 (hs₂.extBut _ _ c2 (hs₁.extBut _ _ c1 e))
  have st1₃ : St1 (i + 1) h₃ := D1.over sn1 hs₃ S.sep2_1
  refine wpAny_pure ⟨_, rfl, ?_⟩
  show Q (.ref h₃.objs.size) _
  have hp' : IsTupOf2 (h₃.push { cls := .type "tuple", data := .seq #[x1, x2] }) h₃.objs.size x1 x2 := Heap.get?_push_size _ rfl
  have hz4 : (h₃.push { cls := .type "tuple", data := .seq #[x1, x2] }).objs.size = h₃.objs.size + 1 := Heap.size_push ..
  rw [hsz] at hp' hz4 ⊢
  exact hQ x1 x2 _ tk2 hx1 hx2 (Heap.get?_push_of_some _ hz₃) (D1.frame _ _ _ st1₃ fun b _ o e => Heap.get?_push_of_some _ e) (D2.frame _ _ _ sn2 fun b _ o e => Heap.get?_push_of_some _ e) hp' hz4 fun c o c1 c2 c3 e => Heap.get?_push_of_some _ (hk c o c1 c2 c3 e)
theorem zipH_end {Q : Fin → Shared → Prop} (S : ZipSep2 z TI TO i1 i2 fp1 fp2) (D1 : Draws prog w A i1 fp1 n1 P1 St1) (D2 : Draws prog w A i2 fp2 n2 P2 St2)
    (hz : IsZipHeld s.heap z TI TO T f) (hT : s.heap.get? T = some oT) (hTI : IsTupOf2 s.heap TI (.ref i1) (.ref i2)) (st1 : St1 i s.heap) (st2 : St2 i s.heap) (hle1 : i ≤ n1) (hle2 : i ≤ n2) (hend : i = n1 ∨ i = n2)
    (hE : ∀ h' tk e, (∀ c o, c ≠ z → c ≠ i1 → c ≠ i2 → s.heap.get? c = some o → h'.get? c = some o) → (∃ o, h'.get? e = some o ∧ o.cls = .type "StopIteration") → E (.ref e) { s with heap := h', toks := tk }) :
    wpAny (model prog w) A (Builtin.«zip.__next__» ⟨[.ref z], []⟩) Q E s := by
  obtain ⟨hp, g, d, tk0, os⟩ := s
  show wpAny _ _ (field (.ref z) 2 >>= _) _ _ _
  refine wpAny_bind (wpAny_field hz rfl (x := .bool false) rfl ?_)
  show wpAny _ _ (field (.ref z) 3 >>= _) _ _ _
  refine wpAny_bind (wpAny_field hz rfl (x := .ref TI) rfl ?_)
  refine wpAny_bind (wpAny_seqItems hTI rfl ?_)
  show wpAny _ _ (Builtin.SmallTypes.ownedTupleIsFree (.ref z) >>= _) _ _ _
  refine wpAny_bind (wpAny_tupleHeld_zip hz hT fun h₁ hz₁ hs₁ => ?_)
  replace hs₁ : Heap.SameBut z hp h₁ := hs₁
  simp only [Bool.false_eq_true, if_false]
  refine wpAny_bind ?_
  rw [← Array.forIn_toList]
  simp only [List.forIn_cons, List.forIn_nil]
  refine wpAny_bind (wpAny_bind (wpAny_holding ?_))
  show wpAny _ _ (Builtin.SmallTypes.nextOf (.ref i1) >>= _) _ _ ⟨h₁, g, d, tk0, os⟩
  by_cases l1 : i < n1
  · have e2 : i = n2 := by omega
    refine wpAny_bind (D1.item i _ _ _ l1 (D1.over st1 hs₁ S.zf1) fun x1 h₂ tk1 hx1 sn1 hs₂ => wpAny_pure ?_)
    replace hs₂ : Heap.SameBut i1 h₁ h₂ := hs₂
    refine wpAny_pure ?_
    refine wpAny_bind (wpAny_bind (wpAny_holding ?_))
    show wpAny _ _ (Builtin.SmallTypes.nextOf (.ref i2) >>= _) _ _ ⟨h₂, g, d, tk1, os⟩
    refine wpAny_bind (D2.done ⟨h₂, g, d, tk1, os⟩ _ _ (by rw [← e2]; exact D2.over (D2.over st2 hs₁ S.zf2) hs₂ S.sep1_2) fun h₃ e hq he => ?_)
    replace hq : Heap.ExtBut i2 h₂ h₃ := hq
    exact hE h₃ tk1 e (fun c o c1 c2 c3 x => hq _ _ c3 (hs₂.extBut _ _ c2 (hs₁.extBut _ _ c1 x))) he
  · have e1 : i = n1 := by omega
    refine wpAny_bind (D1.done ⟨h₁, g, d, tk0, os⟩ _ _ (by rw [← e1]; exact D1.over st1 hs₁ S.zf1) fun h₂ e hq he => ?_)
    replace hq : Heap.ExtBut i1 h₁ h₂ := hq
    exact hE h₂ tk0 e (fun c o c1 c2 _ x => hq _ _ c2 (hs₁.extBut _ _ c1 x)) he
theorem zipH_pyNext {Q : Option Value → Shared → Prop} (S : ZipSep2 z TI TO i1 i2 fp1 fp2) (D1 : Draws prog w A.in1 i1 fp1 n1 P1 St1) (D2 : Draws prog w A.in1 i2 fp2 n2 P2 St2)
    (hz : IsZipHeld s.heap z TI TO T f) (hT : s.heap.get? T = some oT) (hTI : IsTupOf2 s.heap TI (.ref i1) (.ref i2)) (st1 : St1 i s.heap) (st2 : St2 i s.heap) (l1 : i < n1) (l2 : i < n2)
    (hQ : ∀ x1 x2 h' tk, P1 i x1 → P2 i x2 → IsZipHeld h' z TI TO T true → St1 (i + 1) h' → St2 (i + 1) h' → IsTupOf2 h' s.heap.objs.size x1 x2 → h'.objs.size = s.heap.objs.size + 1 →
      (∀ c o, c ≠ z → c ≠ i1 → c ≠ i2 → s.heap.get? c = some o → h'.get? c = some o) → Q (some (.ref s.heap.objs.size)) { s with heap := h', toks := tk }) :
    wpAny (model prog w) A (pyNext (.ref z)) Q E s := by
  have hTy : s.TypeIs (.ref z) "zip" := ⟨_, hz, rfl⟩
  unfold pyNext
  exact wpAny_bind (wpAny_attempt (wpAny_callSpecial?_slot (name := Str.ofString "__next__") hTy F.slot_zip_next
    (wpAny_call_entry F.slot_zip_next hTy F.entry_zip_next
      (zipH_next S D1 D2 hz hT hTI st1 st2 l1 l2 fun x1 x2 h' tk a1 a2 a3 a4 a5 a6 a7 a8 => wpAny_pure (hQ x1 x2 h' tk a1 a2 a3 a4 a5 a6 a7 a8)) (F.args_zip_next_1 _))))
theorem zipH_pyEnd {Q : Option Value → Shared → Prop} (S : ZipSep2 z TI TO i1 i2 fp1 fp2) (D1 : Draws prog w A.in1 i1 fp1 n1 P1 St1) (D2 : Draws prog w A.in1 i2 fp2 n2 P2 St2)
    (hz : IsZipHeld s.heap z TI TO T f) (hT : s.heap.get? T = some oT) (hTI : IsTupOf2 s.heap TI (.ref i1) (.ref i2)) (st1 : St1 i s.heap) (st2 : St2 i s.heap) (hle1 : i ≤ n1) (hle2 : i ≤ n2) (hend : i = n1 ∨ i = n2)
    (hQ : ∀ h' tk, (∀ c o, c ≠ z → c ≠ i1 → c ≠ i2 → s.heap.get? c = some o → h'.get? c = some o) → Q none { s with heap := h', toks := tk }) : wpAny (model prog w) A (pyNext (.ref z)) Q E s := by
  have hTy : s.TypeIs (.ref z) "zip" := ⟨_, hz, rfl⟩
  unfold pyNext
  refine wpAny_bind (wpAny_attempt (wpAny_callSpecial?_slot (name := Str.ofString "__next__") hTy F.slot_zip_next
    (wpAny_call_entry F.slot_zip_next hTy F.entry_zip_next (zipH_end S D1 D2 hz hT hTI st1 st2 hle1 hle2 hend fun h' tk e hk he => ?_) (F.args_zip_next_1 _))))
  obtain ⟨o, ho, hc⟩ := he
  refine wpAny_bind (wpAny_isInstance (T := "StopIteration") (b := true) ⟨o, ho, hc⟩ isSubtype_stop ?_)
  exact wpAny_pure (hQ _ _ hk)
end
end DP

/-! ## ZipL -/
set_option Elab.async false
set_option linter.all false
set_option maxRecDepth 100000
set_option maxHeartbeats 1000000
set_option autoImplicit false
/-! list(zip(..)): the loop of the list's making. -/
namespace DP
open PySem PySem.Spec PyProof.Rows L2
abbrev IsLst (h : Heap) (S : Addr) (acc : Array Value) (c : Nat) : Prop := h.get? S = some { cls := .type "list", dict := none, data := .seq acc c, slots := #[] }
structure ZG (P1 P2 : Nat → Value → Prop) (lo : Addr) (h : Heap) (as : List Addr) : Prop where
  rise : as.Pairwise (· < ·)
  above : ∀ a ∈ as, lo < a
  pairs : ∀ j a, as[j]? = some a → ∃ x1 x2, P1 j x1 ∧ P2 j x2 ∧ IsTupOf2 h a x1 x2
theorem ZG.there {P1 P2 : Nat → Value → Prop} {lo : Addr} {h : Heap} {as : List Addr} (g : ZG P1 P2 lo h as) {a : Addr} (ha : a ∈ as) : a < h.objs.size := by
  obtain ⟨j, hj, e⟩ := List.mem_iff_getElem.mp ha
  obtain ⟨x1, x2, _, _, e3⟩ := g.pairs j a (by rw [List.getElem?_eq_getElem hj, e])
  exact Heap.lt_size e3
/-- a zip at its i-th item; what was handed out last is held -/
structure ZSt (z TI TO i1 i2 S : Addr) (St1 St2 : Nat → Heap → Prop) (i : Nat) (h : Heap) : Prop where
  ti : IsTupOf2 h TI (.ref i1) (.ref i2)
  s1 : St1 i h
  s2 : St2 i h
  zz : (IsZip h z TI TO .none ∧ ∃ a1 a2, IsTupOf2 h TO a1 a2) ∨ ∃ T f oT, IsZipHeld h z TI TO T f ∧ h.get? T = some oT ∧ S < T
section
variable {prog : Program} {w : World} {A : Around} {s : Shared} {z TI TO i1 i2 S : Addr} {fp1 fp2 : List Addr} {n1 n2 n i : Nat} {P1 P2 : Nat → Value → Prop} {St1 St2 : Nat → Heap → Prop}
theorem ZSt.keep (D1 : Draws prog w A i1 fp1 n1 P1 St1) (D2 : Draws prog w A i2 fp2 n2 P2 St2) (low : ∀ b, b = z ∨ b = TI ∨ b = TO ∨ b ∈ fp1 ∨ b ∈ fp2 → b < S) {h h' : Heap} (x : ZSt z TI TO i1 i2 S St1 St2 i h) (hk : ∀ b o, b ≠ S → h.get? b = some o → h'.get? b = some o) : ZSt z TI TO i1 i2 S St1 St2 i h' := by
  have ne : ∀ b, b = z ∨ b = TI ∨ b = TO ∨ b ∈ fp1 ∨ b ∈ fp2 → b ≠ S := fun b hb => Nat.ne_of_lt (low b hb)
  refine ⟨hk _ _ (ne _ (by simp)) x.ti, D1.frame _ _ _ x.s1 fun b hb o e => hk b o (ne b (by simp [hb])) e, D2.frame _ _ _ x.s2 fun b hb o e => hk b o (ne b (by simp [hb])) e, ?_⟩
  rcases x.zz with ⟨h1, a1, a2, h2⟩ | ⟨T, f, oT, h1, h2, h3⟩
  · exact .inl ⟨hk _ _ (ne _ (by simp)) h1, a1, a2, hk _ _ (ne _ (by simp)) h2⟩
  · exact .inr ⟨T, f, oT, hk _ _ (ne _ (by simp)) h1, hk _ _ (Nat.ne_of_gt h3) h2, h3⟩
theorem zst_next {E : Value → Shared → Prop} {Q : Option Value → Shared → Prop} (Z : ZipSep2 z TI TO i1 i2 fp1 fp2) (D1 : Draws prog w A.in1 i1 fp1 n1 P1 St1) (D2 : Draws prog w A.in1 i2 fp2 n2 P2 St2)
    (hst : ZSt z TI TO i1 i2 S St1 St2 i s.heap) (hS : S < s.heap.objs.size) (l1 : i < n1) (l2 : i < n2)
    (hQ : ∀ x1 x2 h' tk, P1 i x1 → P2 i x2 → ZSt z TI TO i1 i2 S St1 St2 (i + 1) h' → IsTupOf2 h' s.heap.objs.size x1 x2 →
      (∀ c o, c ≠ z → c ≠ TO → c ≠ i1 → c ≠ i2 → s.heap.get? c = some o → h'.get? c = some o) → Q (some (.ref s.heap.objs.size)) { s with heap := h', toks := tk }) : wpAny (model prog w) A (pyNext (.ref z)) Q E s := by
  rcases hst.zz with ⟨h1, a1, a2, h2⟩ | ⟨T, f, oT, h1, h2, h3⟩
  · refine wpAny_pyNext_zipD2_item Z D1 D2 h1 hst.ti h2 hst.s1 hst.s2 l1 l2 fun x1 x2 h' tk p1 p2 b1 b2 d1 d2 b5 b6 hk => hQ x1 x2 h' tk p1 p2 ⟨hk _ _ Z.TIz Z.TITO Z.TIi1 Z.TIi2 hst.ti, d1, d2, .inr ⟨_, _, _, b1, b5, hS⟩⟩ b5 hk
  · refine zipH_pyNext Z D1 D2 h1 h2 hst.ti hst.s1 hst.s2 l1 l2 fun x1 x2 h' tk p1 p2 b1 d1 d2 b5 b6 hk => hQ x1 x2 h' tk p1 p2 ⟨hk _ _ Z.TIz Z.TIi1 Z.TIi2 hst.ti, d1, d2, .inr ⟨T, true, ?_⟩⟩ b5 fun c o c1 _ c3 c4 e => hk c o c1 c3 c4 e
    by_cases e1 : T = z
    · subst e1; exact ⟨_, b1, b1, h3⟩
    · by_cases e2 : T = i1
      · subst e2; obtain ⟨o, ho⟩ := D1.live _ _ d1; exact ⟨o, b1, ho, h3⟩
      · by_cases e3 : T = i2
        · subst e3; obtain ⟨o, ho⟩ := D2.live _ _ d2; exact ⟨o, b1, ho, h3⟩
        · exact ⟨oT, b1, hk _ _ e1 e2 e3 h2, h3⟩
theorem zst_end {E : Value → Shared → Prop} {Q : Option Value → Shared → Prop} (Z : ZipSep2 z TI TO i1 i2 fp1 fp2) (D1 : Draws prog w A.in1 i1 fp1 n1 P1 St1) (D2 : Draws prog w A.in1 i2 fp2 n2 P2 St2)
    (hst : ZSt z TI TO i1 i2 S St1 St2 i s.heap) (hle1 : i ≤ n1) (hle2 : i ≤ n2) (hend : i = n1 ∨ i = n2)
    (hQ : ∀ h' tk, (∀ c o, c ≠ z → c ≠ TO → c ≠ i1 → c ≠ i2 → s.heap.get? c = some o → h'.get? c = some o) → Q none { s with heap := h', toks := tk }) : wpAny (model prog w) A (pyNext (.ref z)) Q E s := by
  rcases hst.zz with ⟨h1, a1, a2, h2⟩ | ⟨T, f, oT, h1, h2, h3⟩
  · exact wpAny_pyNext_zipD2_end Z D1 D2 h1 hst.ti h2 hst.s1 hst.s2 hle1 hle2 hend fun h' tk hk => hQ h' tk hk
  · exact zipH_pyEnd Z D1 D2 h1 h2 hst.ti hst.s1 hst.s2 hle1 hle2 hend fun h' tk hk => hQ h' tk fun c o c1 _ c3 c4 e => hk c o c1 c3 c4 e
theorem zl_loop {R : Result → Shared → Prop} (Z : ZipSep2 z TI TO i1 i2 fp1 fp2) (D1 : Draws prog w A.in1.in1 i1 fp1 n1 P1 St1) (D2 : Draws prog w A.in1.in1 i2 fp2 n2 P2 St2)
    (low : ∀ b, b = z ∨ b = TI ∨ b = TO ∨ b ∈ fp1 ∨ b ∈ fp2 → b < S) (res : Value) {h₁ : Heap} (hn1 : n ≤ n1) (hn2 : n ≤ n2) (hnn : n = n1 ∨ n = n2) (hn : n ≤ sizeLine)
    (hR : ∀ h' tk acc c as, (∀ b o, b ≠ S → b ≠ z → b ≠ TO → b ≠ i1 → b ≠ i2 → h₁.get? b = some o → h'.get? b = some o) → IsLst h' S acc c → as.length = n → ZG P1 P2 S h' as → acc.toList = as.map Value.ref → R (.ok (.ret res)) { s with heap := h', toks := tk }) :
    ∀ (k i : Nat) (h : Heap) (tk c : Nat) (acc : Array Value) (as : List Addr), n - i = k → i ≤ n → ZSt z TI TO i1 i2 S St1 St2 i h → (∀ b o, b ≠ S → b ≠ z → b ≠ TO → b ≠ i1 → b ≠ i2 → h₁.get? b = some o → h.get? b = some o) →
      IsLst h S acc c → acc.toList = as.map Value.ref → as.length = i → ZG P1 P2 S h as →
      codeAny (model prog w) A (.builtin "list.extend.loop" ⟨[.ref S, .ref z, res], []⟩) R { s with heap := h, toks := tk } := by
  have lz : z < S := low z (by simp)
  have lTO : TO < S := low TO (by simp)
  have l1 : i1 < S := low i1 (by simp [Z.mem1])
  have l2 : i2 < S := low i2 (by simp [Z.mem2])
  intro k
  induction k with
  | zero =>
    intro i h tk c acc as hk hi hst hkeep hS hacc hal hG
    have hin : i = n := by omega
    refine codeAny_builtin PySem.F.entry_extend_loop ?_
    rw [Around.under_plainId PySem.F.plain_extend_loop _]
    show wpAny _ A.in1 (pyNext (.ref z) >>= _) _ _ _
    refine wpAny_bind (zst_end (s := { s with heap := h, toks := tk }) (A := A.in1) Z D1 D2 hst (by omega) (by omega) (by omega) fun h' tk' he => ?_)
    refine wpAny_pure (hR h' tk' acc c as (fun b o e0 e1 e2 e3 e4 e => he b o e1 e2 e3 e4 (hkeep b o e0 e1 e2 e3 e4 e)) (he S _ (Nat.ne_of_gt lz) (Nat.ne_of_gt lTO) (Nat.ne_of_gt l1) (Nat.ne_of_gt l2) hS) (by omega) ⟨hG.rise, hG.above, fun j a hj => ?_⟩ hacc)
    obtain ⟨x1, x2, p1, p2, e3⟩ := hG.pairs j a hj
    have ha := hG.above a (List.mem_of_getElem? hj)
    exact ⟨x1, x2, p1, p2, he a _ (Nat.ne_of_gt (Nat.lt_trans lz ha)) (Nat.ne_of_gt (Nat.lt_trans lTO ha)) (Nat.ne_of_gt (Nat.lt_trans l1 ha)) (Nat.ne_of_gt (Nat.lt_trans l2 ha)) e3⟩
  | succ k ih =>
    intro i h tk c acc as hk hi hst hkeep hS hacc hal hG
    have hlt : i < n := by omega
    have hsz : acc.size = i := by rw [← Array.length_toList, hacc, List.length_map, hal]
    refine codeAny_builtin PySem.F.entry_extend_loop ?_
    rw [Around.under_plainId PySem.F.plain_extend_loop _]
    show wpAny _ A.in1 (pyNext (.ref z) >>= _) _ _ _
    have hSl : S < h.objs.size := Heap.lt_size hS
    refine wpAny_bind (zst_next (s := { s with heap := h, toks := tk }) (S := S) Z D1 D2 hst hSl (by omega) (by omega) fun x1 x2 h' tk' p1 p2 hst' ht hkp => ?_)
    dsimp only at ht hkp ⊢
    have hS' := hkp S _ (Nat.ne_of_gt lz) (Nat.ne_of_gt lTO) (Nat.ne_of_gt l1) (Nat.ne_of_gt l2) hS
    have up : ∀ b o, b ≠ S → h'.get? b = some o → (h'.update S (Obj.mapSeq (·.push (Value.ref h.objs.size)))).get? b = some o := fun b o hb e => (Heap.get?_update_other _ _ (Ne.symm hb)).trans e
    show wpAny _ A.in1 (updateSeq S (·.push (Value.ref h.objs.size)) >>= _) _ _ _
    refine wpAny_bind ?_
    refine wpAny_updateSeq hS' rfl (wpAny_pure ⟨plainId_quiet PySem.F.plain_extend_loop _, ih (i + 1) _ tk' _ (acc.push (Value.ref h.objs.size)) (as ++ [h.objs.size]) (by omega) hlt (hst'.keep D1 D2 low up)
      (fun b o e0 e1 e2 e3 e4 e => up b o e0 (hkp b o e1 e2 e3 e4 (hkeep b o e0 e1 e2 e3 e4 e))) (Heap.get?_update_self _ hS' rfl) (by rw [Array.toList_push, hacc, List.map_append]; rfl) (by rw [List.length_append, hal]; rfl) ⟨?_, ?_, ?_⟩⟩) (by rw [hsz]; omega) (by show (acc.push (Value.ref h.objs.size)).size ≤ sizeLine + 1; rw [Array.size_push, hsz]; omega)
    · refine List.pairwise_append.mpr ⟨hG.rise, List.pairwise_singleton _ _, fun a ha b hb => ?_⟩
      rw [List.mem_singleton.mp hb]
      exact hG.there ha
    · intro a ha
      rcases List.mem_append.mp ha with ha | ha
      · exact hG.above a ha
      · rw [List.mem_singleton.mp ha]; exact hSl
    · intro j b hj
      rcases Nat.lt_trichotomy j as.length with q1 | q1 | q1
      · rw [List.getElem?_append_left q1] at hj
        obtain ⟨y1, y2, r1, r2, e3⟩ := hG.pairs j b hj
        have hb := hG.above b (List.mem_of_getElem? hj)
        exact ⟨y1, y2, r1, r2, up b _ (Nat.ne_of_gt hb) (hkp b _ (Nat.ne_of_gt (Nat.lt_trans lz hb)) (Nat.ne_of_gt (Nat.lt_trans lTO hb)) (Nat.ne_of_gt (Nat.lt_trans l1 hb)) (Nat.ne_of_gt (Nat.lt_trans l2 hb)) e3)⟩
      · subst q1
        have hb : h.objs.size = b := by simpa using hj
        subst hb
        exact ⟨x1, x2, by rw [hal]; exact p1, by rw [hal]; exact p2, up _ _ (Nat.ne_of_gt hSl) ht⟩
      · have hnone : (as ++ [h.objs.size])[j]? = none := List.getElem?_eq_none (by rw [List.length_append, List.length_singleton]; omega)
        rw [hnone] at hj; cases hj
end
end DP

/-! ## ZipC -/
set_option Elab.async false
set_option linter.all false
set_option maxRecDepth 100000
set_option maxHeartbeats 1000000
set_option autoImplicit false
/-! list(z), z a zip: the call. -/
namespace DP
open PySem PySem.Spec PyProof.Rows L2
theorem zip_no_len : typeLookup (.type "zip") "__len__" = pure none := by rw [typeLookup_type, builtinLookup_eq_fast]; kernel_rfl
theorem zip_no_hint : typeLookup (.type "zip") "__length_hint__" = pure none := by rw [typeLookup_type, builtinLookup_eq_fast]; kernel_rfl
section
variable {prog : Program} {w : World} {A : Around} {E : Value → Shared → Prop} {s : Shared} {z TI TO i1 i2 S : Addr} {fp1 fp2 : List Addr} {n1 n2 n : Nat} {P1 P2 : Nat → Value → Prop} {St1 St2 : Nat → Heap → Prop}
theorem zl_extend {R : Result → Shared → Prop} (Z : ZipSep2 z TI TO i1 i2 fp1 fp2) (D1 : Draws prog w A.in1.in1 i1 fp1 n1 P1 St1) (D2 : Draws prog w A.in1.in1 i2 fp2 n2 P2 St2)
    (low : ∀ b, b = z ∨ b = TI ∨ b = TO ∨ b ∈ fp1 ∨ b ∈ fp2 → b < S) (res : Value) (hn1 : n ≤ n1) (hn2 : n ≤ n2) (hnn : n = n1 ∨ n = n2) (hn : n ≤ sizeLine) (c₀ : Nat)
    (hz : IsZip s.heap z TI TO .none) (hst : ZSt z TI TO i1 i2 S St1 St2 0 s.heap) (hS : s.heap.get? S = some { cls := .type "list", data := .seq #[] c₀ })
    (hR : ∀ h' tk acc c as, (∀ b o, b ≠ S → b ≠ z → b ≠ TO → b ≠ i1 → b ≠ i2 → s.heap.get? b = some o → h'.get? b = some o) → IsLst h' S acc c → as.length = n → ZG P1 P2 S h' as → acc.toList = as.map Value.ref → R (.ok (.ret res)) { s with heap := h', toks := tk }) :
    wpAny (model prog w) A.in1 (Builtin.List.listExtendWith (.ref S) (.ref z) res)
      (fun fin s' => match fin with | .done f => R (.ok f) s' | .again c' => c'.quiet = true ∧ codeAny (model prog w) A c' R s') (fun e s' => R (.error e) s') s := by
  have lz : z < S := low z (by simp)
  have hSr : S ≠ z := Nat.ne_of_gt lz
  have hT : s.TypeIs (.ref z) "zip" := ⟨_, hz, rfl⟩
  have key : ∀ (h : Heap) (c₁ tk : Nat), (∀ b o, b ≠ S → s.heap.get? b = some o → h.get? b = some o) → IsLst h S #[] c₁ → codeAny (model prog w) A (.builtin "list.extend.loop" ⟨[.ref S, .ref z, res], []⟩) R { s with heap := h, toks := tk } := by
    intro h c₁ tk hk hS₁
    exact zl_loop (s := s) (h₁ := s.heap) Z D1 D2 low res hn1 hn2 hnn hn hR n 0 h tk c₁ #[] [] (Nat.sub_zero _) (Nat.zero_le _) (hst.keep D1 D2 low hk) (fun b o hb _ _ _ _ e => hk b o hb e) hS₁ rfl rfl
      ⟨List.Pairwise.nil, (fun _ ha => nomatch ha), (fun j a hj => by simp at hj)⟩
  unfold Builtin.List.listExtendWith
  refine wpAny_bind (wpAny_typeOf hT ?_)
  have h1 : Builtin.List.listSameRef (.ref S) (.ref z) = false := by simp [Builtin.List.listSameRef, hSr]
  have h2 : (Value.type "zip" == Value.type "list") = false := by decide
  have h3 : (Value.type "zip" == Value.type "tuple") = false := by decide
  simp only [h1, h2, h3, Bool.or_false, Bool.false_eq_true, if_false]
  refine wpAny_bind (wpAny_pyIter_zip hz ?_)
  refine wpAny_bind (wpAny_holding ?_)
  unfold Builtin.List.listLengthHint
  refine wpAny_bind (wpAny_specialOf hT zip_no_len ?_)
  show wpAny _ A.in1 (specialOf (Value.ref z) (Str.ofString "__length_hint__") >>= _) _ _ _
  refine wpAny_bind (wpAny_specialOf hT zip_no_hint ?_)
  refine wpAny_pure ?_
  show wpAny _ A.in1 (rule "list.extend.makes-room" >>= fun _ => Builtin.List.listTouch (.ref S) >>= fun _ =>
    again (.builtin "list.extend.loop" ⟨[.ref S, .ref z, res], []⟩)) _ _ _
  refine wpAny_bind (wpAny_rule ?_)
  refine wpAny_bind ?_
  show wpAny _ A.in1 (updateSeq S (·.push .none) >>= fun _ => updateSeq S (·.pop)) _ _ _
  refine wpAny_bind (wpAny_updateSeq hS rfl ?_)
  have hS₂ := Heap.get?_update_self (Obj.mapSeq (·.push Value.none)) hS rfl
  refine wpAny_updateSeq (hz := by seq_fits) hS₂ rfl ?_
  have hS₃ := Heap.get?_update_self (Obj.mapSeq (·.pop)) hS₂ rfl
  refine wpAny_pure ⟨plainId_quiet PySem.F.plain_extend_loop _, key _ _ _ (fun b o hb e => ?_) hS₃⟩
  exact (Heap.get?_update_other _ _ (Ne.symm hb)).trans ((Heap.get?_update_other _ _ (Ne.symm hb)).trans e)
theorem zl_init {R : Result → Shared → Prop} (Z : ZipSep2 z TI TO i1 i2 fp1 fp2) (D1 : Draws prog w A.in1.in1 i1 fp1 n1 P1 St1) (D2 : Draws prog w A.in1.in1 i2 fp2 n2 P2 St2)
    (low : ∀ b, b = z ∨ b = TI ∨ b = TO ∨ b ∈ fp1 ∨ b ∈ fp2 → b < S) (hn1 : n ≤ n1) (hn2 : n ≤ n2) (hnn : n = n1 ∨ n = n2) (hn : n ≤ sizeLine)
    (hz : IsZip s.heap z TI TO .none) (hst : ZSt z TI TO i1 i2 S St1 St2 0 s.heap) (hS : s.heap.get? S = some { cls := .type "list", data := .seq #[] })
    (hR : ∀ h' tk acc c as, (∀ b o, b ≠ S → b ≠ z → b ≠ TO → b ≠ i1 → b ≠ i2 → s.heap.get? b = some o → h'.get? b = some o) → IsLst h' S acc c → as.length = n → ZG P1 P2 S h' as → acc.toList = as.map Value.ref → R (.ok (.ret .none)) { s with heap := h', toks := tk }) :
    wpAny (model prog w) A.in1 (Builtin.«list.__init__» ⟨[.ref S, .ref z], []⟩)
      (fun fin s' => match fin with | .done f => R (.ok f) s' | .again c' => c'.quiet = true ∧ codeAny (model prog w) A c' R s') (fun e s' => R (.error e) s') s := by
  have lz : z < S := low z (by simp)
  show wpAny _ A.in1 (do let old ← Builtin.List.listItems (.ref S); Builtin.List.listUpdate (.ref S) (fun _ => #[]); letGo old.toList.reverse; Builtin.List.listExtendWith (.ref S) (.ref z) .none) _ _ s
  refine wpAny_bind ?_
  unfold Builtin.List.listItems
  refine wpAny_bind (wpAny_seqItems hS rfl (wpAny_pure ?_))
  show wpAny _ A.in1 (updateSeq S (fun _ => #[]) >>= fun _ => letGo (#[] : Array Value).toList.reverse >>= fun _ => Builtin.List.listExtendWith (.ref S) (.ref z) .none) _ _ s
  refine wpAny_bind (wpAny_updateSeq hS rfl ?_)
  have hS₂ := Heap.get?_update_self (Obj.mapSeq (fun _ => (#[] : Array Value))) hS rfl
  have oth : ∀ b o, b ≠ S → s.heap.get? b = some o → (s.heap.update S (Obj.mapSeq (fun _ => (#[] : Array Value)))).get? b = some o :=
    fun b o hb e => (Heap.get?_update_other _ _ (Ne.symm hb)).trans e
  refine wpAny_bind (wpAny_letGo ?_)
  refine zl_extend Z D1 D2 low .none hn1 hn2 hnn hn _ (oth _ _ (Nat.ne_of_lt lz) hz) (hst.keep D1 D2 low oth) hS₂ fun h' tk acc c as hk hS' hl hG hacc => ?_
  exact hR h' tk acc c as (fun b o e0 e1 e2 e3 e4 e => hk b o e0 e1 e2 e3 e4 (oth b o e0 e)) hS' hl hG hacc
/-- list(z) -/
theorem zl_call {Q : Value → Shared → Prop} (Z : ZipSep2 z TI TO i1 i2 fp1 fp2) (D1 : Draws prog w A.in1.in1.in1 i1 fp1 n1 P1 St1) (D2 : Draws prog w A.in1.in1.in1 i2 fp2 n2 P2 St2)
    (low : ∀ b, b = z ∨ b = TI ∨ b = TO ∨ b ∈ fp1 ∨ b ∈ fp2 → b < s.heap.objs.size) (hn1 : n ≤ n1) (hn2 : n ≤ n2) (hnn : n = n1 ∨ n = n2) (hn : n ≤ sizeLine)
    (hz : IsZip s.heap z TI TO .none) (hTI : IsTupOf2 s.heap TI (.ref i1) (.ref i2)) {a1 a2 : Value} (hTO : IsTupOf2 s.heap TO a1 a2) (s1 : St1 0 s.heap) (s2 : St2 0 s.heap)
    (hQ : ∀ h' tk acc c as, (∀ b o, b ≠ z → b ≠ TO → b ≠ i1 → b ≠ i2 → s.heap.get? b = some o → h'.get? b = some o) → IsLst h' s.heap.objs.size acc c → as.length = n → ZG P1 P2 s.heap.objs.size h' as → acc.toList = as.map Value.ref → Q (.ref s.heap.objs.size) { s with heap := h', toks := tk }) :
    wpAny (model prog w) A (call (.type "list") [.ref z]) Q E s := by
  refine callType_codes (Q₁ := fun obj s₁ => obj = .ref s.heap.objs.size ∧ s₁ = { s with heap := s.heap.push { cls := .type "list", data := .seq #[] } }) PySem.F.called_list (PySem.F.typeCall_list_1 _) PySem.F.entry_list_init
    (code_list_new _ ⟨rfl, rfl⟩) fun obj s₁ h₁ => ?_
  obtain ⟨rfl, rfl⟩ := h₁
  have hS : (s.heap.push { cls := .type "list", data := .seq #[] }).get? s.heap.objs.size = some { cls := .type "list", data := .seq #[] } := Heap.get?_push_size _ rfl
  have up : ∀ b o, s.heap.get? b = some o → (s.heap.push { cls := .type "list", data := .seq #[] }).get? b = some o := fun b o e => Heap.get?_push_of_some _ e
  refine ⟨⟨_, hS, rfl⟩, PySem.F.args_list_init_2 _ _, zl_init (A := A.in1) (n := n) Z D1 D2 low hn1 hn2 hnn hn (up _ _ hz) ⟨up _ _ hTI, D1.frame _ _ _ s1 fun b _ o e => up b o e, D2.frame _ _ _ s2 fun b _ o e => up b o e, .inl ⟨up _ _ hz, a1, a2, up _ _ hTO⟩⟩ hS fun h' tk acc c as hk hS' hl hG hacc => ?_⟩
  exact ⟨rfl, hQ h' tk acc c as (fun b o e1 e2 e3 e4 e => hk b o (Nat.ne_of_lt (Heap.lt_size e)) e1 e2 e3 e4 (up b o e)) hS' hl hG hacc⟩
end
end DP

/-! ## ZipP -/
set_option Elab.async false
set_option linter.all false
set_option maxRecDepth 100000
set_option maxHeartbeats 1000000
set_option autoImplicit false
/-! list(zip(a, b)), a and b tuples: the rule of the hand layer. -/
namespace DP
open PySem PySem.Spec PyProof.Rows L2
/-- tuples tracked at their addresses -/
def putZ : Hp → List Addr → List (V × V) → Hp
  | H, a :: as, p :: ps => putZ (upd H a (.tup [p.1, p.2])) as ps
  | H, _, _ => H
theorem putZ_off {b : Addr} : ∀ (as : List Addr) (ps : List (V × V)) (H : Hp), b ∉ as → putZ H as ps b = H b
  | [], _, _, _ => rfl
  | _ :: _, [], _, _ => rfl
  | a :: as, p :: ps, H, h => by
    rw [putZ, putZ_off as ps _ fun z => h (List.mem_cons_of_mem _ z)]
    exact upd_ne fun z => h (by rw [z]; exact List.mem_cons_self)
theorem putZ_at : ∀ (as : List Addr) (ps : List (V × V)) (H : Hp), as.Nodup → ∀ (j : Nat) (a : Addr) (p : V × V), as[j]? = some a → ps[j]? = some p → putZ H as ps a = some (.tup [p.1, p.2])
  | [], _, _, _, _, _, _, h, _ => by simp at h
  | _ :: _, [], _, _, _, _, _, _, h => by simp at h
  | b :: as, q :: ps, H, hn, 0, a, p, h1, h2 => by
    simp only [List.getElem?_cons_zero, Option.some.injEq] at h1 h2
    subst h1 h2
    rw [putZ, putZ_off as ps _ (List.nodup_cons.mp hn).1, upd_same]
  | b :: as, q :: ps, H, hn, j + 1, a, p, h1, h2 => by
    rw [putZ]
    exact putZ_at as ps _ (List.nodup_cons.mp hn).2 j a p (by simpa using h1) (by simpa using h2)
theorem refs_vals : ∀ as : List Addr, Vals (as.map V.ref) (as.map Value.ref)
  | [] => .nil
  | _ :: as => .cons rfl (refs_vals as)
section
variable {X : Cx} {pins : List (Addr × Obj)} {σ : L2.St} {H : Hp} {s : Shared} {P1 P2 : Nat → Value → Prop}
theorem zl_laid {h' : Heap} {tk : Nat} {acc : Array Value} {c : Nat} {S : Addr} {as : List Addr} (I : Inv X pins σ H s) (ps : List (V × V)) (hz : ps.length ≤ sizeLine) (hk : ∀ b o, s.heap.get? b = some o → h'.get? b = some o)
    (hSz : s.heap.objs.size ≤ S) (hS : IsLst h' S acc c) (hl : as.length = ps.length) (hG : ZG P1 P2 S h' as) (hP : ∀ (j : Nat) (x1 x2 : Value) (p : V × V), P1 j x1 → P2 j x2 → ps[j]? = some p → RelV p.1 x1 ∧ RelV p.2 x2) (hacc : acc.toList = as.map Value.ref) :
    ∃ H' : Hp, (∀ b o, H b = some o → H' b = some o) ∧ H S = none ∧ (∀ t ∈ as, H t = none) ∧ S ∉ as ∧ H' S = some (.lst (as.map V.ref)) ∧ (∀ (j : Nat) (t : Addr) (p : V × V), as[j]? = some t → ps[j]? = some p → H' t = some (.tup [p.1, p.2])) ∧ Inv X pins σ H' { s with heap := h', toks := tk } := by
  have hSn : S ∉ as := fun z => Nat.lt_irrefl _ (hG.above _ z)
  have nd : as.Nodup := List.Pairwise.imp (fun {a b} (h : a < b) => Nat.ne_of_lt h) hG.rise
  have new : ∀ t ∈ as, H t = none := fun t ht => I.hok.fresh (Nat.le_of_lt (Nat.lt_of_le_of_lt hSz (hG.above t ht)))
  have newS : H S = none := I.hok.fresh hSz
  obtain ⟨H0, hH0⟩ : ∃ H0, upd H S (.lst (as.map V.ref)) = H0 := ⟨_, rfl⟩
  have off : ∀ b, b ∉ as → b ≠ S → putZ H0 as ps b = H b := fun b h1 h2 => by rw [putZ_off as ps _ h1, ← hH0, upd_ne h2]
  have at_ := putZ_at as ps H0 nd
  have low : ∀ b o, s.heap.get? b = some o → b ∉ as ∧ b ≠ S := fun b o e => ⟨fun z => absurd (Heap.lt_size e) (Nat.not_lt.mpr (Nat.le_of_lt (Nat.lt_of_le_of_lt hSz (hG.above b z)))), fun z => absurd (Heap.lt_size e) (Nat.not_lt.mpr (z ▸ hSz))⟩
  have kp : ∀ b u, H b = some u → putZ H0 as ps b = some u := fun b u e => by
    rw [off b (fun z => by rw [new b z] at e; cases e) (fun z => by rw [z, newS] at e; cases e)]
    exact e
  have eS : putZ H0 as ps S = some (.lst (as.map V.ref)) := by rw [putZ_off as ps _ hSn, ← hH0, upd_same]
  refine ⟨putZ H0 as ps, kp, newS, new, hSn, eS, at_, ?_⟩
  refine I.call' (ch := []) rfl ⟨fun b o q _ _ _ => hk b o q, fun b o q _ _ _ => ⟨o.slots, hk b o q⟩, fun b o q n _ => ?_, fun b o q _ => ⟨o, hk b o q⟩, fun b xs q => kp b _ q, fun b o u q => kp b _ q, fun b ps q => ⟨#[], by rw [kp b _ q]; simp⟩⟩ (fun b u q => ?_) I.bare fun b z => by simp at z
  · obtain ⟨z1, z2⟩ := low b o q
    rw [off b z1 z2]
    exact n
  · by_cases hb : b ∈ as
    · obtain ⟨j, hj, e1⟩ := List.mem_iff_getElem.mp hb
      have e1 : as[j]? = some b := by rw [List.getElem?_eq_getElem hj, e1]
      have hj2 : j < ps.length := by omega
      have e2 : ps[j]? = some ps[j] := List.getElem?_eq_getElem hj2
      rw [at_ j b _ e1 e2] at q
      cases q
      obtain ⟨x1, x2, p1, p2, f3⟩ := hG.pairs j b e1
      obtain ⟨r1, r2⟩ := hP j x1 x2 _ p1 p2 e2
      exact ⟨by show 2 ≤ sizeLine; decide, [x1, x2], .cons r1 (.cons r2 .nil), ⟨_, f3, rfl, _, rfl⟩⟩
    · by_cases hb2 : b = S
      · rw [hb2] at q ⊢
        rw [eS] at q
        cases q
        refine ⟨by rw [List.length_map]; omega, acc.toList, c, by rw [hacc]; exact refs_vals as, ?_⟩
        rw [Array.toArray_toList]
        exact hS
      · rw [off b hb hb2] at q
        exact (I.hok b u q).stay (fun d v _ y => hk d v y) (fun d y => kp d _ y) fun d xs y => kp d _ y
end
theorem sep_of (N a b : Nat) (h1 : a < N) (h2 : b < N) : ZipSep2 (N + 4) (N + 2) (N + 3) N (N + 1) [N, a] [N + 1, b] := by
  have ne : ∀ {x y : Nat}, x ≠ y → (show Addr from x) ≠ (show Addr from y) := fun h => h
  constructor
  · exact ne (by omega)
  · exact ne (by omega)
  · exact ne (by omega)
  · exact ne (by omega)
  · exact List.mem_cons_self
  · intro h; rcases List.mem_cons.mp h with h | h; exact ne (by omega) h; exact ne (by omega) (List.mem_singleton.mp h)
  · intro h; rcases List.mem_cons.mp h with h | h; exact ne (by omega) h; exact ne (by omega) (List.mem_singleton.mp h)
  · exact ne (by omega)
  · exact List.mem_cons_self
  · intro h; rcases List.mem_cons.mp h with h | h; exact ne (by omega) h; exact ne (by omega) (List.mem_singleton.mp h)
  · intro h; rcases List.mem_cons.mp h with h | h; exact ne (by omega) h; exact ne (by omega) (List.mem_singleton.mp h)
  · intro h; rcases List.mem_cons.mp h with h | h; exact ne (by omega) h; exact ne (by omega) (List.mem_singleton.mp h)
  · intro h; rcases List.mem_cons.mp h with h | h; exact ne (by omega) h; exact ne (by omega) (List.mem_singleton.mp h)
theorem low_of (N a b : Nat) (h1 : a < N) (h2 : b < N) : ∀ c : Nat, c = N + 4 ∨ c = N + 2 ∨ c = N + 3 ∨ c ∈ [N, a] ∨ c ∈ [N + 1, b] → c < N + 5 := by
  intro c h
  simp only [List.mem_cons, List.not_mem_nil, or_false] at h
  omega
/-- the new list of pairs -/
def rZipL (K : PySem.W.Frag) : List V → Hp → VK → Prop := fun vs H Q => ∃ a b xs ys, vs = [.ref a, .ref b] ∧ SqT K H a xs ∧ SqT K H b ys ∧ xs.length = ys.length ∧
  ∀ (H' : Hp) (p : Addr) (ts : List Addr), (∀ b o, H b = some o → H' b = some o) → H p = none → (∀ t ∈ ts, H t = none) → p ∉ ts → H' p = some (.lst (ts.map V.ref)) → ts.length = xs.length → (∀ (j : Nat) (t : Addr) (x y : V), ts[j]? = some t → xs[j]? = some x → ys[j]? = some y → H' t = some (.tup [x, y])) → Q (.ref p) H'
section
variable {X : Cx}
theorem pe_listZip {e e2 : Expr} {ta : TA} {p p2 pos pos2 : Pos} (hc : X.calm = true) (hg : Gl X "list") (hm : X.mg "list" = none) (hg2 : Gl X "zip") (hm2 : X.mg "zip" = none) (ha : PA X [e, e2] ta)
    (hs : starEach [e, e2] X.env = (false, eval e X.env) :: starEach [e2] X.env := by rfl) (hpl : (backTo pos2 (starEach [e2] X.env)).any (·.1) = false := by rfl)
    (hs2 : starEach [.Call (.Name "zip" p2) [e, e2] [] pos2] X.env = (false, eval (.Call (.Name "zip" p2) [e, e2] [] pos2) X.env) :: starEach [] X.env := by rfl) :
    PE X (.Call (.Name "list" p) [.Call (.Name "zip" p2) [e, e2] [] pos2] [] pos) (fun σ H Q => ta σ H fun vs H1 => rZipL X.K vs H1 Q) := by
  refine ⟨fun pins s σ H Q I h => ?_⟩
  refine Call_ (ld_blt I hg hm boot_list (PyProof.Rows.callWith_type1 (args_cons (Call_ (ld_blt I hg2 hm2 PyProof.Rows.boot_zip (PyProof.Rows.callWith_type1 (thn (ha.run pos2 pins s σ H _ I h) fun us s1 ⟨vs, H1, I1, r1, q1⟩ => ?_) hs hpl))) hs2) hs2 rfl))
  obtain ⟨a, b, xs, ys, ex, hqx, hqy, hlen, q⟩ := q1
  subst ex
  cases r1 with
  | cons r rr =>
    cases rr with
    | cons r' rr =>
      cases rr
      cases r
      cases r'
      obtain ⟨its, rv, t1, hzx⟩ := I1.tuple hqx
      obtain ⟨its2, rv2, t2, hzy⟩ := I1.tuple hqy
      have q1 := rv.length
      have q2 := rv2.length
      have la : a < s1.heap.objs.size := by obtain ⟨o, ho, _⟩ := id t1; exact Heap.lt_size ho
      have lb : b < s1.heap.objs.size := by obtain ⟨o, ho, _⟩ := id t2; exact Heap.lt_size ho
      have hd := I1.ok.hd hc
      refine RZ.call_zipT (show s1.heap.IsTuple a its.toArray from t1) (show s1.heap.IsTuple b its2.toArray from t2) fun h' hz hTI hTO h1 h2 hsz hk => args_nil ?_
      have low := low_of s1.heap.objs.size a b la lb
      have up : ∀ b o, s1.heap.get? b = some o → h'.get? b = some o := hk
      have ht1 : h'.IsTuple a its.toArray := Heap.IsTuple.at t1 fun o e => hk a o e
      have ht2 : h'.IsTuple b its2.toArray := Heap.IsTuple.at t2 fun o e => hk b o e
      have hd' : X.A.in1.in1.in1.handled = none := hd
      have D1 := Draws.tuple (prog := X.prog) (w := X.w) hd' s1.heap.objs.size a (Nat.ne_of_lt la) its.toArray
      have D2 := Draws.tuple (prog := X.prog) (w := X.w) hd' (s1.heap.objs.size + 1) b (Nat.ne_of_lt (Nat.lt_succ_of_lt lb)) its2.toArray
      have z1 : its.toArray.size = xs.length := by simp only [List.size_toArray]; omega
      have z2 : its2.toArray.size = xs.length := by simp only [List.size_toArray]; omega
      refine zl_call (s := { s1 with heap := h' }) (n := xs.length) (sep_of s1.heap.objs.size a b la lb) D1 D2
        (by show ∀ c, _ → c < h'.objs.size; rw [hsz]; exact low) (Nat.le_of_eq z1.symm) (Nat.le_of_eq z2.symm) (.inl z1.symm) hzx hz hTI hTO ⟨h1, ht1⟩ ⟨h2, ht2⟩ fun h'' tk acc c as hkp hS hl hG hacc => ?_
      have low2 : ∀ c, c < s1.heap.objs.size → c ≠ s1.heap.objs.size + 4 ∧ c ≠ s1.heap.objs.size + 3 ∧ c ≠ s1.heap.objs.size ∧ c ≠ s1.heap.objs.size + 1 := fun c h => by omega
      have kk : ∀ b o, s1.heap.get? b = some o → h''.get? b = some o := fun b o e => by
        obtain ⟨e1, e2, e3, e4⟩ := low2 b (Heap.lt_size e)
        exact hkp b o e1 e2 e3 e4 (hk b o e)
      obtain ⟨H', k1, k2, k3, k4, k5, k6, J⟩ := zl_laid (tk := tk) I1 (xs.zip ys) (by rw [List.length_zip]; omega) kk (by show _ ≤ h'.objs.size; rw [hsz]; omega) hS (by rw [List.length_zip]; omega) hG (fun j x1 x2 p p1 p2 e => by
        obtain ⟨u, v⟩ := p
        rw [List.getElem?_zip_eq_some] at e
        obtain ⟨w1, y1, z1⟩ := rv.get e.1
        obtain ⟨w2, y2, z2⟩ := rv2.get e.2
        simp only [List.getElem?_toArray] at p1 p2
        rw [p1] at y1
        rw [p2] at y2
        cases y1
        cases y2
        exact ⟨z1, z2⟩) hacc
      exact ⟨.ref _, H', J, rfl, q H' _ as k1 k2 k3 k4 k5 (by omega) fun j t x y e1 e2 e3 => k6 j t (x, y) e1 (List.getElem?_zip_eq_some.mpr ⟨e2, e3⟩)⟩
end
end DP

/-! ## DSetN -/
set_option Elab.async false
set_option linter.all false
set_option maxRecDepth 100000
set_option autoImplicit false
/-! len(set(xs)), xs a list of texts, of any length. -/
namespace DP
open PySem PySem.Spec PyProof.Rows L2
theorem dst_snoc (l : List Str) (x : Str) : dst (l ++ [x]) = if x ∈ dst l then dst l else x :: dst l := by
  unfold dst
  rw [List.foldl_append, List.foldl_cons, List.foldl_nil]
theorem dst_le0 : ∀ (l acc : List Str), (l.foldl (fun acc x => if x ∈ acc then acc else x :: acc) acc).length ≤ acc.length + l.length
  | [], acc => Nat.le_refl _
  | x :: l, acc => by
    rw [List.foldl_cons, List.length_cons]
    by_cases h : x ∈ acc
    · rw [if_pos h]
      have := dst_le0 l acc
      omega
    · rw [if_neg h]
      have := dst_le0 l (x :: acc)
      rw [List.length_cons] at this
      omega
theorem dst_le (l : List Str) : (dst l).length ≤ l.length := by
  have := dst_le0 l []
  unfold dst
  simpa using this
theorem dst_mem0 (z : Str) : ∀ (l acc : List Str), z ∈ l.foldl (fun acc x => if x ∈ acc then acc else x :: acc) acc ↔ z ∈ acc ∨ z ∈ l
  | [], acc => by simp
  | x :: l, acc => by
    rw [List.foldl_cons, dst_mem0 z l, List.mem_cons]
    split
    · rename_i h
      exact ⟨fun e => e.elim .inl fun e => .inr (.inr e), fun e => e.elim .inl fun e => e.elim (fun e => .inl (e ▸ h)) .inr⟩
    · rw [List.mem_cons]
      exact ⟨fun e => e.elim (fun e => e.elim (fun e => .inr (.inl e)) .inl) fun e => .inr (.inr e), fun e => e.elim (fun e => .inl (.inr e)) fun e => e.elim (fun e => .inl (.inl e)) .inr⟩
theorem dst_mem (l : List Str) (z : Str) : z ∈ dst l ↔ z ∈ l := by
  unfold dst
  rw [dst_mem0]
  simp
section
variable {P : Program} {w : World} {A : Around} {E : Value → Shared → Prop} {s : Shared}
/-- the set at S holds these texts -/
def TxtSet (P : Program) (w : World) (h : Heap) (S : Addr) (ys : List Str) : Prop := h.SetOf (strKind P w) S (fun z => decide (z ∈ ys)) (dst ys).length
theorem TxtSet.at {h h' : Heap} {S : Addr} {ys : List Str} (t : TxtSet P w h S ys) (k : ∀ o, h.get? S = some o → h'.get? S = some o) : TxtSet P w h' S ys := by
  obtain ⟨o, es, ep, tb, ho, rest⟩ := t
  exact ⟨o, es, ep, tb, k o ho, rest⟩
theorem upd_txts {I : Addr} {fp wr : List Addr} {G : Array GenState → Array GenState → Prop} {n : Nat} {Pv : Nat → Value → Prop} {St : Nat → Shared → Prop} {R : Result → Shared → Prop}
    (W : WalksS P w A.in1 I fp wr G n Pv St) (S : Addr) (hSf : S ∉ fp) (ys : List Str) (hn : n = ys.length) (hb : ys.length + 1 < scanBound) (hval : ∀ i v, Pv i v → ∃ k t, ys[i]? = some k ∧ v = .str k t) :
    ∀ (k i : Nat) (s : Shared), n - i = k → i ≤ n → St i s → TxtSet P w s.heap S (ys.take i) →
      (∀ s', Moved (S :: wr) G s s' → TxtSet P w s'.heap S ys → R (.ok (.ret .none)) s') →
      codeAny (model P w) A (.builtin "set.update.loop" ⟨[.ref S, .ref I], []⟩) R s := by
  have hSw : S ∉ wr := fun h => hSf (W.sub _ h)
  have hsub : ∀ b ∈ wr, b ∈ S :: wr := fun b hb => List.mem_cons_of_mem _ hb
  intro k
  induction k with
  | zero =>
    intro i s hk' hi hst hS hR
    have hin : i = n := by omega
    subst hin
    refine codeAny_builtin F.entry_set_update_loop ?_
    rw [Around.under_plainId F.plain_set_update_loop _]
    show wpAny _ A.in1 (pyNext (.ref I) >>= _) _ _ s
    refine wpAny_bind (W.done s _ _ hst fun s' hm => ?_)
    show wpAny _ A.in1 (ret Value.none) _ _ s'
    rw [List.take_of_length_le (by omega)] at hS
    exact wpAny_pure (hR s' (hm.mono hsub) (hS.at fun o e => hm.heap S o hSw e))
  | succ k ih =>
    intro i s hk' hi hst hS hR
    have hlt : i < n := by omega
    refine codeAny_builtin F.entry_set_update_loop ?_
    rw [Around.under_plainId F.plain_set_update_loop _]
    show wpAny _ A.in1 (pyNext (.ref I) >>= _) _ _ s
    refine wpAny_bind (W.item i s _ _ hlt hst fun v s' hP hst' hm => ?_)
    obtain ⟨z, t, hz, rfl⟩ := hval i v hP
    have hS' : TxtSet P w s'.heap S (ys.take i) := hS.at fun o e => hm.heap S o hSw e
    show wpAny _ A.in1 (holding [Value.str z t] (setAdd S (.str z t)) >>= _) _ _ s'
    refine wpAny_bind (wpAny_holding ?_)
    unfold setAdd
    refine wpAny_holding ?_
    refine wpAny_bind ((strKind P w).pyHash (k := z) (strKind_is _ _ _ _) ?_)
    have hc := dst_le (ys.take i)
    rw [List.length_take] at hc
    refine wpAny_setAddHashed_of (knd := strKind P w) (s := { s' with toks := s'.toks + 1 }) (strKind_is _ _ _ _) rfl hS' (by omega) fun h' hsb hS2 => ?_
    have hS3 : TxtSet P w h' S (ys.take (i + 1)) := by
      refine SetOf_congr hS2 (fun j => ?_) ?_
      · rw [List.take_add_one, hz]
        simp [List.mem_append]
      · rw [List.take_add_one, hz]
        simp only [Option.toList_some, dst_snoc, dst_mem, decide_eq_true_eq]
        split <;> simp
    refine wpAny_pure ⟨plainId_quiet F.plain_set_update_loop _, ih (i + 1) _ (by omega) hlt (W.frame _ s' _ _ hst' (Nat.le_succ _) fun b hb o e => ?_) hS3 fun s'' hm'' hS'' => ?_⟩
    · rw [hsb.2 b (fun h : b = S => hSf (by rw [← h]; exact hb))]; exact e
    · refine hR s'' (Moved.trans W.gtrans ((hm.mono hsub).then_heap (Nat.le_succ _) fun b o hb e => ?_) hm'') hS''
      rw [hsb.2 b (fun h : b = S => hb (by rw [h]; exact List.mem_cons_self))]; exact e
/-- an empty set -/
def emptySet (w : World) : Obj := { cls := .type "set", dict := none, data := .set #[] 0 (.fresh 0 0 (!w.params.followText "set-order")) }
theorem emptySet_txt {h : Heap} {S : Addr} (ho : h.get? S = some (emptySet w)) : TxtSet P w h S [] :=
  SetOf_congr ((setObjOf_fresh (knd := strKind P w) (!w.params.followText "set-order")).setOf ho (by decide)) (fun _ => rfl) rfl
set_option maxHeartbeats 3200000 in
theorem call_set_txts {l : Addr} {items : Array Value} (ys : List Str) {Q : Value → Shared → Prop} (hh : A.handled = none) (hl : s.heap.IsList l items) (hit : StrsAre items.toList ys) (hb : ys.length + 1 < scanBound)
    (h : ∀ (h' : Heap) (tk : Nat), TxtSet P w h' s.heap.objs.size ys → (∀ b o, s.heap.get? b = some o → h'.get? b = some o) → Q (.ref s.heap.objs.size) { s with heap := h', toks := tk }) :
    wpAny (model P w) A (call (.type "set") [.ref l]) Q E s := by
  have hisz : items.size = ys.length := by
    have q := StrsAre.len_eq hit
    rw [Array.length_toList] at q
    exact q
  obtain ⟨c, tl, hmro⟩ := F.called_set.mro
  have hmade := F.called_set.made
  have hsub := F.called_set.sub
  refine wpAny_call (codeAny_of_tree ?_)
  show wpAny _ _ (callAny (.type "set") _) _ _ _
  refine wpAny_pure ⟨Code.quiet_builtin _ (by decide +kernel), codeAny_builtin F.entry_type_call ?_⟩
  rw [Around.under_plain (weight_type_call_type "set" [.ref l] []) rfl]
  have h1 := F.called_set.notType
  have h2 := F.called_set.canCreate
  have hct := F.typeCall_set_1 (.ref l)
  repeat (any_goals (first | assumption | wp_step))
  refine codeAny_mono (code_set_led1 (.ref l) (E := E) (Q₁ := fun obj s₁ => obj = .ref s.heap.objs.size ∧ s₁ = { s with heap := s.heap.push (emptySet w) }) ⟨rfl, rfl⟩) fun r s₁ hr => ?_
  cases r with
  | error e => exact hr
  | ok fl =>
    cases fl with
    | ret obj =>
      obtain ⟨rfl, rfl⟩ := hr
      have hS : (s.heap.push (emptySet w)).get? s.heap.objs.size = some (emptySet w) := Heap.get?_push_size _ rfl
      have hT : Shared.TypeIs { s with heap := s.heap.push (emptySet w) } (.ref s.heap.objs.size) "set" := ⟨_, hS, rfl⟩
      have hli := F.called_set.init.lookup
      have hbi := F.called_set.init.bind (.ref s.heap.objs.size)
      repeat (any_goals (first | assumption | wp_step))
      refine codeAny_mono (codeAny_call_builtin (R := wants (fun r s₂ => r = .none ∧ ∃ h' tk, s₂ = { s with heap := h', toks := tk } ∧ TxtSet P w h' s.heap.objs.size ys ∧ (∀ b o, s.heap.get? b = some o → h'.get? b = some o)) E) F.called_set.init.plain F.entry_set_init (check_set_init_1 hT ?_)) fun r₂ s₂ hr₂ => ?_
      · obtain ⟨ol, hol, hcl, nl, hdl⟩ := hl
        obtain ⟨ocls, odict, odata, oslots⟩ := ol
        simp only at hcl hdl
        subst hcl; subst hdl
        have hol' : (s.heap.push (emptySet w)).get? l = some { cls := .type "list", dict := odict, data := .seq items nl, slots := oslots } := Heap.get?_push_of_some _ hol
        have hsls := F.sub_list_set
        have hslf := F.sub_list_frozenset
        have hne : (Value.type "list" == Value.type "dict") = false := by decide
        have hl1 : (s.heap.push (emptySet w)).IsList l items := ⟨_, hol', rfl, nl, rfl⟩
        unfold Builtin.«set.__init__» noKeywords Builtin.Frozenset.updateFrom
        generalize hPI : pyIter = PI
        wp_walk
        subst hPI
        refine wpAny_pyIter_list hl1 ?_
        refine wpAny_bind (wpAny_runValue ?_)
        have hlS : l < s.heap.objs.size := Heap.lt_size hol
        have hh3 : A.in1.in1.in1.handled = none := by simp [hh]
        have hneI : l ≠ (s.heap.push (emptySet w)).objs.size := by
          rw [Heap.size_push]; exact Nat.ne_of_lt (Nat.lt_succ_of_lt hlS)
        have hSf : s.heap.objs.size ∉ [(s.heap.push (emptySet w)).objs.size, l] := by
          rw [Heap.size_push]; simp only [List.mem_cons, List.mem_singleton, List.not_mem_nil, or_false, not_or]
          exact ⟨Nat.ne_of_lt (Nat.lt_succ_self _), Nat.ne_of_gt hlS⟩
        have hval : ∀ (i : Nat) (v : Value), items[i]? = some v → ∃ k t, ys[i]? = some k ∧ v = .str k t := fun i v hv => by
          have hi : i < ys.length := by rw [← hisz]; exact (Array.getElem?_eq_some_iff.mp hv).1
          obtain ⟨t, e⟩ := SS.strs_at hit i v (by rw [Array.getElem?_toList]; exact hv)
          refine ⟨ys[i], t, List.getElem?_eq_getElem hi, ?_⟩
          rw [e, List.getD_eq_getElem?_getD, List.getElem?_eq_getElem hi] <;> rfl
        refine upd_txts ((Walks.list hh3 _ l hneI items).toS) s.heap.objs.size
          hSf ys hisz hb hval (items.size - 0) 0 _ (by omega) (Nat.zero_le _)
          ⟨⟨_, Heap.get?_push_size _ rfl, rfl, rfl⟩, (hl1.push _)⟩ ?hS0 ?hR
        case hS0 => exact emptySet_txt (Heap.get?_push_of_some _ hS)
        case hR =>
          intro s' hm hS'
          obtain ⟨h', g2, d', tk', os'⟩ := s'
          have eg : g2 = s.gens := hm.gens
          have ed : d' = s.drawn := hm.drawn
          have eo : os' = s.os := hm.os
          subst eg; subst ed; subst eo
          show wpAny _ _ _ _ _ _
          refine wpAny_pure ?_
          show wpAny _ _ (ret Value.none) _ _ _
          refine wpAny_pure ⟨rfl, h', tk', rfl, hS', fun b o e => ?_⟩
          have hb0 : b < s.heap.objs.size := Heap.lt_size e
          have hb1 : b ≠ s.heap.objs.size := Nat.ne_of_lt hb0
          have hb2 : b ≠ (s.heap.push (emptySet w)).objs.size := by
            rw [Heap.size_push]; exact Nat.ne_of_lt (Nat.lt_succ_of_lt hb0)
          exact hm.heap b o (by simp only [List.mem_cons, List.mem_singleton, List.not_mem_nil, or_false, not_or]; exact ⟨hb1, hb2⟩) (Heap.get?_push_of_some _ (Heap.get?_push_of_some _ e))
      · cases r₂ with
        | error e => exact hr₂
        | ok fl₂ =>
          cases fl₂ with
          | ret r =>
            obtain ⟨rfl, h', tk, rfl, hS', hk'⟩ := hr₂
            repeat (any_goals (first | assumption | wp_step))
            exact h _ _ hS' hk'
          | _ => exact hr₂.elim
    | _ => exact hr.elim
end
/-- len(set(xs)), xs a list of texts -/
def tLenTxts (K : PySem.W.Frag) (ta : TE) : TE := fun σ H Q => ta σ H fun x H1 => ∃ l, ∃ ys : List Str, x = .ref l ∧ SqL K H1 l (ys.map V.str) ∧ ys.length ≤ 4000 ∧ Q (.int (dst ys).length) H1
theorem pe_lenTxts {X : Cx} {a : Expr} {ta : TE} {p p2 q pos : Pos} (hc : X.calm = true) (hg : Gl X "len") (hm : X.mg "len" = none) (hg2 : Gl X "set") (hm2 : X.mg "set" = none) (ha : PE X a ta)
    (na : starEach [a] X.env = (false, eval a X.env) :: starEach [] X.env := by rfl) : PE X (.Call (.Name "len" p) [.Call (.Name "set" p2) [a] [] q] [] pos) (tLenTxts X.K ta) := by
  refine ⟨fun pins s σ H Q I h => ?_⟩
  refine Call_ (ld_blt I hg hm boot_len ?_)
  refine PyProof.Rows.callWith_builtin1 (PyProof.Rows.args_cons ?_ rfl) rfl rfl
  refine Call_ (ld_blt I hg2 hm2 boot_set ?_)
  refine PyProof.Rows.callWith_type1 (PyProof.Rows.args_cons (thn (ha.run pins s σ H _ I h) fun v s1 ⟨x, H1, I1, r1, q1⟩ => PyProof.Rows.args_nil ?_) na) na rfl
  obtain ⟨l, ys, rfl, hq, h1, q1⟩ := q1
  cases r1
  obtain ⟨its, r, pl, hz⟩ := I1.list hq
  refine call_set_txts ys (I1.ok.hd hc) pl.isList (by simpa using strsAre_of r) (by unfold scanBound; omega) fun h' tk hS hk => ?_
  refine PyProof.Rows.args_nil ?_
  obtain ⟨o, es, ep, t, ho, hex, hd, _, _, _, hf, hn⟩ := hS
  have I2 : Inv X pins σ H1 { s1 with heap := h', toks := tk } := I1.kept hk
  have hle := dst_le ys
  exact call_len_set ho hex hd hf (by rw [hn] <;> omega) ⟨.int (dst ys).length, H1, I2.tok _, ⟨_, by rw [hn]⟩, q1⟩
end DP

/-! ## DZip -/
set_option Elab.async false
set_option linter.all false
set_option maxRecDepth 100000
set_option maxHeartbeats 1000000
set_option autoImplicit false
/-! list(zip(a, b)), a and b tuples, in the deep layer. -/
namespace DP
open PySem PySem.Spec PyProof.Rows L2
variable [Tb]
theorem rpall_zip {K : PySem.W.Frag} {F : Hp} : ∀ (ts : List Addr) (vs ws : List V) (xs ys : List PyData), ts.length = vs.length → ts.length = ws.length → (∀ (j : Nat) (t : Addr) (x y : V), ts[j]? = some t → vs[j]? = some x → ws[j]? = some y → F t = some (.tup [x, y])) →
    RpAll K F vs xs → RpAll K F ws ys → RpAll K F (ts.map V.ref) ((xs.zip ys).map fun p => .tuple [p.1, p.2])
  | [], vs, ws, xs, ys, h1, h2, _, r1, r2 => by
    have e1 : vs = [] := List.length_eq_zero_iff.mp h1.symm
    subst e1
    cases r1
    simp
    exact .nil
  | t :: ts, vs, ws, xs, ys, h1, h2, hF, r1, r2 => by
    cases r1 with
    | nil => simp at h1
    | cons a r1 =>
      cases r2 with
      | nil => simp at h2
      | cons b r2 =>
        rw [List.zip_cons_cons, List.map_cons, List.map_cons]
        refine .cons (.tup (xs := [_, _]) (.inl (.inl (hF 0 t _ _ rfl rfl rfl))) (by show 2 ≤ sizeLine; decide) (.cons a (.cons b .nil))) (rpall_zip ts _ _ _ _ (by simpa using h1) (by simpa using h2) (fun j t' x y e1 e2 e3 => hF (j + 1) t' x y (by simpa using e1) (by simpa using e2) (by simpa using e3)) r1 r2)
section
variable {C : Ctx} {W : WX} {m : MC} {X : Cx}
theorem snd_zip (o : XOk C W m X) {x y : Str} {a e : Expr} {ro : DEnv → Res PyData} {rs : DEnv → Res (List PyData)} {p p2 pos pos2 : Pos} (hx : mGl m "list" x = true) (hy : mGl m "zip" y = true) (hs : noStar a = true) (hs0 : noStar e = true) (ho : PE X a (TB X W ro)) (ha : PA X [e] (TBs X W rs)) :
    PE X (.Call (.Name x p) [.Call (.Name y p2) [a, e] [] pos2] [] pos) (TV X W false (fun ρ => (ro ρ).bind fun x => if methOk "list.zip" x then (rs ρ).bind fun ds => methD "list.zip" x ds else .stuck)) := by
  obtain ⟨rfl, g1, n1⟩ := o.gl hx
  obtain ⟨rfl, g2, n2⟩ := o.gl hy
  refine PE.mono' (pe_listZip o.calm g1 (o.blt _ (by decide)) g2 (o.blt _ (by decide)) (pa_cons ho ha (star_cons hs)) (star_cons hs) (by
    rw [star_cons hs0]; rfl) (by rfl)) fun σ H Q q => ?_
  obtain ⟨F, ρ, s, fr, p⟩ := q
  unfold tCons
  refine TX.bindF (R' := RR X.K false) rrBack s fr p fun x F1 H1 d1 e1 r1 _ f1 p1 => ?_
  cases d1 with
  | tuple xs =>
    have p1 : PostX X.K X.mg W (RR X.K false H1) σ F1 H1 Q ((rs ρ).bind fun ds => zipLD (.tuple xs) ds) := p1
    refine TX.bindF (R' := RR X.K false) rrBack e1.fh f1 p1 fun us F2 H2 ds e2 r2 _ f2 p2 => ?_
    have p2 : PostX X.K X.mg W (RR X.K false H2) σ F2 H2 Q (zipLD (.tuple xs) ds) := p2
    match ds, r2, p2 with
    | [], _, p2 => exact p2.elim
    | h0 :: _ :: _, _, p2 => cases h0 <;> exact (show False from p2).elim
    | [d'], r2, p2 =>
      cases d' with
      | tuple ys =>
        simp only [zipLD] at p2
        split at p2
        · rename_i hz
          obtain ⟨v, rfl, rv⟩ := r2.one
          obtain ⟨ta, vs, rfl, hq1, z1, rr1⟩ := (r1.ext e2).tup
          obtain ⟨tb, ws, rfl, hq2, z2, rr2⟩ := rv.tup
          have l1 := rr1.length
          have l2 := rr2.length
          refine ⟨ta, tb, vs, ws, rfl, sub_t e2.fh hq1, sub_t e2.fh hq2, by omega, fun H' q ts k1 k2 k3 k4 k5 k6 k7 => ?_⟩
          obtain ⟨F', hF'⟩ : ∃ F' : Hp, F' = fun b => if b = q ∨ b ∈ ts then H' b else F2 b := ⟨_, rfl⟩
          have fre : ∀ b, (b = q ∨ b ∈ ts) → H2 b = none := fun b hb => by
            rcases hb with rfl | hb
            · exact k2
            · exact k3 b hb
          have keep : Sub F2 F' := fun b u e n => by
            rw [hF']
            have hb : ¬ (b = q ∨ b ∈ ts) := fun hb => by
              have := e2.fh.get e n
              rw [fre b hb] at this; cases this
            simp only [if_neg hb]; exact e
          have new : ∀ b, H2 b = none → (b = q ∨ b ∈ ts) → F' b = H' b := fun b hn hb => by
            rw [hF']; simp only [if_pos hb]
          have ext : Ext F2 H2 F' H' := by
            refine ⟨keep, ⟨fun b u e n => ?_, e2.fh.tb.ext k1⟩, Sub.of k1, fun b u e => ?_⟩
            · rw [hF'] at e
              dsimp only at e
              split at e
              · exact e
              · exact k1 b u (e2.fh.get e n)
            · rw [hF'] at e
              dsimp only at e
              split at e
              · rename_i hb
                exact .inr (nn_of (fre b hb))
              · exact .inl e
          refine p2 _ F' H' ext (.lst (by rw [new q k2 (.inl rfl)]; exact k5) (by rw [List.length_map]; omega) (rpall_zip ts vs ws xs ys (by omega) (by omega) (fun j t x y e1 e2' e3 => ?_) (RpAll.sub keep rr1) (RpAll.sub keep rr2)))
          have ht := List.mem_of_getElem? e1
          rw [new t (k3 t ht) (.inr ht)]
          exact k7 j t x y e1 e2' e3
        · exact p2.elim
      | _ => exact (show False from p2).elim
  | _ => exact (show False from p1).elim
theorem snd_lset (o : XOk C W m X) {x y : Str} {a : Expr} {ro : DEnv → Res PyData} {p p2 pos pos2 : Pos} (hx : mGl m "len" x = true) (hy : mGl m "set" y = true) (hs : noStar a = true) (ho : PE X a (TB X W ro)) :
    PE X (.Call (.Name x p) [.Call (.Name y p2) [a] [] pos2] [] pos) (TV X W false (fun ρ => (ro ρ).bind fun x => if methOk "set.len" x then (Res.ok []).bind fun ds => methD "set.len" x ds else .stuck)) := by
  obtain ⟨rfl, g1, n1⟩ := o.gl hx
  obtain ⟨rfl, g2, n2⟩ := o.gl hy
  refine PE.mono' (pe_lenTxts o.calm g1 (o.blt _ (by decide)) g2 (o.blt _ (by decide)) ho (star_cons hs)) fun σ H Q q => ?_
  obtain ⟨F, ρ, s, fr, p⟩ := q
  unfold tLenTxts
  refine TX.bindF (R' := RR X.K false) rrBack s fr p fun x F1 H1 d1 e1 r1 _ f1 p1 => ?_
  cases d1 with
  | list xs =>
    have p1 : PostX X.K X.mg W (RR X.K false H1) σ F1 H1 Q (lsetD (.list xs) []) := p1
    simp only [lsetD] at p1
    split at p1
    · rename_i ys hy
      split at p1
      · rename_i hl
        obtain ⟨l, vs, rfl, hq, z, rr⟩ := r1.lst e1.fh
        obtain ⟨rfl, _⟩ := strs_rp rr hy
        refine ⟨l, ys, rfl, SqL.of hq, hl, ?_⟩
        exact p1 _ F1 H1 (Ext.refl e1.fh) (.int _)
      · exact p1.elim
    · exact p1.elim
  | str => exact (show False from by simp only [Res.bind] at p1; exact p1).elim
  | _ => exact (show False from p1).elim
end
end DP

/-! ## DEnum -/
set_option Elab.async false
set_option linter.all false
set_option maxRecDepth 100000
set_option maxHeartbeats 1000000
set_option autoImplicit false
/-! for i, x in enumerate(xs) and for x, y in zip(xs, ys), tuples and lists. -/
namespace PySem
open Sem (wp)
open AutoSeq1 (wpAny_loadPart')
/-- an enumerate over a tuple -/
theorem meets_enumTup (l : Addr) (items : Array Value) (n : Nat) (dct : Option Addr) (sl : Array (Option Value)) :
    Meets (Builtin.«enumerate.__new__» ⟨[.type "enumerate", .ref l], []⟩) (fun _ R s => s.heap.get? l = some { cls := .type "tuple", dict := dct, data := .seq items n, slots := sl } ∧
      R (.ok (.ret (.ref (s.heap.push { cls := .type "tuple_iterator", data := .fields #[.ref l, .int 0 0] }).objs.size)))
        { s with heap := (s.heap.push { cls := .type "tuple_iterator", data := .fields #[.ref l, .int 0 0] }).push { cls := .type "enumerate", data := .fields #[.none, .bool false, .ref s.heap.objs.size, rawInt 0, .none, .none] } }) :=
  .of_wp fun prog w A R s h => by
    obtain ⟨hp, g, d, tk, os⟩ := s; obtain ⟨hl, h⟩ := h
    have hsub := sub_enumerate
    have hL : Heap.IsTuple (Shared.heap ⟨hp, g, d, tk, os⟩) l items := ⟨_, hl, rfl, n, rfl⟩
    wp_walk using wpAny_loadPart' hl
    refine wpAny_stack_any fun st => wpAny_pure ?_
    split
    · rename_i c _ _ _ _ _
      cases (c == Value.type "enumerate")
      · wp_walk using wpAny_loadPart' hl, wpAny_pyIter_tuple hL
        exact ⟨_, rfl, h⟩
      · wp_walk using wpAny_loadPart' hl, wpAny_pyIter_tuple hL
        exact ⟨_, rfl, h⟩
    · wp_walk using wpAny_loadPart' hl, wpAny_pyIter_tuple hL
      exact ⟨_, rfl, h⟩
theorem call_enumTup {prog : Program} {w : World} {A : Around} {E : Value → Shared → Prop} {s : Shared} {l : Addr} {items : Array Value} {Q : Value → Shared → Prop} (hL : s.heap.IsTuple l items)
    (h : ∀ h', IsEnum h' (s.heap.objs.size + 1) s.heap.objs.size 0 .none → h'.IsTupleIter s.heap.objs.size l 0 → (∀ b o, s.heap.get? b = some o → h'.get? b = some o) → Q (.ref (s.heap.objs.size + 1)) { s with heap := h' }) :
    wpAny (model prog w) A (call (.type "enumerate") [.ref l]) Q E s := by
  obtain ⟨⟨c, dct, dt, sl⟩, hl, hc, n, hd⟩ := hL
  replace hc : c = .type "tuple" := hc
  replace hd : dt = .seq items n := hd
  subst hc hd
  refine callType_new F.called_enumerate (by decide) (F.typeCall_enumerate_1 _) (F.newCall_enumerate_1 _) (fun obj => F.args_object_init_2 obj _) F.entry_enumerate_new
    (meets_enumTup l items n dct sl) ⟨hl, ?_⟩
  obtain ⟨h1, e1⟩ : ∃ h1, s.heap.push { cls := .type "tuple_iterator", data := .fields #[.ref l, .int 0 0] } = h1 := ⟨_, rfl⟩
  have hz : h1.objs.size = s.heap.objs.size + 1 := by rw [← e1]; exact Heap.size_push ..
  show _ ∧ _
  rw [e1, hz]
  have he : IsEnum (h1.push { cls := .type "enumerate", data := .fields #[.none, .bool false, .ref s.heap.objs.size, rawInt 0, .none, .none] }) (s.heap.objs.size + 1) s.heap.objs.size 0 .none := by
    rw [← hz]; exact Heap.get?_push_size _ rfl
  refine ⟨⟨_, he, rfl⟩, h _ he ⟨_, Heap.get?_push_of_some _ (by rw [← e1]; exact Heap.get?_push_size _ rfl), rfl, rfl⟩ fun b o x => Heap.get?_push_of_some _ (by rw [← e1]; exact Heap.get?_push_of_some _ x)⟩
end PySem
namespace L2
open PySem PySem.Spec PyProof.Rows
/-- the tuple at a, each item in a new pair with its number -/
def IteT (K : PySem.W.Frag) (a : Addr) : It :=
  ⟨fun i H => ∃ (xs : List V) (x : V), SqT K H a xs ∧ xs[i]? = some x, fun i H v H' => ∃ T x, v = .ref T ∧ H T = none ∧ H' = upd H T (.tup [.int (i : Nat), x]) ∧ ∀ xs, SqT K H a xs → xs[i]? = some x, fun i H => ∃ xs : List V, SqT K H a xs ∧ xs.length ≤ i⟩
theorem turn_enumT {P : Program} {w : World} {K : PySem.W.Frag} {elts : List Expr} {kk : Nat} {tpos : Pos} (a e it : Addr) (hai : a ≠ it) (hea : e ≠ a) :
    Turn P w K (.Tuple elts kk tpos) (IteT K a) [e, it] e (fun i h => (∃ old, IsEnum h e it ((i : Nat) : Int) old) ∧ h.IsTupleIter it a i ∧ e ≠ it) where
  mem := by simp
  obj := fun i h st b hb => by
    obtain ⟨⟨old, he⟩, ⟨o, ho, hc, hd⟩, _⟩ := st
    have e' : b = e ∨ b = it := by simpa using hb
    rcases e' with z | z
    · rw [z]; exact ⟨_, he, fun v q => nomatch q⟩
    · rw [z]; exact ⟨o, ho, fun v q => by rw [hd] at q; cases q⟩
  keep := fun i h h' st k => let ⟨⟨old, he⟩, hi, hne⟩ := st; ⟨⟨old, k e (by simp) _ he⟩, hi.at fun o q => k it (by simp) o q, hne⟩
  item := by
    intro X hP hw hK hc i pins s σ H E I hf st hg
    subst hP hw hK
    obtain ⟨⟨old, he⟩, hit, hne⟩ := st
    obtain ⟨xs, x, hq, hx⟩ := hg
    obtain ⟨its, rv, p, hz⟩ := I.tuple hq
    obtain ⟨u, hu, ru⟩ := rv.get hx
    have hel : e < s.heap.objs.size := Heap.lt_size he
    have hil : it < s.heap.objs.size := by obtain ⟨_, q, _⟩ := hit; exact Heap.lt_size q
    have hlt : i < its.toArray.size := by
      have := (List.getElem?_eq_some_iff.mp hu).1
      simpa using this
    refine wpAny_pyNext_enum_itemD (Draws.tuple (A := X.A.in1) (by simpa using I.ok.hd hc) it a hai its.toArray) he ⟨hit, p⟩ hlt hne (by simp [hne, hea]) fun x' h' tk hP' ho hit' hT hsz hk => ?_
    have hx' : x' = u := by
      have hP2 : its.toArray[i]? = some x' := hP'
      rw [List.getElem?_toArray, hu] at hP2
      exact (Option.some.inj hP2).symm
    subst hx'
    refine ⟨_, rfl, wpAny_letOwnedTupleGo_enum (s := { s with heap := h', toks := tk + 1 }) ho fun h'' he' sb => ?_⟩
    have hT2 : h''.get? s.heap.objs.size = some { cls := .type "tuple", data := .seq #[.int i tk, x'] } := (sb.2 _ (Nat.ne_of_gt hel)).trans hT
    have new : ObjOk X.prog X.w (upd H s.heap.objs.size (.tup [.int (i : Nat), x])) h'' s.heap.objs.size (.tup [.int (i : Nat), x]) :=
      ⟨by show 2 ≤ sizeLine; decide, [.int i tk, x'], .cons ⟨_, rfl⟩ (.cons ru .nil), ⟨_, hT2, rfl, _, rfl⟩⟩
    have I1 : Inv X pins σ (upd H s.heap.objs.size (.tup [.int (i : Nat), x])) { s with heap := h'', toks := tk + 1 } :=
      I.turnedNew (ch := [e, it]) (fun b ob hb q => (sb.2 b (fun z => hb (by simp [z]))).trans (hk b ob (fun z => hb (by simp [z])) (fun z => hb (by simp [z])) q)) hf (Nat.le_refl _) new
    refine ⟨.ref s.heap.objs.size, _, I1, rfl, ⟨_, x, rfl, I.hok.fresh (Nat.le_refl _), rfl, fun ys hy => by rw [I.tuple_inj hy hq]; exact hx⟩, ⟨⟨x', ?_⟩, hit'.1.at fun o q => (sb.2 it (Ne.symm hne)).trans q, hne⟩, fun b hb => ?_⟩
    · have e1 : ((i + 1 : Nat) : Int) = (i : Int) + 1 := by omega
      rw [e1]; exact he'
    · have hb' : b < s.heap.objs.size := by
        have e' : b = e ∨ b = it := by simpa using hb
        rcases e' with z | z
        · rw [z]; exact hel
        · rw [z]; exact hil
      rw [upd_ne (Nat.ne_of_lt hb')]
      exact (hf b hb).1
  done := by
    intro X hP hw hK hc i pins s σ H E I hf st hg
    subst hP hw hK
    obtain ⟨⟨old, he⟩, hit, hne⟩ := st
    obtain ⟨xs, hq, hx⟩ := hg
    obtain ⟨its, rv, p, hz⟩ := I.tuple hq
    obtain ⟨f0, f1, f2, f3, f4, f5⟩ := hf it (by simp)
    have hl := rv.length
    unfold pyNext
    refine wpAny_bind (wpAny_attempt (wpAny_callSpecial?_slot (name := Str.ofString "__next__") ⟨_, he, rfl⟩ F.slot_enumerate_next
      (wpAny_call_entry F.slot_enumerate_next ⟨_, he, rfl⟩ F.entry_enumerate_next ?_ (F.args_enumerate_next_1 _))))
    show wpAny _ _ (field (.ref e) 2 >>= _) _ _ _
    refine wpAny_bind (wpAny_field he rfl (x := .ref it) rfl ?_)
    refine wpAny_bind (wpAny_nextOf_tuple_end (by simpa using I.ok.hd hc) hit p (by simp; omega) fun h' x he' hx' => ?_)
    obtain ⟨o, ho, hc'⟩ := hx'
    refine wpAny_bind (wpAny_isInstance (T := "StopIteration") (b := true) ⟨o, ho, hc'⟩ isSubtype_stop ?_)
    exact wpAny_pure ⟨rfl, I.turned (t' := s.toks) (fun b o hb q => he' b o hb q) f0 f1 f3 f4 f5⟩
  self := fun A i s Q E st h => let ⟨⟨_, he⟩, _⟩ := st; wpAny_pyIter_enum he h
def iEnumT (K : PySem.W.Frag) (ta : TA) : TI := fun σ H R => ta σ H fun vs H1 => ∃ a xs, vs = [.ref a] ∧ SqT K H1 a xs ∧ R (IteT K a) H1
theorem pi_enumT {X : Cx} {e : Expr} {ta : TA} {p pos tpos : Pos} {elts : List Expr} {kk : Nat} (hg : Gl X "enumerate") (hm : X.mg "enumerate" = none) (ha : PA X [e] ta) (hs : starEach [e] X.env = [(false, eval e X.env)] := by rfl) :
    PI X (.Tuple elts kk tpos) (.Call (.Name "enumerate" p) [e] [] pos) (iEnumT X.K ta) := by
  refine ⟨fun pins s σ H R I h => ?_⟩
  refine Call_ (ld_blt I hg hm boot_enumerate (PyProof.Rows.callWith_type1 (thn (ha.run pos pins s σ H _ I h) fun us s1 ⟨vs, H1, I1, r1, q1⟩ => ?_) hs rfl))
  obtain ⟨a, xs, ex, hq, q⟩ := q1
  subst ex
  cases r1 with
  | cons r rr =>
    cases rr
    cases r
    obtain ⟨its, rv, p', hz⟩ := I1.tuple hq
    have hal : a < s1.heap.objs.size := by obtain ⟨_, q, _⟩ := p'; exact Heap.lt_size q
    refine call_enumTup (show s1.heap.IsTuple a its.toArray from p') fun h' he hit hk => wpAny_pyIter_enum he ?_
    have I2 : Inv X pins σ H1 { s1 with heap := h' } := I1.kept (t' := s1.toks) hk
    refine ⟨s1.heap.objs.size + 1, [s1.heap.objs.size + 1, s1.heap.objs.size], _, _, H1, rfl, I2, turn_enumT a (s1.heap.objs.size + 1) s1.heap.objs.size (Nat.ne_of_lt hal) (Nat.ne_of_gt (Nat.lt_succ_of_lt hal)), ⟨⟨.none, he⟩, hit, Nat.succ_ne_self _⟩, fun b hb => ?_, q⟩
    have e' : b = s1.heap.objs.size + 1 ∨ b = s1.heap.objs.size := by simpa using hb
    have hle : s1.heap.objs.size ≤ b := by
      rcases e' with z | z
      · rw [z]; exact Nat.le_add_right _ _
      · rw [z]; exact Nat.le_refl _
    exact I1.fpOk hle (I1.hok.fresh hle)
section
variable {X : Cx}
/-- a op1 b op2 c op3 d -/
def tChain3 (r r' r'' : R2) (ta tb tc td : TE) : TE := fun σ H Q => ta σ H fun x H1 => tb σ H1 fun y H2 => r x y H2 fun z H3 => ∃ k, z = .bl k ∧
  (if k = true then tc σ H3 fun w H4 => r' y w H4 fun z2 H5 => ∃ k2, z2 = .bl k2 ∧ (if k2 = true then td σ H5 fun u H6 => r'' w u H6 Q else Q (.bl false) H5) else Q (.bl false) H3)
theorem pe_chain3 {op op' op'' : CmpOp} {r r' r'' : R2} {a b c d : Expr} {ta tb tc td : TE} {pos : Pos} (ho : OpR X (compareOp op) r) (ho' : OpR X (compareOp op') r') (ho'' : OpR X (compareOp op'') r'') (ha : PE X a ta) (hb : PE X b tb) (hc : PE X c tc) (hd : PE X d td)
    (hm : lastMarks [op, op', op''] [b, c, d] = false) : PE X (.Compare a [op, op', op''] [b, c, d] pos) (tChain3 r r' r'' ta tb tc td) := by
  refine ⟨fun pins s σ H Q I h => ?_⟩
  refine Compare_chain (thn (ha.run pins s σ H _ I h) fun v s1 ⟨x, H1, I1, r1, q1⟩ => chain_link (thn (hb.run pins s1 σ H1 _ I1 q1) fun u s2 ⟨y, H2, I2, r2, q2⟩ =>
    thn (ho pins s2 σ H2 x y v u _ I2 r1 r2 q2) fun d0 s3 ⟨z, H3, I3, r3, k, e, q3⟩ => ?_)) hm
  subst e
  cases r3
  refine wpAny_truthy_bool ?_
  cases k with
  | false => exact ite_ff ⟨.bl false, H3, I3, rfl, q3⟩
  | true =>
    refine ite_tt (chain_link (thn (hc.run pins s3 σ H3 _ I3 q3) fun w s4 ⟨z', H4, I4, r4, q4⟩ => thn (ho' pins s4 σ H4 y z' u w _ I4 r2 r4 q4) fun d1 s5 ⟨z2, H5, I5, r5, k2, e2, q5⟩ => ?_))
    subst e2
    cases r5
    refine wpAny_truthy_bool ?_
    cases k2 with
    | false => exact ite_ff ⟨.bl false, H5, I5, rfl, q5⟩
    | true => exact ite_tt (chain_last (thn (hd.run pins s5 σ H5 _ I5 q5) fun w' s6 ⟨z3, H6, I6, r6, q6⟩ => ho'' pins s6 σ H6 z' z3 w w' Q I6 r4 r6 q6))
theorem pt_chain3 {op op' op'' : CmpOp} {r r' r'' : R2} {a b c d : Expr} {ta tb tc td : TE} {pos : Pos} (ho : OpR X (compareOp op) r) (ho' : OpR X (compareOp op') r') (ho'' : OpR X (compareOp op'') r'') (ha : PE X a ta) (hb : PE X b tb) (hc : PE X c tc) (hd : PE X d td)
    (hm : lastMarks [op, op', op''] [b, c, d] = false) : PT X (.Compare a [op, op', op''] [b, c, d] pos) (tTest (tChain3 r r' r'' ta tb tc td)) := by
  refine ⟨fun pins s σ H Q I h => ?_⟩
  refine isTrue_chain (thn (ha.run pins s σ H _ I h) fun v s1 ⟨x, H1, I1, r1, q1⟩ => test_link (thn (hb.run pins s1 σ H1 _ I1 q1) fun u s2 ⟨y, H2, I2, r2, q2⟩ =>
    thn (ho pins s2 σ H2 x y v u _ I2 r1 r2 q2) fun d0 s3 ⟨z, H3, I3, r3, k, e, q3⟩ => ?_)) hm
  subst e
  cases r3
  refine wpAny_truthy_bool ?_
  cases k with
  | false =>
    obtain ⟨k', e', q'⟩ := q3
    cases e'
    exact ite_ff ⟨H3, I3, q'⟩
  | true =>
    refine ite_tt (test_link (thn (hc.run pins s3 σ H3 _ I3 q3) fun w s4 ⟨z', H4, I4, r4, q4⟩ => thn (ho' pins s4 σ H4 y z' u w _ I4 r2 r4 q4) fun d1 s5 ⟨z2, H5, I5, r5, k2, e2, q5⟩ => ?_))
    subst e2
    cases r5
    refine wpAny_truthy_bool ?_
    cases k2 with
    | false =>
      obtain ⟨k', e', q'⟩ := q5
      cases e'
      exact ite_ff ⟨H5, I5, q'⟩
    | true =>
      refine ite_tt (test_last (thn (hd.run pins s5 σ H5 _ I5 q5) fun w' s6 ⟨z3, H6, I6, r6, q6⟩ => thn (ho'' pins s6 σ H6 z' z3 w w' _ I6 r4 r6 q6) fun d' s7 ⟨z4, H7, I7, r7, k3, e3, q7⟩ => ?_))
      subst e3
      cases r7
      exact wpAny_truthy_bool ⟨H7, I7, q7⟩
end
end L2
namespace DP
open PySem PySem.Spec PyProof.Rows L2
variable [Tb]
section
variable {X : Cx} {W : WX}
theorem enum_len : ∀ (xs : List PyData) (n : Nat), (enumD n xs).length = xs.length
  | [], _ => rfl
  | x :: xs, n => by rw [enumD, List.length_cons, enum_len xs, List.length_cons]
theorem enum_at : ∀ (xs : List PyData) (n i : Nat) {x : PyData}, xs[i]? = some x → (enumD n xs)[i]? = some (.tuple [.int ((n + i : Nat) : Int), x])
  | y :: xs, n, 0, x, h => by
    simp only [List.getElem?_cons_zero, Option.some.injEq] at h
    rw [enumD, List.getElem?_cons_zero, h]; rfl
  | y :: xs, n, i + 1, x, h => by
    rw [List.getElem?_cons_succ] at h
    rw [enumD, List.getElem?_cons_succ, enum_at xs (n + 1) i h]
    congr 4; omega
theorem zip_len : ∀ (xs ys : List PyData), (zipD xs ys).length = min xs.length ys.length
  | [], ys => by simp [zipD]
  | x :: xs, [] => by simp [zipD]
  | x :: xs, y :: ys => by rw [zipD, List.length_cons, zip_len xs ys, List.length_cons, List.length_cons]; omega
theorem zip_at : ∀ (xs ys : List PyData) (i : Nat) {x y : PyData}, xs[i]? = some x → ys[i]? = some y → (zipD xs ys)[i]? = some (.tuple [x, y])
  | x' :: xs, y' :: ys, 0, x, y, h, h' => by
    simp only [List.getElem?_cons_zero, Option.some.injEq] at h h'
    rw [zipD, List.getElem?_cons_zero, h, h']
  | x' :: xs, y' :: ys, i + 1, x, y, h, h' => by
    rw [List.getElem?_cons_succ] at h h'
    rw [zipD, List.getElem?_cons_succ, zip_at xs ys i h h']
theorem itr_enum {K : PySem.W.Frag} {B F : Hp} {a : Addr} {vs : List V} {ds : List PyData} (h : ∀ H, Sub B H → SqL K H a vs) (z : vs.length ≤ sizeLine) (r : RpAll K F vs ds) : ItR K B F (Ite K a) (enumD 0 ds) := by
  refine ⟨by rw [enum_len, ← r.length]; exact z, (fun H => SqL K H a vs), YPair (fun i => some (.int (i : Nat))) (fun i => vs[i]?), by rw [enum_len, ← r.length]; exact walk_enum, h, fun i H x H' hi _ y => ?_⟩
  obtain ⟨T, x1, x2, rfl, hn, e, h1, h2⟩ := y
  obtain ⟨d, k1, k2⟩ := r.get' h2
  cases h1
  refine ⟨_, enum_at ds 0 i k1, .inr ⟨T, _, _, rfl, hn, e, rfl, by show 2 ≤ sizeLine; decide, ?_⟩⟩
  rw [Nat.zero_add]
  exact .cons (.int _) (.cons k2 .nil)
theorem itr_enumT {K : PySem.W.Frag} {B F : Hp} {a : Addr} {vs : List V} {ds : List PyData} (h : ∀ H, Sub B H → SqT K H a vs) (z : vs.length ≤ sizeLine) (r : RpAll K F vs ds) : ItR K B F (IteT K a) (enumD 0 ds) := by
  refine ⟨by rw [enum_len, ← r.length]; exact z, (fun H => SqT K H a vs), YPair (fun i => some (.int (i : Nat))) (fun i => vs[i]?), ?_, h, fun i H x H' hi _ y => ?_⟩
  · rw [enum_len, ← r.length]
    refine ⟨fun i _ hi q => ⟨vs, vs[i], q, by simp [hi]⟩, fun _ q => ⟨vs, q, Nat.le_refl _⟩, fun i H v H' _ q y => ?_⟩
    obtain ⟨T, x, h1, h2, h3, h4⟩ := y
    exact ⟨T, .int (i : Nat), x, h1, h2, h3, rfl, h4 vs q⟩
  obtain ⟨T, x1, x2, rfl, hn, e, h1, h2⟩ := y
  obtain ⟨d, k1, k2⟩ := r.get' h2
  cases h1
  refine ⟨_, enum_at ds 0 i k1, .inr ⟨T, _, _, rfl, hn, e, rfl, by show 2 ≤ sizeLine; decide, ?_⟩⟩
  rw [Nat.zero_add]
  exact .cons (.int _) (.cons k2 .nil)
theorem itr_zipL {K : PySem.W.Frag} {B F : Hp} {a b : Addr} {vs ws : List V} {ds es : List PyData} (h : ∀ H, Sub B H → SqL K H a vs ∧ SqL K H b ws) (z : vs.length ≤ sizeLine) (r : RpAll K F vs ds) (r' : RpAll K F ws es) : ItR K B F (Itz K a b) (zipD ds es) := by
  refine ⟨by rw [zip_len, ← r.length]; omega, _, YPair (fun i => vs[i]?) (fun i => ws[i]?), by rw [zip_len, ← r.length, ← r'.length]; exact walk_zip rfl, h, fun i H x H' hi _ y => ?_⟩
  obtain ⟨T, x1, x2, rfl, hn, e, h1, h2⟩ := y
  obtain ⟨d, k1, k2⟩ := r.get' h1
  obtain ⟨d', k1', k2'⟩ := r'.get' h2
  exact ⟨_, zip_at ds es i k1 k1', .inr ⟨T, _, _, rfl, hn, e, rfl, by show 2 ≤ sizeLine; decide, .cons k2 (.cons k2' .nil)⟩⟩
theorem itr_zipTT {K : PySem.W.Frag} {B F : Hp} {a b : Addr} {vs ws : List V} {ds es : List PyData} (h : ∀ H, Sub B H → SqT K H a vs ∧ SqT K H b ws) (z : vs.length ≤ sizeLine) (r : RpAll K F vs ds) (r' : RpAll K F ws es) : ItR K B F (RZ.ItzT K a b) (zipD ds es) := by
  refine ⟨by rw [zip_len, ← r.length]; omega, (fun H => SqT K H a vs ∧ SqT K H b ws), YPair (fun i => vs[i]?) (fun i => ws[i]?), ?_, h, fun i H x H' hi _ y => ?_⟩
  · rw [zip_len, ← r.length, ← r'.length]
    refine ⟨fun i _ hi q => ?_, fun _ q => ⟨vs, ws, q.1, q.2, by omega⟩, fun i H v H' _ q y => ?_⟩
    · have h1 : i < vs.length := by omega
      have h2 : i < ws.length := by omega
      exact ⟨vs, ws, vs[i], ws[i], q.1, q.2, by simp [h1], by simp [h2]⟩
    · obtain ⟨T, x, z, h1, h2, h3, h4, h5⟩ := y
      exact ⟨T, x, z, h1, h2, h3, h4 vs q.1, h5 ws q.2⟩
  obtain ⟨T, x1, x2, rfl, hn, e, h1, h2⟩ := y
  obtain ⟨d, k1, k2⟩ := r.get' h1
  obtain ⟨d', k1', k2'⟩ := r'.get' h2
  exact ⟨_, zip_at ds es i k1 k1', .inr ⟨T, _, _, rfl, hn, e, rfl, by show 2 ≤ sizeLine; decide, .cons k2 (.cons k2' .nil)⟩⟩
/-- enumerate(e), all fixed -/
theorem pi_enF {e : Expr} {elts : List Expr} {kk : Nat} {tpos p pos : Pos} {r : DEnv → Res PyData} (hg : Gl X "enumerate") (hm : X.mg "enumerate" = none) (h : PE X e (TV X W false r)) (hs : noStar e = true) : PI X (.Tuple elts kk tpos) (.Call (.Name "enumerate" p) [e] [] pos) (TIf X W fun ρ => (r ρ).bind enumIt) := by
  refine ⟨fun pins s σ H R I q => ?_⟩
  have hs1 : starEach [e] X.env = [(false, eval e X.env)] := by rw [star_cons hs]; rfl
  obtain ⟨F, ρ, sF, f, q⟩ := q
  dsimp only at q
  cases z : r ρ with
  | stuck => rw [z] at q; exact q.elim
  | exc c d =>
    refine (pi_enumT hg hm (pa1 h hs) hs1).run pins s σ H R I ⟨F, ρ, sF, f, ?_⟩
    rw [z] at q ⊢; exact q
  | ok d =>
    rw [z, Res.bind_ok] at q
    cases d with
    | list ds =>
      refine (pi_enum hg hm (pa1 h hs) hs1).run pins s σ H R I ⟨F, ρ, sF, f, ?_⟩
      rw [z]
      intro v F' H' ex rr
      cases rr with
      | lst hq zz r' => exact ⟨_, _, rfl, sq_rd hq ex.fh, q _ F' H' ex (itr_enum (fun H'' s'' => sq_rd hq s'') zz r')⟩
    | tuple ds =>
      refine (pi_enumT hg hm (pa1 h hs) hs1).run pins s σ H R I ⟨F, ρ, sF, f, ?_⟩
      rw [z]
      intro v F' H' ex rr
      cases rr with
      | tup hq zz r' => exact ⟨_, _, rfl, sub_t ex.fh hq, q _ F' H' ex (itr_enumT (fun H'' s'' => sub_t s'' hq) zz r')⟩
    | _ => exact (show False from q).elim
theorem pi_zipF {a b : Expr} {elts : List Expr} {kk : Nat} {tpos p pos : Pos} {r r' : DEnv → Res PyData} (hg : Gl X "zip") (hm : X.mg "zip" = none) (h : PE X a (TV X W false r)) (h' : PE X b (TV X W false r')) (hs : noStar a = true) (hs' : noStar b = true) :
    PI X (.Tuple elts kk tpos) (.Call (.Name "zip" p) [a, b] [] pos) (TIf X W fun ρ => (r ρ).bind fun x => (r' ρ).bind fun y => zipIt x y) := by
  refine ⟨fun pins s σ H R I q => ?_⟩
  have hpa : PA X [a, b] (tCons (TV X W false r) (tCons (TV X W false r') tNil)) := pa_cons h (pa_cons h' pa_nil (star_cons hs')) (star_cons hs)
  refine (RZ.pi_zipA hg hm hpa (star_cons hs) (by rw [star_cons hs']; rfl)).run pins s σ H R I ?_
  obtain ⟨F, ρ, sF, f, p⟩ := q
  show TV X W false r σ H _
  refine TX.bindF (R' := fun _ F' H' J ds => ItR X.K F' F' J ds) itBackF sF f p fun x F1 H1 d1 e1 r1 _ f1 p1 => ?_
  show TV X W false r' σ H1 _
  refine TX.bindF (R' := fun _ F' H' J ds => ItR X.K F' F' J ds) itBackF e1.fh f1 p1 fun y F2 H2 d2 e2 r2 _ f2 p2 => ?_
  cases d1 with
  | list xs =>
    cases d2 with
    | list ys =>
      simp only [zipIt] at p2
      have r1' : Rp X.K F2 x (.list xs) := Rp.sub e2.ff (show Rp X.K F1 x (.list xs) from r1)
      cases r1' with
      | lst hq1 z1 k1 =>
        cases (show Rp X.K F2 y (.list ys) from r2) with
        | lst hq2 z2 k2 => exact ⟨_, _, _, _, rfl, .inl ⟨sq_rd hq1 e2.fh, sq_rd hq2 e2.fh, p2 _ F2 H2 (Ext.refl e2.fh) (itr_zipL (fun H'' s'' => ⟨sq_rd hq1 s'', sq_rd hq2 s''⟩) z1 k1 k2)⟩⟩
    | _ => exact (show False from p2).elim
  | tuple xs =>
    cases d2 with
    | tuple ys =>
      simp only [zipIt] at p2
      have r1' : Rp X.K F2 x (.tuple xs) := Rp.sub e2.ff (show Rp X.K F1 x (.tuple xs) from r1)
      cases r1' with
      | tup hq1 z1 k1 =>
        cases (show Rp X.K F2 y (.tuple ys) from r2) with
        | tup hq2 z2 k2 => exact ⟨_, _, _, _, rfl, .inr ⟨sub_t e2.fh hq1, sub_t e2.fh hq2, p2 _ F2 H2 (Ext.refl e2.fh) (itr_zipTT (fun H'' s'' => ⟨sub_t s'' hq1, sub_t s'' hq2⟩) z1 k1 k2)⟩⟩
    | _ => exact (show False from p2).elim
  | _ => exact (show False from by cases d2 <;> exact p2).elim
theorem chain3_mono {op op' op'' : COp} {ra rb rc rd : DEnv → Res PyData} {σ : L2.St} {H : Hp} {Q : VK}
    (q : TV X W false (fun ρ => (ra ρ).bind fun x => (rb ρ).bind fun y => (cmpB op x y).bind fun k => if k then (rc ρ).bind fun z => (cmpB op' y z).bind fun k' => if k' then (rd ρ).bind fun w => cmpD op'' z w else .ok (.bool false) else .ok (.bool false)) σ H Q) :
    tChain3 (rD X.K false (cmpD op)) (rD X.K false (cmpD op')) (rD X.K false (cmpD op'')) (TB X W ra) (TB X W rb) (TB X W rc) (TB X W rd) σ H Q := by
  obtain ⟨F, ρ, s, fr, p⟩ := q
  unfold tChain3
  refine TX.bindF (R' := RR X.K false) rrBack s fr p fun x F1 H1 d1 e1 r1 _ f1 p1 => ?_
  refine TX.bindF (R' := RR X.K false) rrBack e1.fh f1 p1 fun y F2 H2 d2 e2 r2 _ f2 p2 => ?_
  cases z : cmpB op d1 d2 with
  | exc c d => exact (cmpB_noexc _ _ _ _ _ z).elim
  | stuck => rw [z] at p2; exact p2.elim
  | ok k =>
    rw [z, Res.bind_ok] at p2
    refine ⟨F2, d1, d2, .bool k, e2.fh, r1.ext e2, r2, by unfold cmpD; rw [z]; rfl, fun v F3 H3 e3 r3 => ?_⟩
    cases (show Rp X.K F3 v (.bool k) from r3)
    refine ⟨k, rfl, ?_⟩
    cases k with
    | false =>
      have p3 : PostX X.K X.mg W (RR X.K false H3) σ F3 H3 Q (Res.ok (PyData.bool false)) := p2.mono e3 (fun v d F' H' _ q => q) fun _ _ q => q
      exact iteF (p3 _ F3 H3 (Ext.refl e3.fh) (.bl false))
    | true =>
      have p3 : PostX X.K X.mg W (RR X.K false H3) σ F3 H3 Q ((rc ρ).bind fun z => (cmpB op' d2 z).bind fun k' => if k' then (rd ρ).bind fun w => cmpD op'' z w else .ok (.bool false)) := p2.mono e3 (fun v d F' H' _ q => q) fun _ _ q => q
      refine iteT ?_
      refine TX.bindF (R' := RR X.K false) rrBack e3.fh (f2.ext e3) p3 fun w F4 H4 d4 e4 r4 _ f4 p4 => ?_
      cases z2 : cmpB op' d2 d4 with
      | exc c d => exact (cmpB_noexc _ _ _ _ _ z2).elim
      | stuck => rw [z2] at p4; exact p4.elim
      | ok k2 =>
        rw [z2, Res.bind_ok] at p4
        refine ⟨F4, d2, d4, .bool k2, e4.fh, (r2.ext e3).ext e4, r4, by unfold cmpD; rw [z2]; rfl, fun v F5 H5 e5 r5 => ?_⟩
        cases (show Rp X.K F5 v (.bool k2) from r5)
        refine ⟨k2, rfl, ?_⟩
        cases k2 with
        | false =>
          have p5 : PostX X.K X.mg W (RR X.K false H5) σ F5 H5 Q (Res.ok (PyData.bool false)) := p4.mono e5 (fun v d F' H' _ q => q) fun _ _ q => q
          exact iteF (p5 _ F5 H5 (Ext.refl e5.fh) (.bl false))
        | true =>
          have p5 : PostX X.K X.mg W (RR X.K false H5) σ F5 H5 Q ((rd ρ).bind fun w => cmpD op'' d4 w) := p4.mono e5 (fun v d F' H' _ q => q) fun _ _ q => q
          refine iteT ?_
          refine TX.bindF (R' := RR X.K false) rrBack e5.fh (f4.ext e5) p5 fun u F6 H6 d6 e6 r6 _ f6 p6 => ?_
          cases z3 : cmpD op'' d4 d6 with
          | ok d => rw [z3] at p6; exact ⟨F6, d4, d6, d, e6.fh, (r4.ext e5).ext e6, r6, z3, p6⟩
          | exc c d => exact (cmp_noexc _ _ _ _ _ z3).elim
          | stuck => rw [z3] at p6; exact p6.elim
end
end DP

/-! ## DSnd6 -/
set_option Elab.async false
set_option linter.all false
set_option maxRecDepth 100000
set_option maxHeartbeats 4000000
set_option autoImplicit false
namespace DP
open PySem PySem.Spec L2
variable [Tb]
section
variable {C : Ctx}
theorem tt_not {ra : DEnv → Res PyData} {X : Cx} {W : WX} {σ : L2.St} {H : Hp} {Q : Bool → Hp → Prop} (q : TTs X W (fun ρ => ((ra ρ).bind fun x => (asB x).bind fun b => .ok (.bool (!b))).bind asB) σ H Q) : tNot (TTs X W fun ρ => (ra ρ).bind asB) σ H Q := by
  obtain ⟨F, ρ, s, fr, p⟩ := q
  refine ⟨F, ρ, s, fr, ?_⟩
  dsimp only at p ⊢
  cases z : ra ρ with
  | stuck => rw [z] at p; exact p
  | exc c d => rw [z] at p; exact p
  | ok x =>
    rw [z] at p
    cases x with
    | bool b =>
      rintro b' F' H' e rfl
      exact p _ F' H' e rfl
    | _ => exact (show False from p).elim
theorem tv_not {ra : DEnv → Res PyData} {X : Cx} {W : WX} {f : Bool} {σ : L2.St} {H : Hp} {Q : VK} (q : TV X W false (fun ρ => (ra ρ).bind fun x => (asB x).bind fun b => .ok (.bool (!b))) σ H Q) : tNotV (TV X W f ra) σ H Q := by
  obtain ⟨F, ρ, s, fr, p⟩ := q
  unfold tNotV
  refine TX.bindF (R' := RR X.K false) rrBack s fr p fun x F1 H1 d1 e1 r1 _ f1 p1 => ?_
  cases d1 with
  | bool b =>
    have : Rp X.K F1 x (.bool b) := by cases f <;> exact r1
    cases this
    exact ⟨b, rfl, p1 _ F1 H1 (Ext.refl e1.fh) (.bl _)⟩
  | _ => exact (show False from p1).elim
theorem tv_and {ra rb : DEnv → Res PyData} {X : Cx} {W : WX} {f : Bool} {σ : L2.St} {H : Hp} {Q : VK} (q : TV X W false (fun ρ => (ra ρ).bind fun d => (asB d).bind fun b => if b then rb ρ else .ok (.bool false)) σ H Q) : tAndV (TV X W f ra) (TV X W false rb) σ H Q := by
  obtain ⟨F, ρ, s, fr, p⟩ := q
  unfold tAndV
  refine TX.bindF (R' := RR X.K false) rrBack s fr p fun x F1 H1 d1 e1 r1 _ f1 p1 => ?_
  cases d1 with
  | bool b =>
    have : Rp X.K F1 x (.bool b) := by cases f <;> exact r1
    cases this
    refine ⟨b, rfl, ?_⟩
    cases b with
    | true => exact iteT ⟨F1, ρ, e1.fh, f1, p1⟩
    | false => exact iteF (p1 _ F1 H1 (Ext.refl e1.fh) (.bl _))
  | _ => exact (show False from p1).elim
theorem tv_or {ra rb : DEnv → Res PyData} {X : Cx} {W : WX} {f : Bool} {σ : L2.St} {H : Hp} {Q : VK} (q : TV X W false (fun ρ => (ra ρ).bind fun d => (asB d).bind fun b => if b then .ok (.bool true) else rb ρ) σ H Q) : tOrV (TV X W f ra) (TV X W false rb) σ H Q := by
  obtain ⟨F, ρ, s, fr, p⟩ := q
  unfold tOrV
  refine TX.bindF (R' := RR X.K false) rrBack s fr p fun x F1 H1 d1 e1 r1 _ f1 p1 => ?_
  cases d1 with
  | bool b =>
    have : Rp X.K F1 x (.bool b) := by cases f <;> exact r1
    cases this
    refine ⟨b, rfl, ?_⟩
    cases b with
    | false => exact iteF ⟨F1, ρ, e1.fh, f1, p1⟩
    | true => exact iteT (p1 _ F1 H1 (Ext.refl e1.fh) (.bl _))
  | _ => exact (show False from p1).elim
theorem tt_and {ra rb : DEnv → Res PyData} {X : Cx} {W : WX} {σ : L2.St} {H : Hp} {Q : Bool → Hp → Prop} (q : TTs X W (fun ρ => ((ra ρ).bind fun d => (asB d).bind fun b => if b then rb ρ else .ok (.bool false)).bind asB) σ H Q) :
    tAnd (TTs X W fun ρ => (ra ρ).bind asB) (TTs X W fun ρ => (rb ρ).bind asB) σ H Q := by
  obtain ⟨F, ρ, s, fr, p⟩ := q
  refine ⟨F, ρ, s, fr, ?_⟩
  dsimp only at p ⊢
  cases z : ra ρ with
  | stuck => rw [z] at p; exact p
  | exc c d => rw [z] at p; exact p
  | ok x =>
    rw [z] at p
    cases x with
    | bool b =>
      rintro b' F' H' e rfl
      cases b' with
      | true => exact iteT ⟨F', ρ, e.fh, fr.ext e, p.mono e (fun _ _ _ _ _ q => q) fun _ _ q => q⟩
      | false => exact iteF (p _ F' H' e rfl)
    | _ => exact (show False from p).elim
theorem tt_or {ra rb : DEnv → Res PyData} {X : Cx} {W : WX} {σ : L2.St} {H : Hp} {Q : Bool → Hp → Prop} (q : TTs X W (fun ρ => ((ra ρ).bind fun d => (asB d).bind fun b => if b then .ok (.bool true) else rb ρ).bind asB) σ H Q) :
    tOr (TTs X W fun ρ => (ra ρ).bind asB) (TTs X W fun ρ => (rb ρ).bind asB) σ H Q := by
  obtain ⟨F, ρ, s, fr, p⟩ := q
  refine ⟨F, ρ, s, fr, ?_⟩
  dsimp only at p ⊢
  cases z : ra ρ with
  | stuck => rw [z] at p; exact p
  | exc c d => rw [z] at p; exact p
  | ok x =>
    rw [z] at p
    cases x with
    | bool b =>
      rintro b' F' H' e rfl
      cases b' with
      | false => exact iteF ⟨F', ρ, e.fh, fr.ext e, p.mono e (fun _ _ _ _ _ q => q) fun _ _ q => q⟩
      | true => exact iteT (p _ F' H' e rfl)
    | _ => exact (show False from p).elim
theorem tib_tif {X : Cx} {W : WX} {tg e : Expr} {r : DEnv → Res (List PyData)} (h : PI X tg e (TIf X W r)) : PI X tg e (TIb X W r) := by
  refine ⟨fun pins s σ H R I q => h.run pins s σ H R I ?_⟩
  obtain ⟨F, ρ, sF, f, p⟩ := q
  refine ⟨F, ρ, sF, f, p.mono (Ext.refl sF) (fun J ds F' H' e i => ?_) fun _ _ q => q⟩
  obtain ⟨z, G, Y, wk, hG, hY⟩ := i
  exact ⟨z, G, Y, wk, fun H'' s'' => hG H'' (e.fh.trans s''), hY⟩

theorem pb {X : Cx} {W : WX} {f : Bool} {e : Expr} {r : DEnv → Res PyData} (hp : plainT e = true) (h : PE X e (TV X W f r)) : PE X e (TV X W f r) ∧ PT X e (TTs X W fun ρ => (r ρ).bind asB) :=
  ⟨h, PT.mono' (pt_val h (fun _ => plainTest hp _)) fun _ _ _ q => tt_tv q⟩
mutual
theorem snd_e : ∀ (p : DE) (e : Expr) (m : MC) (X : Cx) (W : WX), XOk C W m X → mE m p e = true → PE X e (TV X W (isFresh p) (evalE C p)) ∧ PT X e (TTs X W fun ρ => (evalE C p ρ).bind asB)
  | .int i, e, m, X, W, o, h => by
    cases e <;> first | (simp only [mE] at h; cases h; done) | skip
    rename_i c k pos
    cases c <;> first | (simp only [mE] at h; cases h; done) | skip
    simp only [mE, decide_eq_true_eq] at h
    subst h
    refine pb rfl ?_
    exact PE.mono' pe_int fun σ H Q q => tv_const (d := .int i) (fun F => .int i) (fun _ z => nomatch z) q
  | .bl i, e, m, X, W, o, h => by
    cases e <;> first | (simp only [mE] at h; cases h; done) | skip
    rename_i c k pos
    cases c <;> first | (simp only [mE] at h; cases h; done) | skip
    simp only [mE, decide_eq_true_eq] at h
    subst h
    refine pb rfl ?_
    exact PE.mono' pe_bl fun σ H Q q => tv_const (d := .bool i) (fun F => .bl i) (fun _ z => nomatch z) q
  | .non, e, m, X, W, o, h => by
    cases e <;> first | (simp only [mE] at h; cases h; done) | skip
    rename_i c k pos
    cases c <;> first | (simp only [mE] at h; cases h; done) | skip
    refine pb rfl ?_
    exact PE.mono' pe_non fun σ H Q q => tv_const (d := .none) (fun F => .non) (fun _ z => nomatch z) q
  | .str i, e, m, X, W, o, h => by
    cases e <;> first | (simp only [mE] at h; cases h; done) | skip
    rename_i c k pos
    cases c <;> first | (simp only [mE] at h; cases h; done) | skip
    simp only [mE, Bool.and_eq_true, decide_eq_true_eq] at h
    obtain ⟨rfl, hs⟩ := h
    refine pb rfl ?_
    exact PE.mono' pe_str fun σ H Q q => tv_const (d := .str i) (fun F => .str i hs) (fun _ z => nomatch z) q
  | .var i, e, m, X, W, o, h => by
    cases e <;> first | (simp only [mE] at h; cases h; done) | skip
    simp only [mE] at h
    obtain ⟨h1, h2, h3⟩ := o.slot h
    refine pb rfl ?_
    exact PE.mono' (pe_var h1 h2 (nm_dbg h3) (nm_cd h3)) fun σ H Q q => tv_var q
  | .glob x, e, m, X, W, o, h => by
    cases e <;> first | (simp only [mE] at h; cases h; done) | skip
    simp only [mE] at h
    obtain ⟨e1, g, n⟩ := o.gl h
    subst e1
    refine pb rfl ?_
    cases z : C.glob x with
    | none =>
      refine PE.never fun σ H Q q => ?_
      obtain ⟨F, ρ, s, f, p⟩ := q
      simp only [evalE, z] at p
      exact p
    | some d =>
      obtain ⟨u, v, hm, rv, rp⟩ := o.glob x d z
      refine PE.mono' (pe_glob g hm rv (nm_dbg n)) fun σ H Q q => ?_
      obtain ⟨F, ρ, s, f, p⟩ := q
      simp only [evalE, z] at p
      exact p v F H (Ext.refl s) (Rp.sub (fun _ _ z => by cases z) rp)
  | .tup ps, e, m, X, W, o, h => by
    cases e <;> first | (simp only [mE] at h; cases h; done) | skip
    simp only [mE, Bool.and_eq_true, decide_eq_true_eq] at h
    refine pb rfl ?_
    exact PE.mono' (pe_tup (snd_es ps _ m X W o h.1)) fun σ H Q q => tv_tup h.2 (evalEs_len C ps _ m h.1) q
  | .lst ps, e, m, X, W, o, h => by
    cases e <;> first | (simp only [mE] at h; cases h; done) | skip
    simp only [mE, Bool.and_eq_true, decide_eq_true_eq] at h
    refine pb rfl ?_
    exact PE.mono' (pe_lst (snd_es ps _ m X W o h.1)) fun σ H Q q => tv_lst h.2 (evalEs_len C ps _ m h.1) q
  | .bin op a b, e, m, X, W, o, h => by
    cases e <;> first | (simp only [mE] at h; cases h; done) | skip
    simp only [mE, Bool.and_eq_true, decide_eq_true_eq] at h
    obtain ⟨⟨rfl, ha⟩, hb⟩ := h
    refine pb rfl ?_
    exact PE.mono' (pe_op (op_binD op) (brw_of o ha (snd_e a _ m X W o ha).1) (brw_of o hb (snd_e b _ m X W o hb).1)) fun σ H Q q => bin_mono (bin_noexc op) q
  | .neg a, e, m, X, W, o, h => by
    cases e <;> first | (simp only [mE] at h; cases h; done) | skip
    rename_i op x pos
    cases op <;> first | (simp only [mE] at h; cases h; done) | skip
    simp only [mE] at h
    refine pb rfl ?_
    exact PE.mono' (pe_un un_negD (brw_of o h (snd_e a _ m X W o h).1)) fun σ H Q q => un_mono neg_noexc q
  | .not a, e, m, X, W, o, h => by
    cases e <;> first | (simp only [mE] at h; cases h; done) | skip
    rename_i op x pos
    cases op <;> first | (simp only [mE] at h; cases h; done) | skip
    simp only [mE] at h
    refine ⟨PE.mono' (pe_not (snd_e a _ m X W o h).1) fun σ H Q q => tv_not q, PT.mono' (pt_not (snd_e a _ m X W o h).2) fun σ H Q q => ?_⟩
    simp only [evalE] at q
    exact tt_not q
  | .and ps, e, m, X, W, o, h => by
    cases e <;> first | (simp only [mE] at h; cases h; done) | skip
    rename_i op es pos
    cases op <;> first | (simp only [mE] at h; cases h; done) | skip
    simp only [mE] at h
    exact ⟨snd_and ps es m X W o h pos, (snd_andT ps es m X W o h pos).pt⟩
  | .or ps, e, m, X, W, o, h => by
    cases e <;> first | (simp only [mE] at h; cases h; done) | skip
    rename_i op es pos
    cases op <;> first | (simp only [mE] at h; cases h; done) | skip
    simp only [mE] at h
    exact ⟨snd_or ps es m X W o h pos, (snd_orT ps es m X W o h pos).pt⟩
  | .cmp op a b, e, m, X, W, o, h => by
    cases e <;> first | (simp only [mE] at h; cases h; done) | skip
    rename_i x ops ys pos
    match ops, ys, h with
    | [c], [y], h =>
      simp only [mE, Bool.and_eq_true, decide_eq_true_eq, Bool.not_eq_true'] at h
      obtain ⟨⟨⟨rfl, ha⟩, hb⟩, hm⟩ := h
      exact ⟨PE.mono' (pe_cmpR (op_cmpD o.units op) (brw_of o ha (snd_e a _ m X W o ha).1) (brw_of o hb (snd_e b _ m X W o hb).1) hm) fun σ H Q q => bin_mono (cmp_noexc op) q, PT.mono' (pt_cmpR (op_cmpD o.units op) (brw_of o ha (snd_e a _ m X W o ha).1) (brw_of o hb (snd_e b _ m X W o hb).1) hm) fun σ H Q q => bin_mono (cmp_noexc op) (tt_tv q)⟩
    | [], _, h => simp only [mE] at h; cases h
    | _ :: _ :: _, _, h => simp only [mE] at h; cases h
    | [_], [], h => simp only [mE] at h; cases h
    | [_], _ :: _ :: _, h => simp only [mE] at h; cases h
  | .chain op op' a b c, e, m, X, W, o, h => by
    cases e <;> first | (simp only [mE] at h; cases h; done) | skip
    rename_i x ops ys pos
    match ops, ys, h with
    | [c1, c2], [y, z], h =>
      simp only [mE, Bool.and_eq_true, decide_eq_true_eq, Bool.not_eq_true'] at h
      obtain ⟨⟨⟨⟨⟨rfl, rfl⟩, ha⟩, hb⟩, hc⟩, hm⟩ := h
      exact ⟨PE.mono' (pe_chain (op_cmpD o.units op) (op_cmpD o.units op') (brw_of o ha (snd_e a _ m X W o ha).1) (brw_of o hb (snd_e b _ m X W o hb).1) (brw_of o hc (snd_e c _ m X W o hc).1) hm) fun σ H Q q => chain_mono q, PT.mono' (pt_chain (op_cmpD o.units op) (op_cmpD o.units op') (brw_of o ha (snd_e a _ m X W o ha).1) (brw_of o hb (snd_e b _ m X W o hb).1) (brw_of o hc (snd_e c _ m X W o hc).1) hm) fun σ H Q q => chain_mono (tt_tv q)⟩
    | [], _, h => simp only [mE] at h; cases h
    | [_], _, h => simp only [mE] at h; cases h
    | _ :: _ :: _ :: _, _, h => simp only [mE] at h; cases h
    | [_, _], [], h => simp only [mE] at h; cases h
    | [_, _], [_], h => simp only [mE] at h; cases h
    | [_, _], _ :: _ :: _ :: _, h => simp only [mE] at h; cases h
  | .chain3 op op' op'' a b c d, e, m, X, W, o, h => by
    cases e <;> first | (simp only [mE] at h; cases h; done) | skip
    rename_i x ops ys pos
    match ops, ys, h with
    | [c1, c2, c3], [y, z, w], h =>
      simp only [mE, Bool.and_eq_true, decide_eq_true_eq, Bool.not_eq_true'] at h
      obtain ⟨⟨⟨⟨⟨⟨⟨rfl, rfl⟩, rfl⟩, ha⟩, hb⟩, hc⟩, hd⟩, hm⟩ := h
      exact ⟨PE.mono' (pe_chain3 (op_cmpD o.units op) (op_cmpD o.units op') (op_cmpD o.units op'') (brw_of o ha (snd_e a _ m X W o ha).1) (brw_of o hb (snd_e b _ m X W o hb).1) (brw_of o hc (snd_e c _ m X W o hc).1) (brw_of o hd (snd_e d _ m X W o hd).1) hm) fun σ H Q q => chain3_mono q, PT.mono' (pt_chain3 (op_cmpD o.units op) (op_cmpD o.units op') (op_cmpD o.units op'') (brw_of o ha (snd_e a _ m X W o ha).1) (brw_of o hb (snd_e b _ m X W o hb).1) (brw_of o hc (snd_e c _ m X W o hc).1) (brw_of o hd (snd_e d _ m X W o hd).1) hm) fun σ H Q q => chain3_mono (tt_tv q)⟩
    | [], _, h => simp only [mE] at h; cases h
    | [_], _, h => simp only [mE] at h; cases h
    | [_, _], _, h => simp only [mE] at h; cases h
    | _ :: _ :: _ :: _ :: _, _, h => simp only [mE] at h; cases h
    | [_, _, _], [], h => simp only [mE] at h; cases h
    | [_, _, _], [_], h => simp only [mE] at h; cases h
    | [_, _, _], [_, _], h => simp only [mE] at h; cases h
    | [_, _, _], _ :: _ :: _ :: _ :: _, h => simp only [mE] at h; cases h
  | .call f ps, e, m, X, W, o, h => by
    cases e <;> first | (simp only [mE] at h; cases h; done) | skip
    rename_i g as kws pos
    cases g <;> first | (simp only [mE] at h; cases h; done) | skip
    cases as with
    | nil => simp only [mE] at h; cases h
    | cons a as =>
      cases kws with
      | cons => simp only [mE] at h; cases h
      | nil =>
        simp only [mE, Bool.and_eq_true] at h
        obtain ⟨⟨⟨⟨hn, hf⟩, ha⟩, hs⟩, hs0⟩ := h
        refine pb rfl ?_
        exact snd_call o hn hf hs hs0 (snd_es ps _ m X W o ha)
  | .told f ps, e, m, X, W, o, h => by
    simp only [mE, mTold] at h
    split at h
    · rename_i y params z e1 es scope hl
      obtain ⟨p, pz, p2, lpos, pos, rfl⟩ := lamOf_some hl
      simp only [Bool.and_eq_true] at h
      obtain ⟨⟨⟨⟨⟨⟨h1, h2⟩, h3⟩, h4⟩, h5⟩, h6⟩, h7⟩ := h
      exact pb rfl (snd_told o h1 h2 h3 h4 h5 h6 h7)
    · cases h
  | .blt f ps, e, m, X, W, o, h => by
    cases e <;> first | (simp only [mE] at h; cases h; done) | skip
    rename_i g as kws pos
    cases g <;> first | (simp only [mE] at h; cases h; done) | skip
    cases as with
    | nil => simp only [mE] at h; cases h
    | cons a as =>
      cases kws with
      | cons => simp only [mE] at h; cases h
      | nil =>
        simp only [mE, Bool.and_eq_true] at h
        obtain ⟨⟨⟨hf, ha⟩, hs⟩, hs0⟩ := h
        refine pb rfl ?_
        exact snd_blt o hf hs hs0 (snd_bs ps _ m X W o ha)
  | .isi a t, e, m, X, W, o, h => by
    cases e <;> first | (simp only [mE] at h; cases h; done) | skip
    rename_i g as kws pos
    cases g <;> first | (simp only [mE] at h; cases h; done) | skip
    match as, kws, h with
    | [], _, h => simp only [mE] at h; cases h
    | [_], _, h => simp only [mE] at h; cases h
    | _ :: _ :: _ :: _, _, h => simp only [mE] at h; cases h
    | [_, y], _ :: _, h => cases y <;> (simp only [mE] at h; cases h)
    | [x, y], [], h =>
      cases y <;> first | (simp only [mE] at h; cases h; done) | skip
      simp only [mE, Bool.and_eq_true] at h
      obtain ⟨⟨⟨hf, ha⟩, hs⟩, hz⟩ := h
      refine pb rfl ?_
      exact snd_isi o hf hz hs (brw_of o ha (snd_e a _ m X W o ha).1)
  | .idx a b, e, m, X, W, o, h => by
    cases e <;> first | (simp only [mE] at h; cases h; done) | skip
    simp only [mE, Bool.and_eq_true] at h
    obtain ⟨⟨ha, hb⟩, hs⟩ := h
    refine pb rfl ?_
    exact PE.mono' (pe_ix ix_D (brw_of o ha (snd_e a _ m X W o ha).1) (brw_of o hb (snd_e b _ m X W o hb).1) (plainIx hs)) fun σ H Q q => bin_mono idx_noexc q
  | .slc a lo hi, e, m, X, W, o, h => by
    cases e <;> first | (simp only [mE] at h; cases h; done) | skip
    rename_i x sl pos
    cases sl <;> first | (simp only [mE] at h; cases h; done) | skip
    rename_i l hh st pos2
    cases st with
    | some => simp only [mE] at h; cases h
    | none =>
      simp only [mE] at h
      rw [Bool.and_eq_true, Bool.and_eq_true] at h
      obtain ⟨⟨ha, hl⟩, hr⟩ := h
      refine pb rfl ?_
      exact PE.mono' (pe_slice sl_D (brw_of o ha (snd_e a _ m X W o ha).1) (po_part hl fun e _ he => (snd_e lo e m X W o he).1) (po_part hr fun e _ he => (snd_e hi e m X W o he).1)) fun σ H Q q => slc_mono q
  | .rev a, e, m, X, W, o, h => by
    cases e <;> first | (simp only [mE] at h; cases h; done) | skip
    rename_i x sl pos
    cases sl <;> first | (simp only [mE] at h; cases h; done) | skip
    rename_i l hh st pos2
    cases l with
    | some => simp only [mE] at h; cases h
    | none =>
      cases hh with
      | some => simp only [mE] at h; cases h
      | none =>
        cases st with
        | none => simp only [mE] at h; cases h
        | some st =>
          simp only [mE, Bool.and_eq_true] at h
          obtain ⟨ha, h1⟩ := h
          refine pb rfl ?_
          unfold isM1 at h1
          split at h1
          · exact PE.mono' (pe_revA (brw_of o ha (snd_e a _ m X W o ha).1)) fun σ H Q q => rev_mono q
          · cases h1
  | .meth ob mt ps, e, m, X, W, o, h => by
    cases e <;> first | (simp only [mE] at h; cases h; done) | skip
    rename_i f as kws pos
    cases f with
    | Name y p =>
      cases as with
      | nil => simp only [mE] at h; cases h
      | cons c cs =>
        cases cs with
        | cons => simp only [mE] at h; cases h
        | nil =>
          cases kws with
          | cons => simp only [mE] at h; cases h
          | nil =>
            cases c <;> first | (simp only [mE] at h; cases h; done) | skip
            rename_i f2 as2 kws2 pos2
            cases f2 <;> first | (simp only [mE] at h; cases h; done) | skip
            rename_i z p2
            cases kws2 with
            | cons => simp only [mE] at h; cases h
            | nil =>
              cases as2 with
              | nil => simp only [mE] at h; cases h
              | cons a r =>
                cases r with
                | nil =>
                  simp only [mE, Bool.and_eq_true, decide_eq_true_eq] at h
                  obtain ⟨⟨⟨⟨⟨hk, hx⟩, hy⟩, ho⟩, hp⟩, hs⟩ := h
                  subst hk
                  cases ps with
                  | cons => cases hp
                  | nil => exact pb rfl (snd_lset o hx hy hs (brw_of o ho (snd_e ob _ m X W o ho).1))
                | cons e r2 =>
                  cases r2 with
                  | cons => simp only [mE] at h; cases h
                  | nil =>
                    simp only [mE, Bool.and_eq_true, decide_eq_true_eq] at h
                    obtain ⟨⟨⟨⟨⟨⟨hk, hx⟩, hy⟩, ho⟩, hp⟩, hs⟩, hs0⟩ := h
                    subst hk
                    exact pb rfl (snd_zip o hx hy hs hs0 (brw_of o ho (snd_e ob _ m X W o ho).1) (snd_bs ps _ m X W o hp))
    | Attribute x a pa =>
      cases as with
      | nil => simp only [mE] at h; cases h
      | cons e es =>
        cases kws with
        | cons => simp only [mE] at h; cases h
        | nil =>
          simp only [mE, Bool.and_eq_true, Bool.or_eq_true, decide_eq_true_eq] at h
          obtain ⟨⟨⟨⟨⟨⟨⟨hk, ho⟩, hb⟩, hl⟩, hp⟩, hs⟩, hs0⟩, hn⟩ := h
          refine pb rfl ?_
          have ho' := brw_of o ho (snd_e ob _ m X W o ho).1
          have hp' := snd_bs ps _ m X W o hp
          rcases hk with ⟨rfl, rfl⟩ | ⟨rfl, rfl⟩
          · exact snd_index o hb hl hs hs0 hn ho' hp'
          · exact snd_join o hb hl hs hs0 hn ho' hp'
    | _ => simp only [mE] at h; cases h
  | .comp elt tgt it cs, e, m, X, W, o, h => by
    cases e <;> first | (simp only [mE] at h; cases h; done) | skip
    rename_i x gs scope pos
    match gs, h with
    | [⟨t, i, ifs, 0⟩], h =>
      simp only [mE, Bool.and_eq_true] at h
      obtain ⟨⟨⟨⟨⟨⟨hi, ht⟩, he⟩, hc⟩, h1⟩, hs⟩, hb⟩ := h
      refine pb rfl ?_
      have key := pe_lc (wi := TIb X W (evalIt C it)) (g := GD X.K tgt) (tt := TTs X W0 (evalT C cs)) (te := TV X W0 false (evalE C elt)) (own := ownOf m tgt) o.calm o.ndX (snd_it it i t m X W o hi) (by rw [o.nm, o.sc]; exact blkOk_by hb)
        (fun s H Ca cl fp => snd_tg (o.blk s H scope Ca cl fp) ht) (fun s H Ca cl fp => snd_ts cs ifs _ _ W0 (o.blk s H scope Ca cl fp) hc h1) (fun s H Ca cl fp => (snd_e elt x _ _ W0 (o.blk s H scope Ca cl fp) he).1.fix) (fun x => unfolded hs x) (pos := pos)
      refine PE.mono' key fun σ H Q q => ?_
      have e1 : (ownOf m tgt).map (·.2) = tgSlots tgt := by unfold ownOf; rw [List.map_map]; exact List.map_id _
      rw [e1]
      exact comp_mono q
    | [], h => simp only [mE] at h; cases h
    | _ :: _ :: _, h => simp only [mE] at h; cases h
    | [⟨_, _, _, .ofNat (_ + 1)⟩], h => simp only [mE] at h; cases h
    | [⟨_, _, _, .negSucc _⟩], h => simp only [mE] at h; cases h
  | .dctget _ _ _ _, e, m, X, W, o, h => by
    cases e <;> (simp only [mE] at h; cases h)
  | .dctidx _ _ _, e, m, X, W, o, h => by
    cases e <;> (simp only [mE] at h; cases h)
termination_by structural p => p
theorem snd_es : ∀ (ps : DEs) (es : List Expr) (m : MC) (X : Cx) (W : WX), XOk C W m X → mEs m ps es = true → PA X es (TAs X W (evalEs C ps))
  | .nil, es, m, X, W, o, h => by
    cases es with
    | cons => simp only [mEs] at h; cases h
    | nil => exact PA.mono' pa_nil fun σ H Q q => tas_nil q
  | .cons p ps, es, m, X, W, o, h => by
    cases es with
    | nil => simp only [mEs] at h; cases h
    | cons e es =>
      simp only [mEs, Bool.and_eq_true] at h
      exact PA.mono' (pa_cons (snd_e p e m X W o h.1.1).1.fix (snd_es ps es m X W o h.2) (star_cons h.1.2)) fun σ H Q q => tas_cons q
termination_by structural p => p
theorem snd_bs : ∀ (ps : DEs) (es : List Expr) (m : MC) (X : Cx) (W : WX), XOk C W m X → mEs m ps es = true → PA X es (TBs X W (evalBs C ps))
  | .nil, es, m, X, W, o, h => by
    cases es with
    | cons => simp only [mEs] at h; cases h
    | nil => exact PA.mono' pa_nil fun σ H Q q => tbs_nil q
  | .cons p ps, es, m, X, W, o, h => by
    cases es with
    | nil => simp only [mEs] at h; cases h
    | cons e es =>
      simp only [mEs, Bool.and_eq_true] at h
      exact PA.mono' (pa_cons (brw_of o h.1.1 (snd_e p e m X W o h.1.1).1) (snd_bs ps es m X W o h.2) (star_cons h.1.2)) fun σ H Q q => tbs_cons q
termination_by structural p => p
theorem snd_and : ∀ (ps : DEs) (es : List Expr) (m : MC) (X : Cx) (W : WX), XOk C W m X → mEs m ps es = true → ∀ pos, PE X (.BoolOp .And es pos) (TV X W false (evalAnd C ps))
  | .nil, es, m, X, W, o, h, pos => PE.never fun σ H Q q => by
    obtain ⟨F, ρ, s, f, p⟩ := q
    simp only [evalAnd] at p
    exact p
  | .cons p ps, es, m, X, W, o, h, pos => by
    cases es with
    | nil => simp only [mEs] at h; cases h
    | cons e es =>
      simp only [mEs, Bool.and_eq_true] at h
      cases es with
      | nil =>
        cases ps with
        | cons => simp only [mEs] at h; cases h.2
        | nil =>
          refine PE.mono' (pe_one (snd_e p e m X W o h.1.1).1.fix) fun σ H Q q => ?_
          simp only [evalAnd] at q
          exact q
      | cons e2 es =>
        have ih := snd_and ps (e2 :: es) m X W o h.2 pos
        cases ps with
        | nil => simp only [mEs] at h; cases h.2
        | cons p2 ps =>
          refine PE.mono' (pe_and (snd_e p e m X W o h.1.1).1 ih) fun σ H Q q => ?_
          simp only [evalAnd] at q
          exact tv_and q
termination_by structural p => p
theorem snd_or : ∀ (ps : DEs) (es : List Expr) (m : MC) (X : Cx) (W : WX), XOk C W m X → mEs m ps es = true → ∀ pos, PE X (.BoolOp .Or es pos) (TV X W false (evalOr C ps))
  | .nil, es, m, X, W, o, h, pos => PE.never fun σ H Q q => by
    obtain ⟨F, ρ, s, f, p⟩ := q
    simp only [evalOr] at p
    exact p
  | .cons p ps, es, m, X, W, o, h, pos => by
    cases es with
    | nil => simp only [mEs] at h; cases h
    | cons e es =>
      simp only [mEs, Bool.and_eq_true] at h
      cases es with
      | nil =>
        cases ps with
        | cons => simp only [mEs] at h; cases h.2
        | nil =>
          refine PE.mono' (pe_one (snd_e p e m X W o h.1.1).1.fix) fun σ H Q q => ?_
          simp only [evalOr] at q
          exact q
      | cons e2 es =>
        have ih := snd_or ps (e2 :: es) m X W o h.2 pos
        cases ps with
        | nil => simp only [mEs] at h; cases h.2
        | cons p2 ps =>
          refine PE.mono' (pe_or (snd_e p e m X W o h.1.1).1 ih) fun σ H Q q => ?_
          simp only [evalOr] at q
          exact tv_or q
termination_by structural p => p
theorem snd_ts : ∀ (ps : DEs) (es : List Expr) (m : MC) (X : Cx) (W : WX), XOk C W m X → mEs m ps es = true → one1 ps = true → PTs X es (TTs X W (evalT C ps))
  | .nil, es, m, X, W, o, h, h1 => by
    cases es with
    | cons => simp only [mEs] at h; cases h
    | nil =>
      refine ⟨fun pins s σ H Q I q => pts_nil.run pins s σ H Q I ?_⟩
      obtain ⟨F, ρ, sF, f, p⟩ := q
      simp only [evalT] at p
      exact p true F H (Ext.refl sF) rfl
  | .cons p ps, es, m, X, W, o, h, h1 => by
    cases ps with
    | cons => cases h1
    | nil =>
      cases es with
      | nil => simp only [mEs] at h; cases h
      | cons e es =>
        simp only [mEs, Bool.and_eq_true] at h
        cases es with
        | cons => simp only [mEs] at h; cases h.2
        | nil =>
          have t := (snd_e p e m X W o h.1.1).2
          refine ⟨fun pins s σ H Q I q => (pts_one t).run pins s σ H Q I ?_⟩
          obtain ⟨F, ρ, sF, f, p'⟩ := q
          simp only [evalT] at p'
          refine ⟨F, ρ, sF, f, ?_⟩
          dsimp only
          cases z : evalE C p ρ with
          | stuck => rw [z] at p'; exact p'
          | exc c d => rw [z] at p'; exact p'
          | ok d =>
            rw [z] at p'
            cases d with
            | bool b => cases b <;> exact p'
            | _ => exact p'
termination_by structural p => p
theorem snd_andT : ∀ (ps : DEs) (es : List Expr) (m : MC) (X : Cx) (W : WX), XOk C W m X → mEs m ps es = true → ∀ pos, PW X (.BoolOp .And es pos) (TTs X W fun ρ => (evalAnd C ps ρ).bind asB)
  | .nil, es, m, X, W, o, h, pos => ⟨fun wh pins s σ H Q I q => by
    obtain ⟨F, ρ, s, f, p⟩ := q
    simp only [evalAnd] at p
    exact p.elim⟩
  | .cons p ps, es, m, X, W, o, h, pos => by
    cases es with
    | nil => simp only [mEs] at h; cases h
    | cons e es =>
      simp only [mEs, Bool.and_eq_true] at h
      cases es with
      | nil =>
        cases ps with
        | cons => simp only [mEs] at h; cases h.2
        | nil =>
          refine PW.mono' (pw_and1 (snd_e p e m X W o h.1.1).2) fun σ H Q q => ?_
          simp only [evalAnd] at q
          exact q
      | cons e2 es =>
        have ih := snd_andT ps (e2 :: es) m X W o h.2 pos
        cases ps with
        | nil => simp only [mEs] at h; cases h.2
        | cons p2 ps =>
          refine PW.mono' (pw_and (snd_e p e m X W o h.1.1).2 ih) fun σ H Q q => ?_
          simp only [evalAnd] at q
          exact tt_and q
termination_by structural p => p
theorem snd_orT : ∀ (ps : DEs) (es : List Expr) (m : MC) (X : Cx) (W : WX), XOk C W m X → mEs m ps es = true → ∀ pos, PW X (.BoolOp .Or es pos) (TTs X W fun ρ => (evalOr C ps ρ).bind asB)
  | .nil, es, m, X, W, o, h, pos => ⟨fun wh pins s σ H Q I q => by
    obtain ⟨F, ρ, s, f, p⟩ := q
    simp only [evalOr] at p
    exact p.elim⟩
  | .cons p ps, es, m, X, W, o, h, pos => by
    cases es with
    | nil => simp only [mEs] at h; cases h
    | cons e es =>
      simp only [mEs, Bool.and_eq_true] at h
      cases es with
      | nil =>
        cases ps with
        | cons => simp only [mEs] at h; cases h.2
        | nil =>
          refine PW.mono' (pw_or1 (snd_e p e m X W o h.1.1).2) fun σ H Q q => ?_
          simp only [evalOr] at q
          exact q
      | cons e2 es =>
        have ih := snd_orT ps (e2 :: es) m X W o h.2 pos
        cases ps with
        | nil => simp only [mEs] at h; cases h.2
        | cons p2 ps =>
          refine PW.mono' (pw_or (snd_e p e m X W o h.1.1).2 ih) fun σ H Q q => ?_
          simp only [evalOr] at q
          exact tt_or q
termination_by structural p => p
theorem snd_it : ∀ (p : DI) (e tg : Expr) (m : MC) (X : Cx) (W : WX), XOk C W m X → mIt m p e = true → PI X tg e (TIb X W (evalIt C p))
  | .plain a, e, tg, m, X, W, o, h => by
    simp only [mIt] at h
    exact pi_plain (brw_of o h (snd_e a e m X W o h).1)
  | .rng a, e, tg, m, X, W, o, h => by
    cases e <;> first | (simp only [mIt] at h; cases h; done) | skip
    rename_i g as kws pos
    cases g <;> first | (simp only [mIt] at h; cases h; done) | skip
    match as, kws, h with
    | [x], [], h =>
      simp only [mIt, Bool.and_eq_true] at h
      obtain ⟨⟨hf, ha⟩, hs⟩ := h
      obtain ⟨e1, gl, n⟩ := o.gl hf
      subst e1
      exact tib_tif (pi_rng gl (o.blt _ (by decide)) (snd_e a x m X W o ha).1.fix hs)
    | [], _, h => simp only [mIt] at h; cases h
    | _ :: _ :: _, _, h => simp only [mIt] at h; cases h
    | [_], _ :: _, h => simp only [mIt] at h; cases h
  | .rng2 a b, e, tg, m, X, W, o, h => by
    cases e <;> first | (simp only [mIt] at h; cases h; done) | skip
    rename_i g as kws pos
    cases g <;> first | (simp only [mIt] at h; cases h; done) | skip
    match as, kws, h with
    | [x, z], [], h =>
      simp only [mIt, Bool.and_eq_true] at h
      obtain ⟨⟨⟨⟨hf, ha⟩, hb⟩, hs⟩, hs'⟩ := h
      obtain ⟨e1, gl, n⟩ := o.gl hf
      subst e1
      exact tib_tif (pi_rng2 gl (o.blt _ (by decide)) (snd_e a x m X W o ha).1.fix (snd_e b z m X W o hb).1.fix hs hs')
    | [], _, h => simp only [mIt] at h; cases h
    | [_], _, h => simp only [mIt] at h; cases h
    | _ :: _ :: _ :: _, _, h => simp only [mIt] at h; cases h
    | [_, _], _ :: _, h => simp only [mIt] at h; cases h
  | .rev a, e, tg, m, X, W, o, h => by
    cases e <;> first | (simp only [mIt] at h; cases h; done) | skip
    rename_i g as kws pos
    cases g <;> first | (simp only [mIt] at h; cases h; done) | skip
    match as, kws, h with
    | [x], [], h =>
      simp only [mIt, Bool.and_eq_true] at h
      obtain ⟨⟨hf, ha⟩, hs⟩ := h
      obtain ⟨e1, gl, n⟩ := o.gl hf
      subst e1
      exact pi_rev gl (o.blt _ (by decide)) (brw_of o ha (snd_e a x m X W o ha).1) hs
    | [], _, h => simp only [mIt] at h; cases h
    | _ :: _ :: _, _, h => simp only [mIt] at h; cases h
    | [_], _ :: _, h => simp only [mIt] at h; cases h
  | .enum _, e, tg, m, X, W, o, h => by cases e <;> (simp only [mIt] at h; cases h)
  | .zip _ _, e, tg, m, X, W, o, h => by cases e <;> (simp only [mIt] at h; cases h)
termination_by structural p => p
end
end
end DP

/-! ## DStmt -/
set_option Elab.async false
set_option linter.all false
set_option maxRecDepth 100000
set_option maxHeartbeats 4000000
set_option autoImplicit false
namespace DP
open PySem PySem.Spec L2
variable [Tb]

/-! ### matching of statements -/
def noComp : Expr → Bool
  | .ListComp _ _ _ _ => false
  | .SetComp _ _ _ _ => false
  | .DictComp _ _ _ _ _ => false
  | _ => true
def isLC : Expr → Bool
  | .ListComp _ [⟨_, _, _, 0⟩] _ _ => true
  | _ => false
def noTup : Expr → Bool
  | .Tuple _ _ _ => false
  | _ => true
/-- no swapped stores: no tuple is written, or a name is a cell -/
def noSw (m : MC) (es : List Expr) (e : Expr) : Bool := noTup e || es.any fun | .Name x _ => decide (m.sc.names.lookup x ≠ some .local) | _ => false
/-- whether a comprehension's list is stored within its own frame -/
def swapB (m : MC) (value : Expr) (y : Str) (py : Pos) : Bool := match value with
  | .ListComp _ _ scope pos => decide (m.sc.names.lookup y = some .local) && (py.line == pos.line) && !(scope.names.any fun (n, k) => n == y && (k == .local || k == .cell))
  | _ => false
def mLoc (m : MC) (i : Nat) (x : Str) : Bool := decide (m.N[i]? = some x) && decide (m.sc.names.lookup x = some .local)
def nameOf : List Expr → Option (Str × Pos)
  | [.Name x px] => some (x, px)
  | _ => none
def tupOf : List Expr → Option (List Expr)
  | [.Tuple es _ _] => some es
  | _ => none
def parOf : List Expr → Expr → Option (Str × Pos × Str × Pos × Expr × Expr)
  | [.Tuple [.Name x px, .Name y py] _ _], .Tuple [e, f] _ _ => some (x, px, y, py, e, f)
  | _, _ => none
def litOf : DEs → Bool
  | .cons (.str _) .nil => true
  | _ => false
def raisOf : Expr → Option Str
  | .Call (.Name y _) [.Constant (.str _) _ _] [] _ => some y
  | _ => none
def appOf : Expr → Option (Str × Str × Pos × Expr × Pos)
  | .Call (.Attribute (.Name x _) a pa) [e] [] pc => some (x, a, pa, e, pc)
  | _ => none
/-- one name called with one argument, or with two -/
def call1 : Expr → Option (Str × Expr)
  | .Call (.Name y _) [x] [] _ => some (y, x)
  | _ => none
def call2 : Expr → Option (Str × Expr × Expr)
  | .Call (.Name y _) [x, z] [] _ => some (y, x, z)
  | _ => none
theorem call1_some {e : Expr} {y : Str} {x : Expr} (h : call1 e = some (y, x)) : ∃ p pos, e = .Call (.Name y p) [x] [] pos := by
  unfold call1 at h
  split at h
  · cases h; exact ⟨_, _, rfl⟩
  · cases h
theorem call2_some {e : Expr} {y : Str} {x z : Expr} (h : call2 e = some (y, x, z)) : ∃ p pos, e = .Call (.Name y p) [x, z] [] pos := by
  unfold call2 at h
  split at h
  · cases h; exact ⟨_, _, rfl⟩
  · cases h
def isTupE : Expr → Bool
  | .Tuple _ _ _ => true
  | _ => false
/-- a for's head; enumerate and zip where the target is a tuple -/
def mItF (m : MC) : DI → Expr → Expr → Bool
  | .enum a, t, e => isTupE t && (match call1 e with | some (y, x) => mGl m "enumerate" y && mE m a x && noStar x | none => false)
  | .zip a b, t, e => isTupE t && (match call2 e with | some (y, x, z) => mGl m "zip" y && mE m a x && mE m b z && noStar x && noStar z | none => false)
  | it, _, e => mIt m it e
mutual
def mS (m : MC) : DS → Stmt → Bool
  | .asg i p, .Assign ts e _ => (match nameOf ts with | some (x, _) => mStore m i x && mE m p e && (noComp e || isLC e) | none => false)
  | .asgO i p, .Assign ts e _ => (match nameOf ts with | some (x, _) => mStore m i x && mE m p e && (noComp e || isLC e) | none => false)
  | .unp is p, .Assign ts e _ => (match tupOf ts with | some es => mStores m is es && mE m p e && noSw m es e | none => false)
  | .unpL is p, .Assign ts e _ => (match tupOf ts with | some es => mStores m is es && mE m p e && noTup e | none => false)
  | .par i j a b, .Assign ts v _ => (match parOf ts v with
    | some (x, px, y, py, e, f) => mLoc m i x && mLoc m j y && mE m a e && mE m b f && noStar e && noStar f && decide (i ≠ j) && decide (x ≠ y) && (px.line == py.line) && !(foldedForSure 8 e && foldedForSure 8 f) && !(constantsAlone 8 e && constantsAlone 8 f)
    | none => false)
  | .expr p, .Expr e _ => mE m p e && noComp e
  | .app i p, .Expr e _ => (match appOf e with | some (x, a, pa, e, pc) => mSlot m i x && decide (a = "append") && mE m p e && noStar e && (pa.endLine == pc.line) | none => false)
  | .ext i p, .Expr e _ => (match appOf e with | some (x, a, pa, e, pc) => mSlot m i x && decide (a = "extend") && mE m p e && noStar e && (pa.endLine == pc.line) | none => false)
  | .ret p, .Return (some e) _ => mE m p e
  | .retO i, .Return (some (.Name x _)) _ => mSlot m i x
  | .ite c a b, .If e x y _ => mE m c e && mSs m a x && mSs m b y
  | .forr tg it ws body, .For t i b [] _ => mItF m it t i && mTg m tg t && mSs m body b && noSet i
  | .whil c ws body, .While e b [] _ => mE m c e && mSs m body b
  | .pass, .Pass _ => true
  | .rais c es, .Raise (some e) none _ => (match raisOf e with | some y => litOf es && m.excs c && mGl m (Str.ofString c) y | none => false)
  | _, _ => false
termination_by structural p => p
def mSs (m : MC) : DSs → List Stmt → Bool
  | .nil, [] => true
  | .cons p ps, s :: ss => mS m p s && mSs m ps ss
  | _, _ => false
termination_by structural p => p
end

/-! ### readings of statements; B: the heap at the entry -/
theorem Ext.transB {F B F1 H1 F2 H2 : Hp} (a : Ext F B F1 H1) (b : Ext F1 B F2 H2) : Ext F B F2 H2 := by
  refine ⟨a.ff.trans b.ff, b.fh, b.hh, fun x o h => ?_⟩
  rcases b.fr x o h with h | h
  · exact a.fr x o h
  · exact .inr h
theorem Ext.base {F H F1 H1 B : Hp} (a : Ext F H F1 H1) (s : Sub B H) : Ext F B F1 H1 :=
  ⟨a.ff, a.fh, s.trans a.hh, fun x o h => (a.fr x o h).imp id fun z => s.free z⟩
def Base (B : Hp) (σ : L2.St) (ρ : DEnv) : Prop := ∀ (i : Nat) (d : PyData) (a : Addr), ρ[i]? = some (.own d) → σ[i]? = some (some (.ref a)) → Nn B a
structure SW (K : PySem.W.Frag) (B : Hp) (σ : L2.St) (F H : Hp) (ρ : DEnv) : Prop where
  fh : St F H
  bh : Sub B H
  fr : Fr K σ F H ρ
  ba : Base B σ ρ
def PostF (K : PySem.W.Frag) (mg : Str → Option Value) (W : WX) (B F : Hp) (D : Ends) : Res Flw → Prop
  | .ok (.next ρ) => ∀ σ' F' H', Ext F B F' H' → SW K B σ' F' H' ρ → D.nx σ' H'
  | .ok (.brk ρ) => ∀ σ' F' H', Ext F B F' H' → SW K B σ' F' H' ρ → D.bk σ' H'
  | .ok (.cont ρ) => ∀ σ' F' H', Ext F B F' H' → SW K B σ' F' H' ρ → D.ct σ' H'
  | .ok (.ret d) => ∀ v F' H', Ext F B F' H' → Rp K F' v d → D.rt v H'
  | .exc c d => ∀ cls dd σ' F' H', Ext F B F' H' → ExcR K mg c d cls dd F' H' → W cls dd σ' H'
  | .stuck => False
def TSD (X : Cx) (W : WX) (B : Hp) (r : DEnv → Res Flw) : TS := fun D σ H => ∃ F ρ, SW X.K B σ F H ρ ∧ PostF X.K X.mg W B F D (r ρ)
structure SOk (C : Ctx) (W : WX) (m : MC) (X : Cx) : Prop extends XOk C W m X where
  passes : PassesOwn (model X.prog X.w) X.A X.env X.xe
  kind : m.sc.kind = .function

section
variable {K : PySem.W.Frag} {mg : Str → Option Value} {W : WX} {B F H F' H' : Hp} {σ : L2.St} {ρ : DEnv} {D : Ends}
theorem PostF.step {F1 H1 : Hp} {r : Res Flw} (h : PostF K mg W B F D r) (e : Ext F B F1 H1) : PostF K mg W B F1 D r := by
  match r, h with
  | .ok (.next ρ), h => exact fun σ' F' H' e' s => h σ' F' H' (e.transB e') s
  | .ok (.brk ρ), h => exact fun σ' F' H' e' s => h σ' F' H' (e.transB e') s
  | .ok (.cont ρ), h => exact fun σ' F' H' e' s => h σ' F' H' (e.transB e') s
  | .ok (.ret d), h => exact fun σ' F' H' e' s => h σ' F' H' (e.transB e') s
  | .exc c d, h => exact fun cls dd σ' F' H' e' s => h cls dd σ' F' H' (e.transB e') s
  | .stuck, h => exact h
theorem SW.ext (s : SW K B σ F H ρ) (e : Ext F H F' H') : SW K B σ F' H' ρ := ⟨e.fh, s.bh.trans e.hh, s.fr.ext e, s.ba⟩
theorem SW.refl (s : SW K B σ F H ρ) : Ext F B F H := ⟨Sub.refl F, s.fh, s.bh, fun _ _ h => .inl h⟩
theorem Base.setVal {i : Nat} {v : V} {d : PyData} (h : Base B σ ρ) : Base B (σ.set i (some v)) (ρ.set i (.val d)) := fun j e a h1 h2 => by
  by_cases z : i = j
  · subst z
    have hi : i < ρ.length := by
      have := (List.getElem?_eq_some_iff.mp h1).1
      simpa using this
    rw [List.getElem?_set_self hi] at h1; cases h1
  · rw [List.getElem?_set_ne z] at h1 h2
    exact h j e a h1 h2
theorem SW.setVal {i : Nat} {v : V} {d : PyData} (s : SW K B σ F H ρ) (r : Rp K F v d) : SW K B (σ.set i (some v)) F H (ρ.set i (.val d)) := ⟨s.fh, s.bh, s.fr.setVal r, s.ba.setVal⟩
/-- an expression ahead of a statement -/
theorem TSD.bind {α β : Type} {X : Cx} {R : Hp → Hp → Hp → α → β → Prop} {r : DEnv → Res β} {k : β → Res Flw} (s : SW X.K B σ F H ρ) (p : PostF X.K X.mg W B F D ((r ρ).bind k)) {Q' : α → Hp → Prop}
    (hk : ∀ x F1 H1 d, Ext F H F1 H1 → R H F1 H1 x d → r ρ = .ok d → SW X.K B σ F1 H1 ρ → PostF X.K X.mg W B F1 D (k d) → Q' x H1) : TX X.K X.mg W R r σ H Q' := by
  refine ⟨F, ρ, s.fh, s.fr, ?_⟩
  cases e : r ρ with
  | ok d =>
    rw [e, Res.bind_ok] at p
    exact fun v F' H' ex rr => hk v F' H' d ex rr e (s.ext ex) (p.step (ex.base s.bh))
  | exc c d =>
    rw [e] at p
    exact fun cls dd F' H' ex rr => p cls dd σ F' H' (ex.base s.bh) rr
  | stuck => rw [e] at p; exact p
end

section
variable {C : Ctx} {W : WX} {m : MC} {X : Cx} {B : Hp}
theorem swapsWith_no {e : Expr} {t : Option Expr} {l : Nat} {env : Env} (h : noComp e = true) : swapsWith e t l env = pure false := by
  cases e <;> first | rfl | cases h
theorem swapsWith_tup {e : Expr} {es : List Expr} {k : Nat} {p : Pos} {l : Nat} {env : Env} : swapsWithSole [.Tuple es k p] e l env = pure false := by
  show swapsWith e (some (.Tuple es k p)) l env = pure false
  cases e <;> rfl
theorem swapped_none {e : Expr} {es : List Expr} {k : Nat} {p : Pos} {env : Env} (h : noTup e = true) : swappedStores [.Tuple es k p] e env = pure none := by
  cases e <;> first | rfl | cases h
theorem filterMap_lt {α β : Type} {f : α → Option β} : ∀ {l : List α}, (∃ x ∈ l, f x = none) → (l.filterMap f).length < l.length
  | [], h => by obtain ⟨x, hx, _⟩ := h; cases hx
  | a :: l, h => by
    have hle := List.length_filterMap_le f l
    rw [List.filterMap_cons]
    cases e : f a with
    | none => simp only [List.length_cons]; omega
    | some b =>
      have : ∃ x ∈ l, f x = none := by
        obtain ⟨x, hx, q⟩ := h
        rcases List.mem_cons.mp hx with z | z
        · subst z; rw [e] at q; cases q
        · exact ⟨x, z, q⟩
      have := filterMap_lt this
      simp only [List.length_cons]; omega
theorem swapped_noSw {m : MC} {e : Expr} {es : List Expr} {k : Nat} {p : Pos} {env : Env} (hk : env.scope = m.sc) (h : noSw m es e = true) : swappedStores [.Tuple es k p] e env = pure none := by
  unfold noSw at h
  rw [Bool.or_eq_true] at h
  rcases h with h | h
  · exact swapped_none h
  · cases e <;> first | rfl | skip
    rename_i vs k2 p2
    rw [List.any_eq_true] at h
    obtain ⟨x, hx, q⟩ := h
    unfold swappedStores
    simp only []
    split
    · rfl
    · split
      · rfl
      · have : (es.filterMap fun
          | .Name id pos => if env.kindOf id == some .local && pos.line == (es.head?.map (·.pos.line)).getD 0 then some id else none
          | _ => none).length < es.length := by
          refine filterMap_lt ⟨x, hx, ?_⟩
          cases x <;> first | rfl | skip
          rename_i id pos
          have q' : m.sc.names.lookup id ≠ some .local := by simpa using q
          have : (env.kindOf id == some NameKind.local) = false := by
            unfold Env.kindOf; rw [hk]
            cases z : m.sc.names.lookup id == some NameKind.local with
            | false => rfl
            | true => exact absurd (eq_of_beq z) q'
          simp [this]
        rw [if_pos (by
          simp only [Bool.or_eq_true, bne_iff_ne, ne_eq]
          exact .inl (Nat.ne_of_lt this))]
        try rfl
theorem swapsWith_lc {e : Expr} {x : Str} {px : Pos} {l : Nat} {env : Env} (hk : env.scope = m.sc) (hf : m.sc.kind = .function) (hl : isLC e = true) : swapsWith e (some (.Name x px)) l env = pure (swapB m e x px) := by
  cases e <;> first | (cases hl; done) | skip
  rename_i elt gs scope pos
  have hb : env.blockKind = .function := by unfold Env.blockKind; rw [hk, hf]; rfl
  have hkk : env.kindOf x = m.sc.names.lookup x := by unfold Env.kindOf; rw [hk]
  unfold swapsWith swapB
  simp only [hb, hkk, Expr.pos]
  congr 1
  rw [Bool.eq_iff_iff]
  simp
/-- name = value -/
theorem ps_asgD (o : SOk C W m X) {i : Nat} {p : DE} {x : Str} {px pos : Pos} {e : Expr} (hs : mStore m i x = true) (he : mE m p e = true) (hc : (noComp e || isLC e) = true) {te : TE}
    (h1 : PE X e te) (h2 : ∀ elt t it ifs scope p2, e = .ListComp elt [⟨t, it, ifs, 0⟩] scope p2 → swapB m e x px = true → PS X (.Assign [.Name x px] e pos) (tAsg te (gName i))) : PS X (.Assign [.Name x px] e pos) (tAsg te (gName i)) := by
  obtain ⟨s1, s2, s3⟩ := o.toXOk.store hs
  cases hn : noComp e with
  | true => exact ps_set o.toXOk.ndX s1 s2 h1 (swapsWith_no hn) s3
  | false =>
    rw [hn, Bool.false_or] at hc
    cases hw : swapB m e x px with
    | false => exact ps_set o.toXOk.ndX s1 s2 h1 (by rw [swapsWith_lc o.sc o.kind hc, hw]) s3
    | true =>
      cases e <;> first | (cases hc; done) | skip
      rename_i elt gs scope p2
      match gs, hc with
      | [⟨t, it, ifs, 0⟩], _ => exact h2 elt t it ifs scope p2 rfl hw
/-- the comprehension stored within its frame -/
theorem ps_lcD (o : SOk C W m X) {i : Nat} {elt : DE} {tgt : Tg} {it : DI} {cs : DEs} {x : Str} {px pos p2 : Pos} {xe t i' : Expr} {ifs : List Expr} {scope : Scope} (hs : mStore m i x = true) (he : mE m (.comp elt tgt it cs) (.ListComp xe [⟨t, i', ifs, 0⟩] scope p2) = true)
    (hw : swapB m (.ListComp xe [⟨t, i', ifs, 0⟩] scope p2) x px = true) :
    PS X (.Assign [.Name x px] (.ListComp xe [⟨t, i', ifs, 0⟩] scope p2) pos) (tAsg (tLc (TIb X W (evalIt C it)) (GD X.K tgt) (TTs X W0 (evalT C cs)) (TV X W0 false (evalE C elt)) (tgSlots tgt)) (gName i)) := by
  obtain ⟨s1, s2, s3⟩ := o.toXOk.store hs
  have hyl : X.env.scope.names.lookup x = some .local := by
    rw [o.sc]
    unfold swapB at hw
    simp only [Bool.and_eq_true, decide_eq_true_eq] at hw
    exact hw.1.1
  simp only [mE, Bool.and_eq_true] at he
  obtain ⟨⟨⟨⟨⟨⟨hi, ht⟩, he⟩, hc⟩, h1⟩, hst⟩, hb⟩ := he
  have key := ps_setLc (wi := TIb X W (evalIt C it)) (g := GD X.K tgt) (tt := TTs X W0 (evalT C cs)) (te := TV X W0 false (evalE C elt)) (own := ownOf m tgt) (py := px) (spos := pos) o.calm o.toXOk.ndX s1 hyl (by rw [swapsWith_lc o.sc o.kind rfl, hw]) (snd_it it i' t m X W o.toXOk hi) (by rw [o.nm, o.sc]; exact blkOk_by hb)
    (fun s H Ca cl fp => snd_tg (o.toXOk.blk s H scope Ca cl fp) ht) (fun s H Ca cl fp => snd_ts cs ifs _ _ W0 (o.toXOk.blk s H scope Ca cl fp) hc h1) (fun s H Ca cl fp => (snd_e elt xe _ _ W0 (o.toXOk.blk s H scope Ca cl fp) he).1.fix) (fun x => unfolded hst x) (pos := p2)
  have e1 : (ownOf m tgt).map (·.2) = tgSlots tgt := by unfold ownOf; rw [List.map_map]; exact List.map_id _
  rw [e1] at key
  exact key
theorem asg_mono {f : Bool} {i : Nat} {r : DEnv → Res PyData} {D : Ends} {σ : L2.St} {H : Hp} (q : TSD X W B (fun ρ => (r ρ).bind fun d => .ok (.next (ρ.set i (.val d)))) D σ H) : tAsg (TV X W false r) (gName i) D σ H := by
  obtain ⟨F, ρ, s, p⟩ := q
  unfold tAsg
  refine TSD.bind s p fun x F1 H1 d e r1 _ s1 p1 => ?_
  exact p1 _ F1 H1 s1.refl (s1.setVal r1)
/-- a frozen value's reading from a new one's -/
theorem tv_fix {f : Bool} {r : DEnv → Res PyData} {σ : L2.St} {H : Hp} {Q : VK} (q : TV X W false r σ H Q) : TV X W f r σ H Q := by
  cases f with
  | false => exact q
  | true =>
    obtain ⟨F, ρ, s, f, p⟩ := q
    refine ⟨F, ρ, s, f, ?_⟩
    cases z : r ρ with
    | exc c d => rw [z] at p; exact p
    | stuck => rw [z] at p; exact p
    | ok d =>
      rw [z] at p
      intro v F' H' ex rr
      cases d with
      | list ds =>
        obtain ⟨⟨a, vs, rfl, n, ha, zz, r⟩, fr⟩ := rr
        exact p (.ref a) (L2.upd F' a (.lst vs)) H' (ex.fix ha n (fr a rfl)) (.lst upd_same zz (r.sub (Sub.new n)))
      | _ => exact p v F' H' ex rr
theorem asgO_mono {i : Nat} {r : DEnv → Res PyData} {D : Ends} {σ : L2.St} {H : Hp} (q : TSD X W B (fun ρ => (r ρ).bind fun d => match d with | .list _ => .ok (.next (ρ.set i (.own d))) | _ => .stuck) D σ H) : tAsg (TV X W true r) (gName i) D σ H := by
  obtain ⟨F, ρ, s, p⟩ := q
  unfold tAsg
  refine TSD.bind s p fun x F1 H1 d e r1 _ s1 p1 => ?_
  cases d with
  | list ds =>
    obtain ⟨ow, fr⟩ := (show OwnR X.K F1 H1 x (.list ds) ∧ ∀ a, x = .ref a → Nn H a from r1)
    obtain ⟨a, vs, rfl, n, ha, zz, rr⟩ := id ow
    have hB : Nn B a := s.bh.free (fr a rfl)
    refine p1 _ F1 H1 s1.refl ⟨s1.fh, s1.bh, s1.fr.setOwn ow fun j d' hj hd hv => ?_, fun j d' b h1 h2 => ?_⟩
    · -- another own slot stood ahead of it
      obtain ⟨v, hv', ow'⟩ := s.fr.own (i := j) (d := d') (by rw [List.getD_eq_getElem?_getD, hd]; rfl)
      rw [hv] at hv'; cases hv'
      cases d' with
      | list es =>
        obtain ⟨b, ws, e2, _, hb, _⟩ := ow'
        cases e2
        exact (fr a rfl).no hb
      | _ => exact ow'.elim
    · by_cases z : i = j
      · subst z
        have hi : i < σ.length := by
          have := (List.getElem?_eq_some_iff.mp h2).1
          simpa using this
        rw [List.getElem?_set_self hi] at h2
        cases h2
        exact hB
      · rw [List.getElem?_set_ne z] at h1 h2
        exact s.ba j d' b h1 h2
  | _ => exact (show False from p1).elim
end
end DP

/-! ## DStmt2 -/
set_option Elab.async false
set_option linter.all false
set_option maxRecDepth 100000
set_option maxHeartbeats 4000000
set_option autoImplicit false
namespace DP
open PySem PySem.Spec L2
variable [Tb]
section
variable {C : Ctx} {W : WX} {m : MC} {X : Cx} {B : Hp} {tg : Expr}
theorem ret_mono {r : DEnv → Res PyData} {D : Ends} {σ : L2.St} {H : Hp} (q : TSD X W B (fun ρ => (r ρ).bind fun d => .ok (.ret d)) D σ H) : tRet (TV X W false r) D σ H := by
  obtain ⟨F, ρ, s, p⟩ := q
  unfold tRet
  refine TSD.bind s p fun x F1 H1 d e r1 _ s1 p1 => ?_
  exact p1 x F1 H1 s1.refl r1
/-- a name's own list is fixed -/
theorem SW.freeze {K : PySem.W.Frag} {F H : Hp} {σ : L2.St} {ρ : DEnv} {i : Nat} {d : PyData} (s : SW K B σ F H ρ) (e : ρ.getD i .un = .own d) : ∃ F', SW K B σ F' H (ρ.set i (.val d)) ∧ Ext F B F' H := by
  obtain ⟨v, hv, ow⟩ := s.fr.own e
  have hr : ρ[i]? = some (.own d) := by
    rw [List.getD_eq_getElem?_getD] at e
    cases q : ρ[i]? with
    | none => rw [q] at e; cases e
    | some sl => rw [q] at e; simp only [Option.getD_some] at e; rw [e]
  cases d with
  | list ds =>
    obtain ⟨a, vs, rfl, n, ha, zz, rr⟩ := ow
    have hB : Nn B a := s.ba i _ a hr hv
    have sF : Sub F (L2.upd F a (.lst vs)) := Sub.new n
    refine ⟨L2.upd F a (.lst vs), ⟨s.fh.to ha, s.bh, s.fr.mut hr hv sF (fun b ws hb nb hbw => ⟨fun o q => by rw [upd_ne hb] at q; exact nb o q, hbw⟩) ⟨_, rfl, .lst upd_same zz (rr.sub sF)⟩, fun j d' b h1 h2 => ?_⟩, ⟨sF, s.fh.to ha, s.bh, fun b o q => ?_⟩⟩
    · by_cases z : i = j
      · subst z
        have hi : i < ρ.length := (List.getElem?_eq_some_iff.mp hr).1
        rw [List.getElem?_set_self hi] at h1; cases h1
      · rw [List.getElem?_set_ne z] at h1
        exact s.ba j d' b h1 h2
    · by_cases z : b = a
      · subst z; exact .inr hB
      · rw [upd_ne z] at q; exact .inl q
  | _ => exact ow.elim
theorem retO_mono {i : Nat} {D : Ends} {σ : L2.St} {H : Hp} (q : TSD X W B (fun ρ => match ρ.getD i .un with | .own d => .ok (.ret d) | _ => .stuck) D σ H) : tRet (tVar i) D σ H := by
  obtain ⟨F, ρ, s, p⟩ := q
  dsimp only at p
  split at p
  · rename_i d e
    obtain ⟨v, hv, _⟩ := s.fr.own e
    obtain ⟨F', s', ex⟩ := s.freeze e
    have hi : i < ρ.length := by
      rw [List.getD_eq_getElem?_getD] at e
      cases q : ρ[i]? with
      | none => rw [q] at e; cases e
      | some sl => exact (List.getElem?_eq_some_iff.mp q).1
    obtain ⟨w, hw, rw'⟩ := s'.fr.val (i := i) (d := d) (by rw [List.getD_eq_getElem?_getD, List.getElem?_set_self hi]; rfl)
    exact ⟨w, hw, p w F' H ex rw'⟩
  · exact p.elim
theorem expr_mono {r : DEnv → Res PyData} {D : Ends} {σ : L2.St} {H : Hp} (q : TSD X W B (fun ρ => (r ρ).bind fun _ => .ok (.next ρ)) D σ H) : tDrop (TV X W false r) D σ H := by
  obtain ⟨F, ρ, s, p⟩ := q
  unfold tDrop
  refine TSD.bind s p fun x F1 H1 d e r1 _ s1 p1 => ?_
  exact p1 _ F1 H1 s1.refl s1
theorem ite_mono {r : DEnv → Res PyData} {ra rb : DEnv → Res Flw} {D : Ends} {σ : L2.St} {H : Hp} (q : TSD X W B (fun ρ => (r ρ).bind fun d => (asB d).bind fun k => if k then ra ρ else rb ρ) D σ H) : tIfS (TTs X W fun ρ => (r ρ).bind asB) (TSD X W B ra) (TSD X W B rb) D σ H := by
  obtain ⟨F, ρ, s, p⟩ := q
  dsimp only at p
  unfold tIfS
  have p' : PostF X.K X.mg W B F D (((r ρ).bind asB).bind fun k => if k then ra ρ else rb ρ) := by
    cases z : r ρ with
    | stuck => rw [z] at p; exact p
    | exc c d => rw [z] at p; exact p
    | ok d => rw [z] at p; exact p
  refine TSD.bind (r := fun ρ => (r ρ).bind asB) s p' fun b F1 H1 b' e r1 _ s1 p1 => ?_
  subst r1
  cases b with
  | true => exact iteT ⟨F1, ρ, s1, p1⟩
  | false => exact iteF ⟨F1, ρ, s1, p1⟩
theorem SW.sets {K : PySem.W.Frag} {F H : Hp} : ∀ {is : List Nat} {vs : List V} {ds : List PyData} {σ : L2.St} {ρ ρ' : DEnv} {Q : L2.St → Hp → Prop}, RpAll K F vs ds → SW K B σ F H ρ → setAll is ds ρ = .ok ρ' → (∀ σ', SW K B σ' F H ρ' → Q σ' H) → GDs is vs σ H Q
  | [], vs, ds, σ, ρ, ρ', Q, r, f, e, q => by
    cases ds with
    | nil => cases r; simp only [setAll] at e; cases e; exact ⟨rfl, q σ f⟩
    | cons => simp only [setAll] at e; cases e
  | i :: is, vs, ds, σ, ρ, ρ', Q, r, f, e, q => by
    cases ds with
    | nil => simp only [setAll] at e; cases e
    | cons d ds =>
      cases r with
      | cons a b =>
        simp only [setAll] at e
        exact ⟨_, _, rfl, SW.sets b (f.setVal a) e q⟩
theorem SW.setTg {K : PySem.W.Frag} {F H : Hp} {σ : L2.St} {ρ ρ' : DEnv} {tg : Tg} {v : V} {d : PyData} {Q : L2.St → Hp → Prop} (s : SW K B σ F H ρ) (r : Rp K F v d) (e : DP.setTg tg d ρ = .ok ρ') (q : ∀ σ', SW K B σ' F H ρ' → Q σ' H) : GD K tg v σ H Q := by
  cases tg with
  | name i =>
    simp only [DP.setTg] at e
    cases e
    exact q _ (s.setVal r)
  | tup is =>
    cases d <;> first | (simp only [DP.setTg] at e; cases e; done) | skip
    simp only [DP.setTg] at e
    cases r with
    | tup a z b =>
      exact ⟨_, _, rfl, sub_t s.fh a, by rw [b.length]; exact gd_set.setAll_len e, SW.sets b s e q⟩
theorem unp_mono {is : List Nat} {r : DEnv → Res PyData} {D : Ends} {σ : L2.St} {H : Hp} (q : TSD X W B (fun ρ => (r ρ).bind fun d => match d with | .tuple ds => (setAll is ds ρ).bind fun ρ' => .ok (.next ρ') | _ => .stuck) D σ H) : tAsg (TV X W false r) (GD X.K (.tup is)) D σ H := by
  obtain ⟨F, ρ, s, p⟩ := q
  unfold tAsg
  refine TSD.bind s p fun x F1 H1 d e r1 _ s1 p1 => ?_
  cases d with
  | tuple ds =>
    dsimp only at p1
    cases z : setAll is ds ρ with
    | stuck => rw [z] at p1; exact p1.elim
    | exc c d =>
      exact absurd z (noexc is ds ρ c d)
    | ok ρ' =>
      rw [z, Res.bind_ok] at p1
      exact s1.setTg (tg := .tup is) r1 z fun σ' s' => p1 σ' F1 H1 s'.refl s'
  | _ => exact (show False from p1).elim
where
  noexc : ∀ (is : List Nat) (ds : List PyData) (ρ : DEnv) (c : String) (d : PyData), setAll is ds ρ ≠ .exc c d
    | [], [], _, _, _, h => by simp only [setAll] at h; cases h
    | [], _ :: _, _, _, _, h => by simp only [setAll] at h; cases h
    | _ :: _, [], _, _, _, h => by simp only [setAll] at h; cases h
    | i :: is, d :: ds, ρ, c, e, h => by simp only [setAll] at h; exact noexc is ds _ c e h
theorem unpL_mono {is : List Nat} {r : DEnv → Res PyData} {D : Ends} {σ : L2.St} {H : Hp} (q : TSD X W B (fun ρ => (r ρ).bind fun d => match d with | .list ds => (setAll is ds ρ).bind fun ρ' => .ok (.next ρ') | _ => .stuck) D σ H) : tAsg (TV X W false r) (gUnl X.K is.length (GDs is)) D σ H := by
  obtain ⟨F, ρ, s, p⟩ := q
  unfold tAsg
  refine TSD.bind s p fun x F1 H1 d e r1 _ s1 p1 => ?_
  cases d with
  | list ds =>
    dsimp only at p1
    cases z : setAll is ds ρ with
    | stuck => rw [z] at p1; exact p1.elim
    | exc c d => exact absurd z (unp_mono.noexc is ds ρ c d)
    | ok ρ' =>
      rw [z, Res.bind_ok] at p1
      cases r1 with
      | lst a z' b =>
        exact ⟨_, _, rfl, SqL.of (s1.fh.get a), by rw [b.length]; exact gd_set.setAll_len z, SW.sets b s1 z fun σ' s' => p1 σ' F1 H1 s'.refl s'⟩
  | _ => exact (show False from p1).elim
theorem par_mono {i j : Nat} {ra rb : DEnv → Res PyData} {D : Ends} {σ : L2.St} {H : Hp} (q : TSD X W B (fun ρ => (ra ρ).bind fun x => (rb ρ).bind fun y => .ok (.next ((ρ.set i (.val x)).set j (.val y)))) D σ H) : tPar i j (tCons (TV X W false ra) (tCons (TV X W false rb) tNil)) D σ H := by
  obtain ⟨F, ρ, s, p⟩ := q
  unfold tPar tCons
  refine TSD.bind s p fun x F1 H1 d e r1 _ s1 p1 => ?_
  refine TSD.bind s1 p1 fun y F2 H2 d2 e2 r2 _ s2 p2 => ?_
  exact ⟨x, y, rfl, p2 _ F2 H2 s2.refl ((s2.setVal (Rp.sub e2.ff r1)).setVal r2)⟩
/-- changing an own list -/
theorem SW.write {K : PySem.W.Frag} {F H : Hp} {σ : L2.St} {ρ : DEnv} {i : Nat} {a : Addr} {d : PyData} {vs' : List V} {ds' : List PyData} (s : SW K B σ F H ρ) (hr : ρ[i]? = some (.own d)) (hv : σ[i]? = some (some (.ref a))) (n : Nn F a) {ws' : List V} (hl : H a = some (.lst ws')) (z : vs'.length ≤ sizeLine) (r : RpAll K F vs' ds') :
    SW K B σ F (L2.upd H a (.lst vs')) (ρ.set i (.own (.list ds'))) := by
  have hB : Nn B a := s.ba i _ a hr hv
  refine ⟨s.fh.mut n hl, s.bh.mut hB, s.fr.mut hr hv (Sub.refl F) (fun b ws hb nb hbw => ⟨nb, by rw [upd_ne hb]; exact hbw⟩) ⟨_, rfl, a, vs', rfl, n, upd_same, z, r⟩, fun j d' b h1 h2 => ?_⟩
  by_cases zz : i = j
  · subst zz
    rw [hv] at h2; cases h2; exact hB
  · rw [List.getElem?_set_ne zz] at h1
    exact s.ba j d' b h1 h2
theorem getD_own {ρ : DEnv} {i : Nat} {d : PyData} (e : ρ.getD i .un = .own d) : ρ[i]? = some (.own d) := by
  rw [List.getD_eq_getElem?_getD] at e
  cases q : ρ[i]? with
  | none => rw [q] at e; cases e
  | some sl => rw [q] at e; simp only [Option.getD_some] at e; rw [e]
theorem own_slot {K : PySem.W.Frag} {F H : Hp} {σ : L2.St} {ρ : DEnv} {i : Nat} {xs : List PyData} (s : SW K B σ F H ρ) (e : ρ.getD i .un = .own (.list xs)) :
    ∃ a vs, σ[i]? = some (some (.ref a)) ∧ Nn F a ∧ H a = some (.lst vs) ∧ vs.length ≤ sizeLine ∧ RpAll K F vs xs := by
  obtain ⟨v, hv, a, vs, rfl, n, ha, z, r⟩ := s.fr.own e
  exact ⟨a, vs, hv, n, ha, z, r⟩
theorem app_mono {i : Nat} {r : DEnv → Res PyData} {D : Ends} {σ : L2.St} {H : Hp} (q : TSD X W B (fun ρ => match ρ.getD i .un with | .own (.list xs) => (r ρ).bind fun d => appD ρ i xs d | _ => .stuck) D σ H) : tDrop (tBM X.K "list" rAppend (tVar i) (tCons (TV X W false r) tNil)) D σ H := by
  obtain ⟨F, ρ, s, p⟩ := q
  unfold tDrop tBM tCons
  dsimp only at p
  split at p
  · rename_i xs z
    obtain ⟨a, vs, hv, n, ha, zz, rr⟩ := own_slot s z
    refine ⟨.ref a, hv, .inl ⟨rfl, _, .inl (.inl ha)⟩, ?_⟩
    refine TSD.bind s p fun x F1 H1 d e r1 _ s1 p1 => ?_
    obtain ⟨a', vs', hv', n', ha', zz', rr'⟩ := own_slot s1 z
    rw [hv] at hv'; cases hv'
    unfold appD at p1
    split at p1
    · rename_i hl
      refine ⟨a, vs', x, rfl, rfl, ha', by rw [rr'.length]; exact lim_lt hl, ?_⟩
      have s2 := s1.write (vs' := vs' ++ [x]) (ds' := xs ++ [d]) (getD_own z) hv n' ha' (by rw [List.length_append, rr'.length]; exact lim_lt hl) (rr'.append (.cons r1 .nil))
      exact p1 _ F1 _ s2.refl s2
    · exact p1.elim
  · exact p.elim
theorem ext_mono {i : Nat} {r : DEnv → Res PyData} {D : Ends} {σ : L2.St} {H : Hp} (q : TSD X W B (fun ρ => match ρ.getD i .un with | .own (.list xs) => (r ρ).bind fun d => extD ρ i xs d | _ => .stuck) D σ H) : tDrop (tBM X.K "list" rExtend (tVar i) (tCons (TV X W false r) tNil)) D σ H := by
  obtain ⟨F, ρ, s, p⟩ := q
  unfold tDrop tBM tCons
  dsimp only at p
  split at p
  · rename_i xs z
    obtain ⟨a, vs, hv, n, ha, zz, rr⟩ := own_slot s z
    refine ⟨.ref a, hv, .inl ⟨rfl, _, .inl (.inl ha)⟩, ?_⟩
    refine TSD.bind s p fun x F1 H1 d e r1 _ s1 p1 => ?_
    obtain ⟨a', vs', hv', n', ha', zz', rr'⟩ := own_slot s1 z
    rw [hv] at hv'; cases hv'
    unfold extD at p1
    split at p1
    · rename_i ys _
      split at p1
      · rename_i hl
        cases (show Rp X.K F1 x (.list ys) from r1) with
        | lst hq z2 r2 =>
          rename_i b ws
          refine ⟨a, b, vs', ws, rfl, rfl, ha', s1.fh.get hq, by rw [rr'.length, r2.length]; exact lim_line hl, ?_⟩
          have s2 := s1.write (vs' := vs' ++ ws) (ds' := xs ++ ys) (getD_own z) hv n' ha' (by rw [List.length_append, rr'.length, r2.length]; exact lim_line hl) (rr'.append r2)
          exact p1 _ F1 _ s2.refl s2
      · exact p1.elim
    · exact p1.elim
  · exact p.elim

/-! ### loops -/
/-- what is walked, all of it fixed -/
def evalItZ (C : Ctx) : DI → DEnv → Res (List PyData)
  | .plain e, ρ => (evalE C e ρ).bind itemsD
  | .rng e, ρ => (evalE C e ρ).bind rngD
  | .rng2 a b, ρ => (evalE C a ρ).bind fun x => (evalE C b ρ).bind fun y => rng2D x y
  | .enum e, ρ => (evalE C e ρ).bind enumIt
  | .zip a b, ρ => (evalE C a ρ).bind fun x => (evalE C b ρ).bind fun y => zipIt x y
  | .rev e, ρ => (evalE C e ρ).bind revIt
theorem snd_itZ (o : XOk C W m X) : ∀ (p : DI) (e : Expr), mIt m p e = true → PI X tg e (TIf X W (evalItZ C p))
  | .plain a, e, h => by
    simp only [mIt] at h
    exact pi_plainF (snd_e a e m X W o h).1.fix
  | .rng a, e, h => by
    cases e <;> first | (simp only [mIt] at h; cases h; done) | skip
    rename_i g as kws pos
    cases g <;> first | (simp only [mIt] at h; cases h; done) | skip
    match as, kws, h with
    | [x], [], h =>
      simp only [mIt, Bool.and_eq_true] at h
      obtain ⟨⟨hf, ha⟩, hs⟩ := h
      obtain ⟨e1, gl, n⟩ := o.gl hf
      subst e1
      exact pi_rng gl (o.blt _ (by decide)) (snd_e a x m X W o ha).1.fix hs
    | [], _, h => simp only [mIt] at h; cases h
    | _ :: _ :: _, _, h => simp only [mIt] at h; cases h
    | [_], _ :: _, h => simp only [mIt] at h; cases h
  | .rng2 a b, e, h => by
    cases e <;> first | (simp only [mIt] at h; cases h; done) | skip
    rename_i g as kws pos
    cases g <;> first | (simp only [mIt] at h; cases h; done) | skip
    match as, kws, h with
    | [x, z], [], h =>
      simp only [mIt, Bool.and_eq_true] at h
      obtain ⟨⟨⟨⟨hf, ha⟩, hb⟩, hs⟩, hs'⟩ := h
      obtain ⟨e1, gl, n⟩ := o.gl hf
      subst e1
      exact pi_rng2 gl (o.blt _ (by decide)) (snd_e a x m X W o ha).1.fix (snd_e b z m X W o hb).1.fix hs hs'
    | [], _, h => simp only [mIt] at h; cases h
    | [_], _, h => simp only [mIt] at h; cases h
    | _ :: _ :: _ :: _, _, h => simp only [mIt] at h; cases h
    | [_, _], _ :: _, h => simp only [mIt] at h; cases h
  | .rev a, e, h => by
    cases e <;> first | (simp only [mIt] at h; cases h; done) | skip
    rename_i g as kws pos
    cases g <;> first | (simp only [mIt] at h; cases h; done) | skip
    match as, kws, h with
    | [x], [], h =>
      simp only [mIt, Bool.and_eq_true] at h
      obtain ⟨⟨hf, ha⟩, hs⟩ := h
      obtain ⟨e1, gl, n⟩ := o.gl hf
      subst e1
      exact pi_revF gl (o.blt _ (by decide)) (snd_e a x m X W o ha).1.fix hs
    | [], _, h => simp only [mIt] at h; cases h
    | _ :: _ :: _, _, h => simp only [mIt] at h; cases h
    | [_], _ :: _, h => simp only [mIt] at h; cases h
  | .enum _, e, h => by cases e <;> (simp only [mIt] at h; cases h)
  | .zip _ _, e, h => by cases e <;> (simp only [mIt] at h; cases h)
theorem snd_itZF (o : XOk C W m X) : ∀ (p : DI) (t e : Expr), mItF m p t e = true → PI X t e (TIf X W (evalItZ C p))
  | .enum a, t, e, h => by
    simp only [mItF, Bool.and_eq_true] at h
    obtain ⟨ht, h⟩ := h
    split at h
    · rename_i y x hc
      obtain ⟨p, pos, rfl⟩ := call1_some hc
      simp only [Bool.and_eq_true] at h
      obtain ⟨⟨hf, ha⟩, hs⟩ := h
      obtain ⟨e1, gl, n⟩ := o.gl hf
      subst e1
      cases t <;> first | cases ht | skip
      exact pi_enF gl (o.blt _ (by decide)) (snd_e a x m X W o ha).1.fix hs
    · cases h
  | .zip a b, t, e, h => by
    simp only [mItF, Bool.and_eq_true] at h
    obtain ⟨ht, h⟩ := h
    split at h
    · rename_i y x z hc
      obtain ⟨p, pos, rfl⟩ := call2_some hc
      simp only [Bool.and_eq_true] at h
      obtain ⟨⟨⟨⟨hf, ha⟩, hb⟩, hs⟩, hs'⟩ := h
      obtain ⟨e1, gl, n⟩ := o.gl hf
      subst e1
      cases t <;> first | cases ht | skip
      exact pi_zipF gl (o.blt _ (by decide)) (snd_e a x m X W o ha).1.fix (snd_e b z m X W o hb).1.fix hs hs'
    · cases h
  | .plain a, t, e, h => snd_itZ o (.plain a) e h
  | .rng a, t, e, h => snd_itZ o (.rng a) e h
  | .rng2 a b, t, e, h => snd_itZ o (.rng2 a b) e h
  | .rev a, t, e, h => snd_itZ o (.rev a) e h
theorem freeze_it {F H : Hp} {σ : L2.St} {ρ : DEnv} (it : DI) (s : SW X.K B σ F H ρ) : ∃ F', SW X.K B σ F' H (freezeIt it ρ) ∧ Ext F B F' H ∧ (∀ ds, evalItF C it ρ = .ok ds → evalItZ C it (freezeIt it ρ) = .ok ds) ∧ ∀ c d, evalItF C it ρ = .exc c d → evalItZ C it (freezeIt it ρ) = .exc c d := by
  have triv : freezeIt it ρ = ρ → (∀ ds, evalItF C it ρ = .ok ds → evalItZ C it ρ = .ok ds) → (∀ c d, evalItF C it ρ = .exc c d → evalItZ C it ρ = .exc c d) → ∃ F', SW X.K B σ F' H (freezeIt it ρ) ∧ Ext F B F' H ∧ (∀ ds, evalItF C it ρ = .ok ds → evalItZ C it (freezeIt it ρ) = .ok ds) ∧ ∀ c d, evalItF C it ρ = .exc c d → evalItZ C it (freezeIt it ρ) = .exc c d := fun e1 e2 e3 => by
    rw [e1]; exact ⟨F, s, s.refl, e2, e3⟩
  cases it with
  | plain e =>
    cases e with
    | var i =>
      cases z : ρ.getD i .un with
      | un =>
        refine triv (by simp only [freezeIt, z]) (fun ds q => ?_) (fun c d q => ?_)
        · simp only [evalItF, brw, look, z] at q; cases q
        · simp only [evalItF, brw, look, z] at q; cases q
      | val d =>
        refine triv (by simp only [freezeIt, z]) (fun ds q => ?_) (fun c d q => ?_)
        · simp only [evalItF, brw, look, z] at q; simp only [evalItZ, evalE, z]; exact q
        · simp only [evalItF, brw, look, z] at q; simp only [evalItZ, evalE, z]; exact q
      | own d =>
        obtain ⟨F', s', ex⟩ := s.freeze z
        have e1 : freezeIt (.plain (.var i)) ρ = ρ.set i (.val d) := by simp only [freezeIt, z]
        have hi : i < ρ.length := (List.getElem?_eq_some_iff.mp (getD_own z)).1
        have e2 : (ρ.set i (.val d)).getD i .un = .val d := by rw [List.getD_eq_getElem?_getD, List.getElem?_set_self hi]; rfl
        refine ⟨F', by rw [e1]; exact s', ex, fun ds q => ?_, fun c d' q => ?_⟩
        · simp only [evalItF, brw, look, z] at q; rw [e1]; simp only [evalItZ, evalE, e2]; exact q
        · simp only [evalItF, brw, look, z] at q; rw [e1]; simp only [evalItZ, evalE, e2]; exact q
    | _ => exact triv rfl (fun ds q => q) (fun c d q => q)
  | _ => exact triv rfl (fun ds q => q) (fun c d q => q)
theorem Fr.un {K : PySem.W.Frag} {σ : L2.St} {F H : Hp} {ρ : DEnv} (f : Fr K σ F H ρ) (v : Nat) : Fr K σ F H (ρ.set v .un) := by
  have ne : ∀ {l : Nat} {dd : PyData}, (ρ.set v .un)[l]? = some (.own dd) → v ≠ l := fun {l dd} q z => by
    subst z
    have hi : v < ρ.length := by
      have := (List.getElem?_eq_some_iff.mp q).1
      simpa using this
    rw [List.getElem?_set_self hi] at q; cases q
  refine ⟨by simp [f.len], fun i sl q => ?_, fun i j d d' w h1 h2 h3 h4 => ?_⟩
  · by_cases z : v = i
    · subst z
      have hi : v < ρ.length := by
        have := (List.getElem?_eq_some_iff.mp q).1
        simpa using this
      rw [List.getElem?_set_self hi] at q
      cases q
      obtain ⟨o, a, _⟩ := f.at' v _ (List.getElem?_eq_getElem hi)
      exact ⟨o, a, trivial⟩
    · rw [List.getElem?_set_ne z] at q
      exact f.at' i sl q
  · have n1 := ne h1
    have n2 := ne h2
    rw [List.getElem?_set_ne n1] at h1
    rw [List.getElem?_set_ne n2] at h2
    exact f.dis i j d d' w h1 h2 h3 h4
theorem SW.wp {K : PySem.W.Frag} {B : Hp} {σ : L2.St} {F H : Hp} {ρ : DEnv} (s : SW K B σ F H ρ) : ∀ ws : List Nat, SW K B σ F H (wipeE ρ ws)
  | [] => s
  | v :: vs => by
    have ih := SW.wp s vs
    refine ⟨ih.fh, ih.bh, ih.fr.un v, fun i d a h1 h2 => ?_⟩
    unfold wipeE at h1
    by_cases z : v = i
    · subst z
      have hi : v < (wipeE ρ vs).length := by
        have := (List.getElem?_eq_some_iff.mp h1).1
        simpa using this
      rw [List.getElem?_set_self hi] at h1; cases h1
    · rw [List.getElem?_set_ne z] at h1
      exact ih.ba i d a h1 h2
theorem for_mono {it : DI} {tgt : Tg} {ws : List Nat} {body : DEnv → Res Flw} {D : Ends} {σ : L2.St} {H : Hp} (q : TSD X W B (fun ρ => (evalItF C it ρ).bind fun ds => loopD body tgt ws ds (wipeE (freezeIt it ρ) ws)) D σ H) : tFor (TIf X W (evalItZ C it)) (GD X.K tgt) (TSD X W B body) D σ H := by
  obtain ⟨F, ρ, s, p⟩ := q
  dsimp only at p
  obtain ⟨F0, s0, ex0, k1, k2⟩ := freeze_it (C := C) it s
  have p0 : PostF X.K X.mg W B F0 D ((evalItZ C it (freezeIt it ρ)).bind fun ds => loopD body tgt ws ds (wipeE (freezeIt it ρ) ws)) := by
    have p' := p.step ex0
    cases z : evalItF C it ρ with
    | stuck => rw [z] at p'; exact p'.elim
    | exc c d => rw [z] at p'; rw [k2 c d z]; exact p'
    | ok ds => rw [z] at p'; rw [k1 ds z]; exact p'
  unfold tFor
  refine TSD.bind s0 p0 fun J F1 H1 ds e1 hJ _ s1 p1 => ?_
  obtain ⟨hz, G, Y, wk, hG, hY⟩ := hJ
  refine for_it wk (fun i σ' H' => ∃ F' ρ', Ext F1 B F' H' ∧ SW X.K B σ' F' H' ρ' ∧ PostF X.K X.mg W B F' D (loopD body tgt ws (ds.drop i) ρ')) ?_ ?_ ?_ ?_
  · exact ⟨F1, _, s1.refl, s1.wp ws, by simpa using p1⟩
  · rintro i σ' H' hi ⟨F', ρ', ex, s', p'⟩
    exact hG H' (ex.ff.trans ex.fh)
  · rintro i x σ' H' H'' hi ⟨F', ρ', ex, s', p'⟩ hy
    obtain ⟨d, hd, hx⟩ := hY i H' x H'' hi (ex.ff.trans ex.fh) hy
    have hdrop : ds.drop i = d :: ds.drop (i + 1) := List.drop_eq_getElem?_toList_append.trans (by rw [hd]; rfl)
    rw [hdrop] at p'
    simp only [loopD] at p'
    obtain ⟨F2, e2, rx⟩ : ∃ F2, Ext F' H' F2 H'' ∧ Rp X.K F2 x d := by
      rcases hx with ⟨rfl, rx⟩ | ⟨T, vs, es, rfl, hT, rfl, rfl, zz, rr⟩
      · exact ⟨F', Ext.refl s'.fh, rx.sub ex.ff⟩
      · exact ⟨_, Ext.new s'.fh hT, .tup (.inl (.inl upd_same)) zz ((rr.sub ex.ff).sub (Sub.new (s'.fh.free hT)))⟩
    have s2 := s'.ext e2
    have p2 := p'.step (e2.base s'.bh)
    cases z1 : DP.setTg tgt d ρ' with
    | stuck => rw [z1] at p2; exact p2.elim
    | exc c d' => exact absurd z1 (noexc tgt d ρ' c d')
    | ok ρ2 =>
      rw [z1, Res.bind_ok] at p2
      refine s2.setTg rx z1 fun σ3 s3 => ⟨F2, ρ2, s3, ?_⟩
      have ex2 : Ext F1 B F2 H'' := ex.transB (e2.base s'.bh)
      cases z2 : body ρ2 with
      | stuck => rw [z2] at p2; exact p2
      | exc c d' => rw [z2] at p2; exact p2
      | ok f =>
        rw [z2, Res.bind_ok] at p2
        cases f with
        | next ρ4 => exact fun σ4 F4 H4 e4 s4 => ⟨F4, _, ex2.transB e4, s4.wp ws, p2.step e4⟩
        | cont ρ4 => exact fun σ4 F4 H4 e4 s4 => ⟨F4, _, ex2.transB e4, s4.wp ws, p2.step e4⟩
        | brk ρ4 => exact p2
        | ret d' => exact p2
  · rintro σ' H' ⟨F', ρ', ex, s', p'⟩
    rw [List.drop_eq_nil_of_le (Nat.le_refl _)] at p'
    simp only [loopD] at p'
    exact p' σ' F' H' s'.refl s'
where
  noexc (tgt : Tg) (d : PyData) (ρ : DEnv) (c : String) (e : PyData) : DP.setTg tgt d ρ ≠ .exc c e := fun h => by
    cases tgt with
    | name i => simp only [DP.setTg] at h; cases h
    | tup is =>
      cases d <;> first | (simp only [DP.setTg] at h; cases h; done) | skip
      simp only [DP.setTg] at h
      exact unp_mono.noexc _ _ _ _ _ h
theorem whil_mono {c : DEnv → Res Bool} {body : DEnv → Res Flw} {ws : List Nat} {n : Nat} {D : Ends} {σ : L2.St} {H : Hp} (q : TSD X W B (fun ρ => whileD c body ws n (wipeE ρ ws)) D σ H) : tWhile (TTs X W c) (TSD X W B body) D σ H := by
  obtain ⟨F, ρ, s, p⟩ := q
  unfold tWhile
  refine ⟨fun n σ' H' => ∃ F' ρ', SW X.K B σ' F' H' ρ' ∧ PostF X.K X.mg W B F' D (whileD c body ws n ρ'), ⟨n, F, _, s.wp ws, p⟩, ?_⟩
  rintro n σ' H' ⟨F', ρ', s', p'⟩
  cases n with
  | zero => exact p'.elim
  | succ n =>
    simp only [whileD] at p'
    refine TSD.bind s' p' fun b F1 H1 b' e1 r1 _ s1 p1 => ?_
    subst r1
    cases b with
    | false => exact iteF (p1 σ' F1 H1 s1.refl s1)
    | true =>
      refine iteT ?_
      simp only [if_true] at p1
      refine ⟨fun σ2 H2 => ∃ F2 ρ2, SW X.K B σ2 F2 H2 ρ2 ∧ PostF X.K X.mg W B F2 D (whileD c body ws n ρ2), fun σ2 H2 h => ⟨n, Nat.lt_succ_self n, h⟩, F1, ρ', s1, ?_⟩
      cases z2 : body ρ' with
      | stuck => rw [z2] at p1; exact p1
      | exc c d' => rw [z2] at p1; exact p1
      | ok f =>
        rw [z2, Res.bind_ok] at p1
        cases f with
        | next ρ4 => exact fun σ4 F4 H4 e4 s4 => ⟨F4, _, s4.wp ws, p1.step e4⟩
        | cont ρ4 => exact fun σ4 F4 H4 e4 s4 => ⟨F4, _, s4.wp ws, p1.step e4⟩
        | brk ρ4 => exact p1
        | ret d' => exact p1
end
end DP

/-! ## DStmt3 -/
set_option Elab.async false
set_option linter.all false
set_option maxRecDepth 100000
set_option maxHeartbeats 4000000
set_option autoImplicit false
namespace DP
open PySem PySem.Spec L2
variable [Tb]
theorem nodups2 {x y : Str} (h : x ≠ y) : [x, y].eraseDups.length = 2 := by
  have h' : (y == x) = false := by simpa using Ne.symm h
  simp [List.eraseDups_cons, h']
theorem swapped_two {m : MC} {env : Env} {x y : Str} {px py pt p2 : Pos} {kt k2 : Nat} {e f : Expr} (hk : env.scope = m.sc) (hf : m.sc.kind = .function) (hx : m.sc.names.lookup x = some .local) (hy : m.sc.names.lookup y = some .local) (hxy : x ≠ y) (hl : (px.line == py.line) = true)
    (s1 : noStar e = true) (s2 : noStar f = true) (hc : (foldedForSure 8 e && foldedForSure 8 f) = false) (hd : (constantsAlone 8 e && constantsAlone 8 f) = false) :
    swappedStores [.Tuple [.Name x px, .Name y py] kt pt] (.Tuple [e, f] k2 p2) env = pure (some [x, y]) := by
  have hb : env.blockKind = .function := by unfold Env.blockKind; rw [hk, hf]; rfl
  have kx : env.kindOf x = some .local := by unfold Env.kindOf; rw [hk]; exact hx
  have ky : env.kindOf y = some .local := by unfold Env.kindOf; rw [hk]; exact hy
  have hl' : py.line = px.line := (eq_of_beq hl).symm
  unfold swappedStores
  simp only [hb, kx, ky, Expr.pos, hl', List.all_cons, List.all_nil, Bool.and_true, hc, hd]
  simp [kx, ky, hl', Expr.pos, nodups2 hxy]
  intro z
  exfalso
  rcases z with z | z
  · cases e <;> first | (cases s1; done) | (cases z; done)
  · cases f <;> first | (cases s2; done) | (cases z; done)
theorem nameOf_some {ts : List Expr} {x : Str} {px : Pos} (h : nameOf ts = some (x, px)) : ts = [.Name x px] := by
  unfold nameOf at h
  split at h
  · cases h; rfl
  · cases h
theorem tupOf_some {ts es : List Expr} (h : tupOf ts = some es) : ∃ k p, ts = [.Tuple es k p] := by
  unfold tupOf at h
  split at h
  · cases h; exact ⟨_, _, rfl⟩
  · cases h
theorem parOf_some {ts : List Expr} {v e f : Expr} {x y : Str} {px py : Pos} (h : parOf ts v = some (x, px, y, py, e, f)) : ∃ kt pt k2 p2, ts = [.Tuple [.Name x px, .Name y py] kt pt] ∧ v = .Tuple [e, f] k2 p2 := by
  unfold parOf at h
  split at h
  · cases h; exact ⟨_, _, _, _, rfl, rfl⟩
  · cases h
theorem appOf_some {ex e : Expr} {x a : Str} {pa pc : Pos} (h : appOf ex = some (x, a, pa, e, pc)) : ∃ px, ex = .Call (.Attribute (.Name x px) a pa) [e] [] pc := by
  unfold appOf at h
  split at h
  · cases h; exact ⟨_, rfl⟩
  · cases h
section
variable {m : MC}
theorem inv_asg {i : Nat} {p : DE} {st : Stmt} (h : mS m (.asg i p) st = true) : ∃ x px e pos, st = .Assign [.Name x px] e pos ∧ mStore m i x = true ∧ mE m p e = true ∧ (noComp e || isLC e) = true := by
  cases st <;> first | (simp only [mS] at h; cases h; done) | skip
  rename_i ts e pos
  simp only [mS] at h
  split at h
  · rename_i x px z
    simp only [Bool.and_eq_true] at h
    exact ⟨x, px, e, pos, by rw [nameOf_some z], h.1.1, h.1.2, h.2⟩
  · cases h
theorem inv_asgO {i : Nat} {p : DE} {st : Stmt} (h : mS m (.asgO i p) st = true) : ∃ x px e pos, st = .Assign [.Name x px] e pos ∧ mStore m i x = true ∧ mE m p e = true ∧ (noComp e || isLC e) = true := by
  cases st <;> first | (simp only [mS] at h; cases h; done) | skip
  rename_i ts e pos
  simp only [mS] at h
  split at h
  · rename_i x px z
    simp only [Bool.and_eq_true] at h
    exact ⟨x, px, e, pos, by rw [nameOf_some z], h.1.1, h.1.2, h.2⟩
  · cases h
theorem inv_unp {is : List Nat} {p : DE} {st : Stmt} (h : mS m (.unp is p) st = true) : ∃ es k p2 e pos, st = .Assign [.Tuple es k p2] e pos ∧ mStores m is es = true ∧ mE m p e = true ∧ noSw m es e = true := by
  cases st <;> first | (simp only [mS] at h; cases h; done) | skip
  rename_i ts e pos
  simp only [mS] at h
  split at h
  · rename_i es z
    simp only [Bool.and_eq_true] at h
    obtain ⟨k, p2, rfl⟩ := tupOf_some z
    exact ⟨es, k, p2, e, pos, rfl, h.1.1, h.1.2, h.2⟩
  · cases h
theorem inv_unpL {is : List Nat} {p : DE} {st : Stmt} (h : mS m (.unpL is p) st = true) : ∃ es k p2 e pos, st = .Assign [.Tuple es k p2] e pos ∧ mStores m is es = true ∧ mE m p e = true ∧ noTup e = true := by
  cases st <;> first | (simp only [mS] at h; cases h; done) | skip
  rename_i ts e pos
  simp only [mS] at h
  split at h
  · rename_i es z
    simp only [Bool.and_eq_true] at h
    obtain ⟨k, p2, rfl⟩ := tupOf_some z
    exact ⟨es, k, p2, e, pos, rfl, h.1.1, h.1.2, h.2⟩
  · cases h
theorem inv_par {i j : Nat} {a b : DE} {st : Stmt} (h : mS m (.par i j a b) st = true) : ∃ x px y py kt pt e f k2 p2 pos, st = .Assign [.Tuple [.Name x px, .Name y py] kt pt] (.Tuple [e, f] k2 p2) pos ∧
    (mLoc m i x && mLoc m j y && mE m a e && mE m b f && noStar e && noStar f && decide (i ≠ j) && decide (x ≠ y) && (px.line == py.line) && !(foldedForSure 8 e && foldedForSure 8 f) && !(constantsAlone 8 e && constantsAlone 8 f)) = true := by
  cases st <;> first | (simp only [mS] at h; cases h; done) | skip
  rename_i ts v pos
  simp only [mS] at h
  split at h
  · rename_i x px y py e f z
    obtain ⟨kt, pt, k2, p2, rfl, rfl⟩ := parOf_some z
    exact ⟨x, px, y, py, kt, pt, e, f, k2, p2, pos, rfl, h⟩
  · cases h
theorem raisOf_some {e : Expr} {y : Str} (h : raisOf e = some y) : ∃ p tt j p2 pos, e = .Call (.Name y p) [.Constant (.str tt) j p2] [] pos := by
  unfold raisOf at h
  split at h
  · cases h; exact ⟨_, _, _, _, _, rfl⟩
  · cases h
theorem litOf_some {es : DEs} (h : litOf es = true) : ∃ z, es = .cons (.str z) .nil := by
  unfold litOf at h
  split at h
  · exact ⟨_, rfl⟩
  · cases h
theorem inv_rais {c : String} {es : DEs} {st : Stmt} (h : mS m (.rais c es) st = true) : ∃ z y p tt j p2 pos pos', es = .cons (.str z) .nil ∧ st = .Raise (some (.Call (.Name y p) [.Constant (.str tt) j p2] [] pos)) none pos' ∧ m.excs c = true ∧ mGl m (Str.ofString c) y = true := by
  cases st <;> first | (simp only [mS] at h; cases h; done) | skip
  rename_i e cs pos
  cases e with
  | none => simp only [mS] at h; cases h
  | some e =>
    cases cs with
    | some => simp only [mS] at h; cases h
    | none =>
      simp only [mS] at h
      split at h
      · rename_i y hy
        simp only [Bool.and_eq_true] at h
        obtain ⟨⟨h1, h2⟩, h3⟩ := h
        obtain ⟨z, rfl⟩ := litOf_some h1
        obtain ⟨p, tt, j, p2, pos, rfl⟩ := raisOf_some hy
        exact ⟨z, y, p, tt, j, p2, pos, _, rfl, rfl, h2, h3⟩
      · cases h
theorem inv_app {i : Nat} {p : DE} {st : Stmt} (h : mS m (.app i p) st = true) : ∃ x px a pa e pc pos, st = .Expr (.Call (.Attribute (.Name x px) a pa) [e] [] pc) pos ∧ mSlot m i x = true ∧ a = "append" ∧ mE m p e = true ∧ noStar e = true ∧ (pa.endLine == pc.line) = true := by
  cases st <;> first | (simp only [mS] at h; cases h; done) | skip
  rename_i ex pos
  simp only [mS] at h
  split at h
  · rename_i x a pa e pc z
    obtain ⟨px, rfl⟩ := appOf_some z
    simp only [Bool.and_eq_true, decide_eq_true_eq] at h
    obtain ⟨⟨⟨⟨h1, h2⟩, h3⟩, h4⟩, h5⟩ := h
    exact ⟨x, px, a, pa, e, pc, pos, rfl, h1, h2, h3, h4, h5⟩
  · cases h
theorem inv_ext {i : Nat} {p : DE} {st : Stmt} (h : mS m (.ext i p) st = true) : ∃ x px a pa e pc pos, st = .Expr (.Call (.Attribute (.Name x px) a pa) [e] [] pc) pos ∧ mSlot m i x = true ∧ a = "extend" ∧ mE m p e = true ∧ noStar e = true ∧ (pa.endLine == pc.line) = true := by
  cases st <;> first | (simp only [mS] at h; cases h; done) | skip
  rename_i ex pos
  simp only [mS] at h
  split at h
  · rename_i x a pa e pc z
    obtain ⟨px, rfl⟩ := appOf_some z
    simp only [Bool.and_eq_true, decide_eq_true_eq] at h
    obtain ⟨⟨⟨⟨h1, h2⟩, h3⟩, h4⟩, h5⟩ := h
    exact ⟨x, px, a, pa, e, pc, pos, rfl, h1, h2, h3, h4, h5⟩
  · cases h
end
section
variable {C : Ctx}
mutual
theorem snd_s : ∀ (p : DS) (st : Stmt) (m : MC) (X : Cx) (W : WX) (B : Hp), SOk C W m X → mS m p st = true → PS X st (TSD X W B (evalS C p))
  | .asg i p, st, m, X, W, B, o, h => by
    obtain ⟨x, px, e, pos, rfl, hs, he, hc⟩ := inv_asg h
    by_cases hw : ∃ elt tgt it cs, p = .comp elt tgt it cs ∧ swapB m e x px = true ∧ isLC e = true
    · obtain ⟨elt, tgt, it, cs, rfl, hw, hlc⟩ := hw
      cases e <;> first | (cases hlc; done) | skip
      rename_i xe gs scope p2
      match gs, hlc with
      | [⟨t, i', ifs, 0⟩], _ =>
        refine PS.mono' (ps_lcD o hs he hw) fun D σ H q => ?_
        simp only [evalS] at q
        exact comp_mono (tv_fix (f := true) (asg_mono (f := false) q))
    · refine PS.mono' (ps_asgD o hs he hc (snd_e p e m X W o.toXOk he).1.fix fun elt t it ifs scope p2 e1 e2 => ?_) fun D σ H q => asg_mono (f := false) (by simp only [evalS] at q; exact q)
      subst e1
      exfalso
      refine hw ?_
      cases p <;> first | (simp only [mE] at he; cases he; done) | skip
      exact ⟨_, _, _, _, rfl, e2, rfl⟩
  | .asgO i p, st, m, X, W, B, o, h => by
    obtain ⟨x, px, e, pos, rfl, hs, he, hc⟩ := inv_asgO h
    cases hfr : isFresh p with
    | false =>
      refine ⟨fun pins s σ H D I q => ?_⟩
      obtain ⟨F, ρ, s', pp⟩ := q
      simp only [evalS, hfr] at pp
      exact pp.elim
    | true =>
      have hpe := (snd_e p e m X W o.toXOk he).1
      rw [hfr] at hpe
      by_cases hw : ∃ elt tgt it cs, p = .comp elt tgt it cs ∧ swapB m e x px = true ∧ isLC e = true
      · obtain ⟨elt, tgt, it, cs, rfl, hw, hlc⟩ := hw
        cases e <;> first | (cases hlc; done) | skip
        rename_i xe gs scope p2
        match gs, hlc with
        | [⟨t, i', ifs, 0⟩], _ =>
          refine PS.mono' (ps_lcD o hs he hw) fun D σ H q => ?_
          simp only [evalS, hfr, if_true] at q
          exact comp_mono (asgO_mono q)
      · refine PS.mono' (ps_asgD o hs he hc hpe fun elt t it ifs scope p2 e1 e2 => ?_) fun D σ H q => asgO_mono (by simp only [evalS, hfr, if_true] at q; exact q)
        subst e1
        exfalso
        refine hw ?_
        cases p <;> first | (simp only [mE] at he; cases he; done) | skip
        exact ⟨_, _, _, _, rfl, e2, rfl⟩
  | .unp is p, st, m, X, W, B, o, h => by
    obtain ⟨es, k, p2, e, pos, rfl, hs, he, hc⟩ := inv_unp h
    have hg : PG X (.Tuple es k p2) (GD X.K (.tup is)) := snd_tg o.toXOk (m := m) (tg := .tup is) (by simp only [mTg]; exact hs)
    exact PS.mono' (ps_asg (snd_e p e m X W o.toXOk he).1.fix hg swapsWith_tup (swapped_noSw o.sc hc) rfl) fun D σ H q => unp_mono (by simp only [evalS] at q; exact q)
  | .unpL is p, st, m, X, W, B, o, h => by
    obtain ⟨es, k, p2, e, pos, rfl, hs, he, hc⟩ := inv_unpL h
    obtain ⟨ga, gb, gc⟩ := snd_tgs o.toXOk is es hs
    have hg : PG X (.Tuple es k p2) (gUnl X.K is.length (GDs is)) := pg_unl o.toXOk.calm ga gb gc
    exact PS.mono' (ps_asg (snd_e p e m X W o.toXOk he).1.fix hg swapsWith_tup (swapped_none hc) rfl) fun D σ H q => unpL_mono (by simp only [evalS] at q; exact q)
  | .par i j a b, st, m, X, W, B, o, h => by
    obtain ⟨x, px, y, py, kt, pt, e, f, k2, p2, pos, rfl, h'⟩ := inv_par h
    simp only [Bool.and_eq_true, decide_eq_true_eq, Bool.not_eq_true', mLoc] at h'
    obtain ⟨⟨⟨⟨⟨⟨⟨⟨⟨⟨⟨hx1, hx2⟩, hy1, hy2⟩, he⟩, hf⟩, s1⟩, s2⟩, hij⟩, hxy⟩, hl⟩, hc⟩, hd⟩ := h'
    have ha : PA X [e, f] (tCons (TV X W false (evalE C a)) (tCons (TV X W false (evalE C b)) tNil)) := pa_cons (snd_e a e m X W o.toXOk he).1.fix (pa_cons (snd_e b f m X W o.toXOk hf).1.fix pa_nil (star_cons s2)) (star_cons s1)
    exact PS.mono' (ps_par (i := i) (j := j) o.calm o.toXOk.ndX (by rw [o.nm]; exact hx1) (by rw [o.nm]; exact hy1) hij (by rw [o.sc]; exact hx2) (by rw [o.sc]; exact hy2) ha (swapped_two o.sc o.kind hx2 hy2 hxy hl s1 s2 hc hd) swapsWith_tup) fun D σ H q => par_mono (by simp only [evalS] at q; exact q)
  | .expr p, st, m, X, W, B, o, h => by
    cases st <;> first | (simp only [mS] at h; cases h; done) | skip
    simp only [mS, Bool.and_eq_true] at h
    exact PS.mono' (ps_expr (snd_e p _ m X W o.toXOk h.1).1.fix (swapsWith_no h.2)) fun D σ H q => expr_mono (by simp only [evalS] at q; exact q)
  | .app i p, st, m, X, W, B, o, h => by
    obtain ⟨x, px, a, pa, e, pc, pos, rfl, hs, rfl, he, hn, hl⟩ := inv_app h
    obtain ⟨h1, h2, h3⟩ := o.toXOk.slot hs
    have key := pe_bm (apos := pa) (cpos := pc) PySem.F.plainAttrs_list PySem.F.slot_list_append PySem.F.type_list_append mt_append (pe_var (pos := px) h1 h2 (nm_dbg h3) (nm_cd h3)) (pa_cons (snd_e p e m X W o.toXOk he).1.fix pa_nil (star_cons hn)) rfl (by rw [star_cons hn]; rfl) hl (star_cons hn) rfl
    exact PS.mono' (ps_expr key rfl) fun D σ H q => app_mono (by simp only [evalS] at q; exact q)
  | .ext i p, st, m, X, W, B, o, h => by
    obtain ⟨x, px, a, pa, e, pc, pos, rfl, hs, rfl, he, hn, hl⟩ := inv_ext h
    obtain ⟨h1, h2, h3⟩ := o.toXOk.slot hs
    have key := pe_bm (apos := pa) (cpos := pc) PySem.F.plainAttrs_list PySem.F.slot_list_extend PySem.F.type_list_extend mt_extend (pe_var (pos := px) h1 h2 (nm_dbg h3) (nm_cd h3)) (pa_cons (snd_e p e m X W o.toXOk he).1.fix pa_nil (star_cons hn)) rfl (by rw [star_cons hn]; rfl) hl (star_cons hn) rfl
    exact PS.mono' (ps_expr key rfl) fun D σ H q => ext_mono (by simp only [evalS] at q; exact q)
  | .ret p, st, m, X, W, B, o, h => by
    cases st <;> first | (simp only [mS] at h; cases h; done) | skip
    rename_i v pos
    cases v with
    | none => simp only [mS] at h; cases h
    | some e =>
      simp only [mS] at h
      exact PS.mono' (ps_ret (snd_e p e m X W o.toXOk h).1.fix) fun D σ H q => ret_mono (by simp only [evalS] at q; exact q)
  | .retO i, st, m, X, W, B, o, h => by
    cases st <;> first | (simp only [mS] at h; cases h; done) | skip
    rename_i v pos
    cases v with
    | none => simp only [mS] at h; cases h
    | some e =>
      cases e <;> first | (simp only [mS] at h; cases h; done) | skip
      simp only [mS] at h
      obtain ⟨h1, h2, h3⟩ := o.toXOk.slot h
      exact PS.mono' (ps_ret (pe_var h1 h2 (nm_dbg h3) (nm_cd h3))) fun D σ H q => retO_mono (by simp only [evalS] at q; exact q)
  | .ite c a b, st, m, X, W, B, o, h => by
    cases st <;> first | (simp only [mS] at h; cases h; done) | skip
    simp only [mS, Bool.and_eq_true] at h
    exact PS.mono' (ps_if (snd_e c _ m X W o.toXOk h.1.1).2 (snd_ss a _ m X W B o h.1.2) (snd_ss b _ m X W B o h.2)) fun D σ H q => ite_mono (by simp only [evalS] at q; exact q)
  | .forr tg it ws body, st, m, X, W, B, o, h => by
    cases st <;> first | (simp only [mS] at h; cases h; done) | skip
    rename_i t i b el pos
    cases el with
    | cons => simp only [mS] at h; cases h
    | nil =>
      simp only [mS, Bool.and_eq_true] at h
      obtain ⟨⟨⟨hi, ht⟩, hb⟩, hs⟩ := h
      exact PS.mono' (ps_for o.passes o.calm (snd_itZF o.toXOk it t i hi) (snd_tg o.toXOk ht) (snd_ss body b m X W B o hb) (fun x => unfolded hs x)) fun D σ H q => for_mono (by simp only [evalS] at q; exact q)
  | .whil c ws body, st, m, X, W, B, o, h => by
    cases st <;> first | (simp only [mS] at h; cases h; done) | skip
    rename_i e b el pos
    cases el with
    | cons => simp only [mS] at h; cases h
    | nil =>
      simp only [mS, Bool.and_eq_true] at h
      exact PS.mono' (ps_while o.passes (snd_e c e m X W o.toXOk h.1).2 (snd_ss body b m X W B o h.2)) fun D σ H q => whil_mono (by simp only [evalS] at q; exact q)
  | .rais c es, st, m, X, W, B, o, h => by
    obtain ⟨z, y, p, tt, j, p2, pos, pos', rfl, rfl, hx, hg⟩ := inv_rais h
    obtain ⟨e1, g, n⟩ := o.toXOk.gl hg
    subst e1
    obtain ⟨Cc, gC, q, kC, sC, tC⟩ := o.toXOk.excs c hx
    refine PS.mono' (ps_raise o.calm o.takes (pmk_own PySem.F.excBase_ValueError q gC kC (raises_own sC tC) g (nm_dbg n))) fun D σ H qq => ?_
    obtain ⟨F, ρ, s, p⟩ := qq
    simp only [evalS] at p
    exact p (.ref Cc) none σ F H s.refl ⟨gC, rfl⟩
  | .pass, st, m, X, W, B, o, h => by
    cases st <;> first | (simp only [mS] at h; cases h; done) | skip
    refine PS.mono' ps_pass fun D σ H q => ?_
    obtain ⟨F, ρ, s, p⟩ := q
    simp only [evalS] at p
    exact p σ F H s.refl s
termination_by structural p => p
theorem snd_ss : ∀ (p : DSs) (ss : List Stmt) (m : MC) (X : Cx) (W : WX) (B : Hp), SOk C W m X → mSs m p ss = true → PSs X ss (TSD X W B (evalSs C p))
  | .nil, ss, m, X, W, B, o, h => by
    cases ss with
    | cons => simp only [mSs] at h; cases h
    | nil =>
      refine PSs.mono' pss_nil fun D σ H q => ?_
      obtain ⟨F, ρ, s, p⟩ := q
      simp only [evalSs] at p
      exact p σ F H s.refl s
  | .cons p ps, ss, m, X, W, B, o, h => by
    cases ss with
    | nil => simp only [mSs] at h; cases h
    | cons st ss =>
      simp only [mSs, Bool.and_eq_true] at h
      refine PSs.mono' (pss_cons (snd_s p st m X W B o h.1) (snd_ss ps ss m X W B o h.2)) fun D σ H q => ?_
      obtain ⟨F, ρ, s, pp⟩ := q
      simp only [evalSs] at pp
      refine ⟨F, ρ, s, ?_⟩
      cases z : evalS C p ρ with
      | stuck => rw [z] at pp; exact pp
      | exc c d => rw [z] at pp; exact pp
      | ok f =>
        rw [z, Res.bind_ok] at pp
        cases f with
        | next ρ' => exact fun σ' F' H' e s' => ⟨F', ρ', s', pp.step e⟩
        | ret d => exact pp
        | brk ρ' => exact pp
        | cont ρ' => exact pp
termination_by structural p => p
end
end
end DP

/-! ## DBind -/
set_option Elab.async false
set_option linter.all false
set_option maxRecDepth 100000
set_option maxHeartbeats 4000000
set_option autoImplicit false
namespace DP
open PySem PySem.Spec L2
variable [Tb]
theorem lookup_zip {n : Str} : ∀ {ps : List Str} {us : List Value}, us.length = ps.length → n ∈ ps → (List.lookup n (ps.zip us)).isNone = false
  | [], _, _, h => by cases h
  | p :: ps, [], hl, _ => by simp at hl
  | p :: ps, u :: us, hl, h => by
    rw [List.zip_cons_cons, List.lookup_cons]
    cases hb : n == p with
    | true => rfl
    | false =>
      rcases List.mem_cons.mp h with e | h
      · subst e; simp at hb
      · exact lookup_zip (by simpa using hl) h
theorem fm_congr {α β : Type} {f g : α → Option β} : ∀ {l : List α}, (∀ x ∈ l, f x = g x) → l.filterMap f = l.filterMap g
  | [], _ => rfl
  | x :: l, h => by rw [List.filterMap_cons, List.filterMap_cons, h x List.mem_cons_self, fm_congr fun y hy => h y (List.mem_cons_of_mem _ hy)]
theorem fm_zip : ∀ {ps : List Str} {us : List Value}, us.length = ps.length → ps.Nodup → ps.filterMap (fun n => Option.map (fun x => (n, x)) (List.lookup n (ps.zip us))) = ps.zip us
  | [], us, _, _ => by cases us <;> rfl
  | p :: ps, [], hl, _ => by simp at hl
  | p :: ps, u :: us, hl, nd => by
    have nd' := List.nodup_cons.mp nd
    rw [List.zip_cons_cons, List.filterMap_cons]
    have e1 : List.lookup p ((p, u) :: ps.zip us) = some u := by simp [List.lookup]
    rw [e1]
    show (p, u) :: _ = (p, u) :: _
    congr 1
    refine Eq.trans (fm_congr fun n hn => ?_) (fm_zip (ps := ps) (us := us) (by simpa using hl) nd'.2)
    have hb : (n == p) = false := by
      cases z : n == p with
      | false => rfl
      | true => exact absurd (eq_of_beq z ▸ hn) nd'.1
    simp [List.lookup, hb]
theorem bind_ok {x qual : Str} {st : Stmt} {ps : List Str} {kV doc pm cdv ct : Value} {an : Option Addr} {us : List Value} (h0 : (defArgs st).posonlyargs = []) (h1 : (defArgs st).args.map (·.arg) = ps) (h2 : (defArgs st).kwonlyargs = [])
    (h3 : (defArgs st).vararg = none) (h4 : (defArgs st).kwarg = none) (nd : ps.Nodup) (hl : us.length = ps.length) :
    bindArgs (PySem.W.fnOf x qual (defArgs st) (defBody st) (defScope st) .none kV doc pm an cdv ct) ⟨us, []⟩ = pure (ps.zip us) := by
  have hm : (List.filter (fun n => (List.lookup n (ps.zip us)).isNone) ps) = [] := by
    rw [List.filter_eq_nil_iff]
    intro a ha
    rw [lookup_zip hl ha]
    simp
  have hn : notAStandIn Value.none = pure () := rfl
  unfold bindArgs
  simp only [PySem.W.fnOf, h0, h1, h2, h3, h4, List.map_nil, List.nil_append, List.forIn_nil, pure_bind, hl]
  simp [seqItems?, hm, hl, hn, fm_zip hl nd]

/-! ### a def of the text and ours -/
def argsChk (ps : List Str) (a : Arguments) : Bool := a.posonlyargs.isEmpty && decide (a.args.map (·.arg) = ps) && a.kwonlyargs.isEmpty && a.vararg.isNone && a.kwarg.isNone
def scopeChk (N ps : List Str) (sc : Scope) : Bool :=
  decide (sc.kind = .function) && !sc.isCoroutine && !sc.isGenerator && decide N.Nodup && decide (N.take ps.length = ps) && (ps.all fun x => decide (sc.names.lookup x = some .local) || decide (sc.names.lookup x = some .cell)) && (sc.names.all fun y => decide (y.2 ≠ .free))
def isDef (G : Prog) (f : Str) : Bool := (findDef G.defs f).isSome
def mcOf (G : Prog) (d : Def) (st : Stmt) : MC := ⟨d.names, defScope st, fun _ => true, isDef G, fun c => G.excs.contains c, G.lams.contains d.name⟩
def parsOf (d : Def) : List Str := d.names.take d.arity
def defChk (G : Prog) (d : Def) (st : Stmt) : Bool := decide ((parsOf d).length = d.arity) && argsChk (parsOf d) (defArgs st) && scopeChk d.names (parsOf d) (defScope st) && mSs (mcOf G d st) d.body (defBody st)
theorem scope_ok {N ps : List Str} {sc : Scope} (h : scopeChk N ps sc = true) : FnScope N ps sc := by
  unfold scopeChk at h
  simp only [Bool.and_eq_true, decide_eq_true_eq, Bool.not_eq_true', List.all_eq_true, Bool.or_eq_true] at h
  obtain ⟨⟨⟨⟨⟨⟨h1, h2⟩, h3⟩, h4⟩, h5⟩, h6⟩, h7⟩ := h
  exact ⟨h1, h2, h3, h4, h5, h6, h7⟩
theorem args_ok {ps : List Str} {a : Arguments} (h : argsChk ps a = true) : a.posonlyargs = [] ∧ a.args.map (·.arg) = ps ∧ a.kwonlyargs = [] ∧ a.vararg = none ∧ a.kwarg = none := by
  unfold argsChk at h
  simp only [Bool.and_eq_true, decide_eq_true_eq, List.isEmpty_iff, Option.isNone_iff_eq_none] at h
  obtain ⟨⟨⟨⟨h1, h2⟩, h3⟩, h4⟩, h5⟩ := h
  exact ⟨h1, h2, h3, h4, h5⟩

/-- what the top has left of a def -/
def HasDef (K : PySem.W.Frag) (mg : Str → Option Value) (d : Def) (st : Stmt) : Prop := ∃ (a : Addr) (fd : FuncData), mg d.name = some (.ref a) ∧ Fun K d.name d.name st a fd
/-- told, where it stands -/
structure ToldF (K : PySem.W.Frag) (mg : Str → Option Value) : Prop where
  ex : ∃ (g : Addr) (fd : FuncData) (st : Stmt) (a : Str) (p : Nat → Pos) (SE : Addr) (c : Nat → Addr), mg "_law_told" = some (.ref g) ∧ Fun K "_law_told" "_law_told" st g fd ∧ argsChk [a] (defArgs st) = true ∧ toldSc a (defScope st) = true ∧ defBody st = toldBody a p ∧
    ((p 37).endLine == (p 39).line) = true ∧ ((p 46).endLine == (p 48).line) = true ∧ nameOk a = true ∧ TK K mg SE c
/-- the tables of the defs that make lambdas -/
def LamsOk (K : PySem.W.Frag) (mg : Str → Option Value) (base : Heap) (G : Prog) : Prop := ∀ d ∈ G.defs, G.lams.contains d.name = true → ∀ (st : Stmt) (a : Addr) (fd : FuncData), Fun K d.name d.name st a fd → mg d.name = some (.ref a) →
  ∃ c P : Addr, fd.code = .ref c ∧ LamX.TabB base mg c P ∧ (P, d.name ++ ".<locals>." ++ "<lambda>") ∈ Tb.T ∧ ∀ p ∈ Tb.T, p.1 = P → p.2 = d.name ++ ".<locals>." ++ "<lambda>"
structure Txt (K : PySem.W.Frag) (mg : Str → Option Value) (G : Prog) : Prop where
  defs : ∀ d ∈ G.defs, ∃ st, HasDef K mg d st ∧ defChk G d st = true
  blt : ∀ x ∈ bltNames, mg x = none
  consts : ∀ x d, G.consts.lookup x = some d → ∃ u v, mg x = some u ∧ RelV v u ∧ Rp K (fun _ => none) v d
  excs : ∀ c ∈ G.excs, ExcOk K mg c
  told : G.lams ≠ [] → ToldF K mg
theorem findDef_mem : ∀ {ds : List Def} {f : Str} {d : Def}, findDef ds f = some d → d ∈ ds ∧ d.name = f
  | [], _, _, h => by cases h
  | e :: ds, f, d, h => by
    unfold findDef at h
    split at h
    · rename_i z
      cases h
      exact ⟨List.mem_cons_self, z⟩
    · obtain ⟨a, b⟩ := findDef_mem h
      exact ⟨List.mem_cons_of_mem _ a, b⟩
section
variable {P : Program} {w : World} {K : PySem.W.Frag} {mg : Str → Option Value} {base : Heap} {G : Prog}
theorem SpD.len {g : List PyData → Res PyData} {k : Nat} (hg : ∀ ds, g ds ≠ .stuck → ds.length = k) {vs : List V} {H : Hp} {Q : VK} {E : XK} (h : SpD K mg g vs H Q E) : vs.length = k := by
  obtain ⟨F, ds, s, r, p⟩ := h
  rw [r.length]
  refine hg ds fun z => ?_
  rw [z] at p
  exact p
theorem callD_len {n : Nat} {f : Str} {d : Def} (hd : findDef G.defs f = some d) (ds : List PyData) (h : callD G n f ds ≠ .stuck) : ds.length = d.arity := by
  cases n with
  | zero => exact absurd rfl h
  | succ n =>
    simp only [callD_succ, hd] at h
    split at h
    · assumption
    · exact absurd rfl h
theorem start_get {N : List Str} {vs : List V} {i : Nat} (h : i < vs.length) : (L2.start N vs)[i]? = some vs[i]? := by
  unfold L2.start
  rw [List.getElem?_append_left (by simpa using h), List.getElem?_map]
  rw [List.getElem?_eq_getElem h]; rfl
theorem entry_fr {d : Def} {vs : List V} {ds : List PyData} {F H : Hp} (r : RpAll K F vs ds) : Fr K (L2.start d.names vs) F H (entry d ds) := by
  have hl := r.length
  refine ⟨by unfold L2.start entry; simp [hl], fun i sl q => ?_, fun i j e e' v h1 h2 _ _ => ?_⟩
  · unfold entry at q
    by_cases hi : i < ds.length
    · rw [List.getElem?_append_left (by simpa using hi), List.getElem?_map, List.getElem?_eq_getElem hi] at q
      cases q
      obtain ⟨v, hv, rv⟩ := r.get (List.getElem?_eq_getElem hi)
      refine ⟨some v, ?_, v, rfl, rv⟩
      unfold L2.start
      rw [List.getElem?_append_left (by simpa [hl] using hi), List.getElem?_map, hv]; rfl
    · rw [List.getElem?_append_right (by simpa using hi), List.getElem?_replicate] at q
      split at q
      · rename_i hj
        cases q
        refine ⟨none, ?_, trivial⟩
        unfold L2.start
        rw [List.getElem?_append_right (by simpa [hl] using hi), List.getElem?_replicate]
        simp only [List.length_map] at hj ⊢
        rw [hl, if_pos hj]
      · cases q
  · exfalso
    unfold entry at h1
    by_cases hi : i < ds.length
    · rw [List.getElem?_append_left (by simpa using hi), List.getElem?_map, List.getElem?_eq_getElem hi] at h1
      cases h1
    · rw [List.getElem?_append_right (by simpa using hi), List.getElem?_replicate] at h1
      split at h1 <;> cases h1
theorem told_scope {a : Str} {sc : Scope} (h : toldSc a sc = true) : FnScope (toldN a) [a] sc := by
  unfold toldSc at h
  simp only [Bool.and_eq_true] at h
  exact scope_ok h.1.1.1
theorem fn_call {d : Def} {f : Str} {n : Nat} (T : Txt K mg G) (ih : ∀ (f : Str) (d : Def), findDef G.defs f = some d → ∀ (st : Stmt) (a : Addr) (fd : FuncData), Fun K d.name d.name st a fd → mg d.name = some (.ref a) → defChk G d st = true → FnOk P w K mg base (L2.CX P w) n a fd (parsOf d) (SpD K mg (callD G n f)))
    (hgd : isDef G f = true) : ∃ (a : Addr) (fd : FuncData) (ps : List Str), FnOk P w K mg base (L2.CX P w) n a fd ps (SpD K mg (callD G n f)) ∧ mg f = some (.ref a) ∧ PySem.W.keepIn K (.ref a) = true ∧ Binds K fd ps [] := by
  obtain ⟨d', hd'⟩ := Option.isSome_iff_exists.mp (show (findDef G.defs f).isSome = true from hgd)
  obtain ⟨hm', hn'⟩ := findDef_mem hd'
  obtain ⟨st', ⟨a', fd', hg', Fn'⟩, hc'⟩ := T.defs d' hm'
  refine ⟨a', fd', _, ih f d' hd' st' a' fd' Fn' hg' hc', by rw [← hn']; exact hg', Fn'.kp, ?_⟩
  unfold defChk at hc'
  simp only [Bool.and_eq_true, decide_eq_true_eq] at hc'
  obtain ⟨⟨⟨q1, q2⟩, q3⟩, q4⟩ := hc'
  have S' := scope_ok q3
  obtain ⟨b0, b1, b2, b3, b4⟩ := args_ok q2
  exact Fn'.binds fun kV doc pm an cdv ct us hl => bind_ok b0 b1 b2 b3 b4 (S'.nd.sublist (List.take_sublist _ _)) hl
/-- THE THEOREM: each def of the program does what the evaluator says, n calls deep -/
theorem def_ok (T : Txt K mg G) (L : LamsOk K mg base G) : ∀ (n : Nat) (f : Str) (d : Def), findDef G.defs f = some d → ∀ (st : Stmt) (a : Addr) (fd : FuncData), Fun K d.name d.name st a fd → mg d.name = some (.ref a) → defChk G d st = true →
    FnOk P w K mg base (L2.CX P w) n a fd (parsOf d) (SpD K mg (callD G n f)) := by
  intro n
  induction n using Nat.strongRecOn with
  | ind n ih =>
  cases n with
  | zero =>
    intro f d hd st a fd Fn hmd hc
    refine ⟨fun vs H Q E h => ?_, fun A outer s H args us vs Q E _ _ _ _ h => ?_⟩
    · obtain ⟨F, ds, s, r, p⟩ := h
      exact p.elim
    · obtain ⟨F, ds, s, r, p⟩ := h
      exact p.elim
  | succ n =>
    intro f d hd st a fd Fn hmd hc
    obtain ⟨hdm, hdn⟩ := findDef_mem hd
    unfold defChk at hc
    simp only [Bool.and_eq_true, decide_eq_true_eq] at hc
    obtain ⟨⟨⟨c1, c2⟩, c3⟩, c4⟩ := hc
    have S := scope_ok c3
    have Lf := fun hl => L d hdm hl st a fd Fn hmd
    obtain ⟨oc, od, kV, doc, pm, an, cdv, ct, osl, efd, lk, hcd⟩ := Fn.ex
    subst efd
    refine fn_of lk hcd S (fun vs H Q E h => (SpD.len (callD_len hd) h).trans c1.symm) (fun A outer s H vs Q E hr h => ?_)
    obtain ⟨F, ds, sF, r, p⟩ := h
    simp only [callD_succ, hd] at p
    split at p
    · rename_i hlen
      refine ⟨TSD _ (fun cls dd _ H => E cls dd H) H (evalSs (ctxOf G n) d.body), snd_ss d.body (defBody st) (mcOf G d st) _ _ H ?_ c4, ?_⟩
      · refine { nm := rfl, sc := rfl, fn := rfl, nd := S.nd, calm := rfl, units := ?_, takes := takes_of rfl rfl rfl rfl, blt := T.blt, glob := T.consts, fns := fun g hgd => ?_, passes := passes_of rfl, kind := S.kind, excs := fun c hc => T.excs c (by simpa [mcOf] using hc), lam := fun hl hc2 => ?_ }
        · have h1 := hr.un
          exact Nat.lt_of_le_of_lt (by omega : (A.deeper (PyProof.Rows.envOfC d.name (defScope st) s.heap.objs.size a cdv)).units + 65 ≤ (A.deeper (PyProof.Rows.envOfC d.name (defScope st) s.heap.objs.size a cdv)).units + 16 * n + 200) h1
        · obtain ⟨a', fd', ps', Fn', h1, h2, h3⟩ := fn_call (d := d) T (ih n (Nat.lt_succ_self n)) hgd
          exact ⟨n, a', fd', ps', Fn', hr, h1, h2, h3⟩
        · have hl' : G.lams.contains d.name = true := hl
          obtain ⟨k, rfl⟩ : ∃ k, n = k + 2 := by
            match n, hc2 with
            | 0, ⟨f, ds, h⟩ => exact absurd rfl h
            | 1, ⟨f, ds, h⟩ => exact absurd rfl h
            | k + 2, _ => exact ⟨k, rfl⟩
          obtain ⟨c, P, hcode, TB, hmT, hu⟩ := Lf hl'
          obtain ⟨g, fdt, stt, at', pt, SE, ck, hmg, Ft, hargs, hsc, hbd, l1, l2, hna, tk⟩ := (T.told (fun e => by rw [e] at hl'; simp at hl')).ex
          have Bt : Binds K fdt [at'] [] := by
            obtain ⟨b0, b1, b2, b3, b4⟩ := args_ok hargs
            exact Ft.binds fun kV doc pm an cdv ct us hl => bind_ok b0 b1 b2 b3 b4 (by simp) hl
          obtain ⟨oct, odt, kVt, doct, pmt, ant, cdvt, ctt, oslt, efdt, lkt, hcdt⟩ := Ft.ex
          subst efdt
          refine ⟨g, c, P, k, defArgs stt, defBody stt, defScope stt, .none, kVt, doct, pmt, cdvt, ctt, oct, ant, odt, oslt, toldN at', at', hmg, Ft.kp, lkt, hcdt, Bt, told_scope hsc, rfl, ?_, hna, ?_, TB, hcode, hmT, hu, hr, ?_⟩
          · have h := hsc
            unfold toldSc at h
            simp only [Bool.and_eq_true, decide_eq_true_eq] at h
            exact .inl h.1.2
          · rw [hbd]
            exact told_gives tk hsc l1 l2
          · intro f hgd
            exact fn_call (d := d) T (ih k (by omega)) hgd
      · refine ⟨F, entry d ds, ⟨sF, Sub.refl H, entry_fr r, fun i e b h1 h2 => ?_⟩, ?_⟩
        · exfalso
          unfold entry at h1
          by_cases hi : i < ds.length
          · rw [List.getElem?_append_left (by simpa using hi), List.getElem?_map, List.getElem?_eq_getElem hi] at h1
            cases h1
          · rw [List.getElem?_append_right (by simpa using hi), List.getElem?_replicate] at h1
            split at h1 <;> cases h1
        · have p' : PostX K mg (fun c d _ h => E c d h) (fun F' _ v d => Rp K F' v d) [] F H Q (outF (evalSs (ctxOf G n) d.body (entry d ds))) := p
          cases z : evalSs (ctxOf G n) d.body (entry d ds) with
          | stuck => rw [z] at p'; exact p'
          | exc c e =>
            rw [z] at p'
            exact fun cls dd σ' F' H' ex er => p' cls dd F' H' ex er
          | ok fl =>
            rw [z] at p'
            cases fl with
            | ret e => exact fun v F' H' ex rr => p' v F' H' ex rr
            | next ρ' => exact fun σ' F' H' ex s' => p' .non F' H' ex .non
            | brk ρ' => exact p'.elim
            | cont ρ' => exact p'.elim
    · exact p.elim
end

/-! ### the end: the law -/
def spLaw (K : PySem.W.Frag) : Sp := fun vs H Q _ => ∃ (a : Addr) (ns : List Int), vs = [.ref a] ∧ ns.length ≤ 63 ∧ SqL K H a (ns.map V.int) ∧ ∀ H', Q (.bl true) H'
/-- a def as the top has left it, from the written part -/
theorem def_mk {K : PySem.W.Frag} {h : Heap} {mg : Str → Option Value} {d : Def} {st : Stmt} {f : Addr} {oc kV dc pm cd ct : Value} {od an : Option Addr} {sl : Array (Option Value)} (X : K.In h) (G : h.Ns mainGlobals mg)
    (a : PySem.W.nsIn K mainGlobals d.name = some (some (.ref f))) (l : K.lookup f = some ⟨oc, od, .func (PySem.W.fnOf d.name d.name (defArgs st) (defBody st) (defScope st) .none kV dc pm an cd ct), sl⟩) (c : PySem.W.codeIn K cd d.name = true) (k : PySem.W.keepIn K (.ref f) = true) : HasDef K mg d st :=
  ⟨f, _, PySem.W.mg_of X G a, fun_mk l c k⟩
theorem rv_int {i : Int} {t : Tok} : RelV (.int i) (.int i t) := ⟨t, rfl⟩
theorem rv_str {i : Str} {t : Tok} : RelV (.str i) (.str i t) := ⟨t, rfl⟩
theorem tup_const {K : PySem.W.Frag} {F : Hp} {a : Addr} {od : Option Addr} {sl : Array (Option Value)} {its : Array Value} {n : Nat} {vs : List V} {ds : List PyData} (l : K.lookup a = some ⟨.type "tuple", od, .seq its n, sl⟩) (rv : Vals vs its.toList)
    (hz : vs.length ≤ sizeLine) (r : RpAll K F vs ds) : Rp K F (.ref a) (.tuple ds) := .tup (.inr ⟨_, its, n, l, rfl, rfl, by have := rv.length; simp at this; omega, rv⟩) hz r
omit [Tb] in
theorem law_walk {l : PySem.W.OpenLaw} {q : Program} {loose : List Str} {XP : (Str → Option Value) → Heap → Prop} {YP : World → Heap → Prop} {r : DefRec} {K : Params → PySem.W.Frag} (G : Prog) (n : Nat) (d : Def) (x : Str)
    (hn : l.most = some 63) (hdf : r.params.defaults = []) (hr : Room n callerA) (hY : ∀ (w : World) (h : Heap), YP w h → (K w.params).In h) (hnm : r.name = "law") (hd : findDef G.defs "law" = some d) (hx : parsOf d = [x])
    (hT : ∀ (w : World) (mg : Str → Option Value) (h : Heap), (K w.params).In h → h.Ns mainGlobals mg → Txt (K w.params) mg G)
    (hl0 : G.lams = []) (hp : ∀ ns : List Int, ns.length ≤ 63 → callD G n "law" [scrD ns] = .ok (.bool true)) :
    PySem.W.WalkO q loose XP YP l.row.toRowW r [] (fun f vs => PySem.call f vs) := by
  letI : Tb := ⟨[]⟩
  refine L2.walk_of (n := 63) (k := n) (x := x) (CX := fun w => L2.CX l.prog w) (sp := fun w => spLaw (K w.params)) hn (by decide) hdf hr hY ?_ (fun _ _ a ns hl _ hS => ⟨a, ns, rfl, hl, hS, fun _ => rfl⟩) fun w H s e s' z => ?_
  · intro w mg fa h KX Gl hmg
    have T := hT w mg h KX Gl
    obtain ⟨hm, hnd⟩ := findDef_mem hd
    obtain ⟨st, ⟨a, fd, hg, Fn⟩, hc⟩ := T.defs d hm
    have hgn := hg
    rw [hnd] at hg
    rw [hnm, hg] at hmg
    cases hmg
    have hc' := hc
    unfold defChk at hc
    simp only [Bool.and_eq_true, decide_eq_true_eq] at hc
    obtain ⟨⟨⟨c1, c2⟩, c3⟩, c4⟩ := hc
    have S := scope_ok c3
    obtain ⟨b0, b1, b2, b3, b4⟩ := args_ok c2
    obtain ⟨oc, od, kV, doc, pm, an, cdv, ct, osl, efd, lk, hcd⟩ := Fn.ex
    refine ⟨fd, fun s u => ?_, fun base _ _ => ?_⟩
    · subst efd
      refine .of_eq ?_
      have := bind_ok (x := d.name) (qual := d.name) (st := st) (kV := kV) (doc := doc) (pm := pm) (cdv := cdv) (ct := ct) (an := an) (us := [u]) b0 b1 b2 b3 b4 (S.nd.sublist (List.take_sublist _ _)) (by rw [hx]; rfl)
      rw [hx] at this
      exact this
    · have ok := def_ok (P := l.prog) (w := w) (base := base) T (fun d' _ hl => by rw [hl0] at hl; simp at hl) n "law" d hd st fa fd Fn hgn hc'
      rw [hx] at ok
      refine FnOk.imp ok fun vs H Q E hs => ?_
      obtain ⟨b, ns, rfl, hl, hS, hq⟩ := hs
      refine ⟨H, [scrD ns], ⟨Sub.refl H, fun p hp => nomatch hp⟩, .cons (.scr hS (Nat.le_trans hl (by decide))) .nil, ?_⟩
      rw [hp ns hl]
      intro v F' H' ex rv
      cases rv
      exact hq H'
  · obtain ⟨_, _, _, _, _, _, _, _, _, _, _, _, z⟩ := z
    exact z.elim

def spLawT (K : PySem.W.Frag) (P : Addr) : Sp := fun vs H Q _ => ∃ (a : Addr) (ns : List Int), vs = [.ref a] ∧ ns.length ≤ 63 ∧ SqL K H a (ns.map V.int) ∧ H P = some (.tbl #[]) ∧ ∀ H', Q (.bl true) H'
omit [Tb] in
/-- the same, where the law makes lambdas: its code object c, the table P -/
def tabAt (K : PySem.W.Frag) (P : Addr) : Bool := match PySem.W.tabIn K "law" with
  | some (c, P') => decide (P' = P) && PySem.W.codeHdIn K c P
  | none => false
omit [Tb] in
theorem tabAt_some {K : PySem.W.Frag} {P : Addr} (h : tabAt K P = true) : ∃ c, PySem.W.tabIn K "law" = some (c, P) ∧ PySem.W.codeHdIn K c P = true := by
  unfold tabAt at h
  split at h
  · rename_i c P' e
    rw [Bool.and_eq_true, decide_eq_true_eq] at h
    obtain ⟨rfl, h2⟩ := h
    exact ⟨c, e, h2⟩
  · cases h
omit [Tb] in
theorem law_walkT {l : PySem.W.OpenLaw} {q : Program} {loose : List Str} {XP : (Str → Option Value) → Heap → Prop} {YP : World → Heap → Prop} {r : DefRec} {K : Params → PySem.W.Frag} (G : Prog) (n : Nat) (d : Def) (x : Str) (P : Addr)
    (hn : l.most = some 63) (hdf : r.params.defaults = []) (hr : Room n callerA) (hY : ∀ (w : World) (h : Heap), YP w h → (K w.params).In h) (hnm : r.name = "law") (hd : findDef G.defs "law" = some d) (hx : parsOf d = [x])
    (hT : ∀ (w : World) (mg : Str → Option Value) (h : Heap), (K w.params).In h → h.Ns mainGlobals mg → Txt (K w.params) mg G)
    (hl0 : G.lams = [("law" : Str)]) (hP : ∀ (w : World) (h : Heap), YP w h → h.get? P = some { cls := .none, data := .fields #[] }) (nP : ∀ w : World, (K w.params).lookup P = none) (ht : ∀ w : World, tabAt (K w.params) P = true)
    (hp : ∀ ns : List Int, ns.length ≤ 63 → callD G n "law" [scrD ns] = .ok (.bool true)) :
    PySem.W.WalkO q loose XP YP l.row.toRowW r [] (fun f vs => PySem.call f vs) := by
  letI : Tb := ⟨[(P, ("law" : Str) ++ ".<locals>." ++ "<lambda>")]⟩
  refine LamX.walk_ofTs (n := 63) (k := n) (x := x) (CX := fun w => L2.CX l.prog w) hn (by decide) hdf hr hY ?_ fun w H s e s' z => ?_
  · intro w mg fa h Y KX Gl hmg
    obtain ⟨c, htw, hCw⟩ := tabAt_some (ht w)
    have T := hT w mg h KX Gl
    obtain ⟨hm, hnd⟩ := findDef_mem hd
    obtain ⟨st, ⟨a, fd, hg, Fn⟩, hc⟩ := T.defs d hm
    have hgn := hg
    rw [hnd] at hg
    rw [hnm, hg] at hmg
    cases hmg
    have hc' := hc
    unfold defChk at hc
    simp only [Bool.and_eq_true, decide_eq_true_eq] at hc
    obtain ⟨⟨⟨c1, c2⟩, c3⟩, c4⟩ := hc
    have S := scope_ok c3
    obtain ⟨b0, b1, b2, b3, b4⟩ := args_ok c2
    have Lm : ∀ base : Heap, LamX.TabB base mg c P → LamsOk (K w.params) mg base G := fun base TB d' hd' hl' st' a' fd' Fn' hm' => by
      have hn' : d'.name = "law" := by rw [hl0] at hl'; simpa using hl'
      refine ⟨c, P, ?_, TB, ?_, fun p hp _ => ?_⟩
      · obtain ⟨oc', od', kV', doc', pm', an', cdv', ct', osl', efd', lk', hcd'⟩ := Fn'.ex
        rw [hn'] at hm'
        exact PySem.W.law_code KX Gl htw hm' (KX _ _ lk') rfl
      · rw [hn']; exact List.mem_cons_self
      · rw [hn']
        have hp' : p ∈ [(P, ("law" : Str) ++ ".<locals>." ++ "<lambda>")] := hp
        rw [List.mem_singleton] at hp'
        rw [hp']
    obtain ⟨oc, od, kV, doc, pm, an, cdv, ct, osl, efd, lk, hcd⟩ := Fn.ex
    refine ⟨fd, [(c, P)], spLawT (K w.params) P, fun p hp => ?_, fun p hp => ?_, fun p hp => ?_, fun s u => ?_, fun H a ns hl _ hH hS => ?_, fun base hb hns hTB => ?_⟩
    · rw [List.mem_singleton] at hp; rw [hp]; exact hP w h Y
    · rw [List.mem_singleton] at hp; rw [hp]; exact nP w
    · rw [List.mem_singleton] at hp; rw [hp]; exact PySem.W.codeHd_of_K KX hCw
    · subst efd
      refine .of_eq ?_
      have := bind_ok (x := d.name) (qual := d.name) (st := st) (kV := kV) (doc := doc) (pm := pm) (cdv := cdv) (ct := ct) (an := an) (us := [u]) b0 b1 b2 b3 b4 (S.nd.sublist (List.take_sublist _ _)) (by rw [hx]; rfl)
      rw [hx] at this
      exact this
    · exact ⟨a, ns, rfl, hl, hS, hH (c, P) (List.mem_singleton.mpr rfl), fun _ => rfl⟩
    · have ok := def_ok (P := l.prog) (w := w) (base := base) T (Lm base (hTB (c, P) (List.mem_singleton.mpr rfl))) n "law" d hd st fa fd Fn hgn hc'
      rw [hx] at ok
      refine FnOk.imp ok fun vs H Q E hs => ?_
      obtain ⟨b, ns, rfl, hl, hS, hPt, hq⟩ := hs
      refine ⟨H, [scrD ns], ⟨Sub.refl H, fun p hp => ?_⟩, .cons (.scr hS (Nat.le_trans hl (by decide))) .nil, ?_⟩
      · have hp' : p ∈ [(P, ("law" : Str) ++ ".<locals>." ++ "<lambda>")] := hp
        rw [List.mem_singleton] at hp'
        rw [hp']
        exact LamX.TabS.nil hPt
      · rw [hp ns hl]
        intro v F' H' ex rv
        cases rv
        exact hq H'
  · obtain ⟨_, _, _, _, _, _, _, _, _, _, _, _, z⟩ := z
    exact z.elim
end DP

/-! ## Lib -/
set_option Elab.async false
set_option linter.all false
set_option maxRecDepth 100000
set_option autoImplicit false
namespace DP
open PySem
def d_law_cell_at : Def := ⟨"_law_cell_at", ["_law_script", "_law_k"], 2,
  (.cons (.ite (.cmp .lt (.var 1) (.blt .len (.cons (.var 0) .nil)))
  (.cons (.ret (.idx (.var 0) (.var 1)))
  .nil)
  .nil)
  (.cons (.ret (.int 0))
  .nil))⟩
def d_law_mixed : Def := ⟨"_law_mixed", ["_law_script", "_law_k", "_law_drawn_here"], 2,
  (.cons (.asg 2 (.bin .mod (.bin .mul (.bin .add (.bin .add (.call "_law_cell_at" (.cons (.var 0) (.cons (.var 1) .nil))) (.bin .mul (.int 7919) (.var 1))) (.int 1)) (.int 48271)) (.int 2147483647)))
  (.cons (.ret (.bin .mod (.bin .add (.bin .add (.bin .mul (.var 2) (.var 2)) (.bin .mul (.int 7) (.var 2))) (.var 1)) (.int 2147483629)))
  .nil))⟩
def d_law_drawn : Def := ⟨"_law_drawn", ["_law_number", "_law_k", "_law_drawn_here"], 2,
  (.cons (.asg 2 (.bin .mod (.bin .mul (.bin .add (.bin .add (.var 0) (.bin .mul (.int 104729) (.var 1))) (.int 17)) (.int 69621)) (.int 2147483647)))
  (.cons (.ret (.bin .mod (.bin .add (.bin .add (.bin .mul (.var 2) (.var 2)) (.bin .mul (.int 3) (.var 2))) (.var 1)) (.int 2147483629)))
  .nil))⟩
def d_law_far : Def := ⟨"_law_far", ["_law_number"], 1,
  (.cons (.ret (.bin .sub (.bin .mod (.bin .fdiv (.var 0) (.int 4)) (.idx (.tup (.cons (.int 21) (.cons (.int 1999) (.cons (.int 7) (.cons (.int 199) .nil))))) (.bin .mod (.var 0) (.int 4)))) (.idx (.tup (.cons (.int 10) (.cons (.int 999) (.cons (.int 3) (.cons (.int 99) .nil))))) (.bin .mod (.var 0) (.int 4)))))
  .nil)⟩
def d_law_point : Def := ⟨"_law_point", ["_law_number"], 1,
  (.cons (.ret (.tup (.cons (.call "_law_far" (.cons (.bin .fdiv (.call "_law_drawn" (.cons (.var 0) (.cons (.int 1) .nil))) (.int 4)) .nil)) (.cons (.call "_law_far" (.cons (.bin .fdiv (.call "_law_drawn" (.cons (.var 0) (.cons (.int 2) .nil))) (.int 4)) .nil)) .nil))))
  .nil)⟩
def d_law_placing : Def := ⟨"_law_placing", ["_law_number", "_law_x", "_law_y"], 1,
  (.cons (.ite (.cmp .eq (.bin .mod (.var 0) (.int 5)) (.int 0))
  (.cons (.ret (.tup (.cons (.int 0) (.cons (.int 0) (.cons (.int 1) (.cons (.int 0) (.cons (.int 0) .nil)))))))
  .nil)
  .nil)
  (.cons (.unp [1, 2] (.call "_law_point" (.cons (.bin .fdiv (.call "_law_drawn" (.cons (.var 0) (.cons (.int 3) .nil))) (.int 4)) .nil)))
  (.cons (.ret (.tup (.cons (.bin .mod (.bin .fdiv (.var 0) (.int 5)) (.int 4)) (.cons (.bin .mod (.bin .fdiv (.var 0) (.int 20)) (.int 2)) (.cons (.idx (.tup (.cons (.int 1) (.cons (.int 2) (.cons (.int 1) (.cons (.int 3) (.cons (.int 1) (.cons (.int 9) (.cons (.int 5) (.cons (.int 1) .nil))))))))) (.bin .mod (.bin .fdiv (.var 0) (.int 40)) (.int 8))) (.cons (.var 1) (.cons (.var 2) .nil)))))))
  .nil)))⟩
def d_law_name : Def := ⟨"_law_name", ["_law_number"], 1,
  (.cons (.ret (.idx (.lst (.cons (.str "a") (.cons (.str "b") (.cons (.str "c") (.cons (.str "d") (.cons (.str "e") (.cons (.str "legs") (.cons (.str "roof") (.cons (.str "x") (.cons (.str "door") (.cons (.str "z") .nil))))))))))) (.bin .mod (.var 0) (.int 10))))
  .nil)⟩
def d_law_simple : Def := ⟨"_law_simple", ["_law_number", "_law_points", "_law_k", "_law_many", "_law_x", "_law_y", "_law_point_here"], 1,
  (.cons (.unp [4, 5] (.call "_law_point" (.cons (.var 0) .nil)))
  (.cons (.ite (.cmp .eq (.bin .mod (.var 0) (.int 4)) (.int 0))
  (.cons (.ret (.tup (.cons (.str "line") (.cons (.bin .add (.var 4) (.blt .int (.cons (.and (.cons (.cmp .eq (.var 4) (.int 0)) (.cons (.cmp .eq (.var 5) (.int 0)) .nil))) .nil))) (.cons (.var 5) .nil)))))
  .nil)
  .nil)
  (.cons (.ite (.cmp .eq (.bin .mod (.var 0) (.int 4)) (.int 1))
  (.cons (.ret (.tup (.cons (.str "box") (.cons (.bin .add (.blt .abs (.cons (.var 4) .nil)) (.blt .int (.cons (.cmp .eq (.var 4) (.int 0)) .nil))) (.cons (.bin .add (.blt .abs (.cons (.var 5) .nil)) (.blt .int (.cons (.cmp .eq (.var 5) (.int 0)) .nil))) .nil)))))
  .nil)
  .nil)
  (.cons (.ite (.cmp .eq (.bin .mod (.var 0) (.int 4)) (.int 2))
  (.cons (.ret (.tup (.cons (.str "ring") (.cons (.bin .add (.blt .abs (.cons (.var 4) .nil)) (.blt .int (.cons (.cmp .eq (.var 4) (.int 0)) .nil))) .nil))))
  .nil)
  .nil)
  (.cons (.asgO 1 (.lst .nil))
  (.cons (.forr (.name 2) (.rng (.int 12)) [2, 6]
  (.cons (.asg 6 (.call "_law_point" (.cons (.bin .fdiv (.call "_law_drawn" (.cons (.var 0) (.cons (.bin .add (.int 20) (.var 2)) .nil))) (.int 4)) .nil)))
  (.cons (.ite (.cmp .eq (.bin .mod (.bin .fdiv (.var 0) (.int 4)) (.int 2)) (.int 0))
  (.cons (.asg 6 (.tup (.cons (.bin .mod (.idx (.var 6) (.int 0)) (.int 9)) (.cons (.bin .mod (.idx (.var 6) (.int 1)) (.int 9)) .nil))))
  .nil)
  .nil)
  (.cons (.ite (.cmp .nin (.var 6) (.var 1))
  (.cons (.app 1 (.var 6))
  .nil)
  .nil)
  .nil))))
  (.cons (.asg 3 (.bin .add (.int 3) (.bin .mod (.bin .fdiv (.var 0) (.int 8)) (.int 4))))
  (.cons (.ret (.idx (.lst (.cons (.tup (.cons (.str "field") (.cons (.blt .tuple (.cons (.slc (.var 1) .non (.var 3)) .nil)) .nil))) (.cons (.tup (.cons (.str "ring") (.cons (.int 7) .nil))) .nil))) (.blt .int (.cons (.cmp .lt (.blt .len (.cons (.var 1) .nil)) (.var 3)) .nil))))
  .nil))))))))⟩
def d_law_thing : Def := ⟨"_law_thing", ["_law_number", "_law_deep", "_law_kind", "_law_many", "_law_x", "_law_y"], 2,
  (.cons (.asg 2 (.bin .mod (.bin .fdiv (.var 0) (.int 4)) (.int 8)))
  (.cons (.ite (.or (.cons (.cmp .eq (.var 1) (.int 1)) (.cons (.cmp .lt (.var 2) (.int 4)) .nil)))
  (.cons (.ret (.call "_law_simple" (.cons (.bin .fdiv (.call "_law_drawn" (.cons (.var 0) (.cons (.int 4) .nil))) (.int 4)) .nil)))
  .nil)
  .nil)
  (.cons (.ite (.cmp .eq (.var 2) (.int 4))
  (.cons (.unp [4, 5] (.call "_law_point" (.cons (.bin .fdiv (.call "_law_drawn" (.cons (.var 0) (.cons (.int 5) .nil))) (.int 4)) .nil)))
  (.cons (.asg 3 (.bin .add (.int 1) (.bin .mod (.bin .fdiv (.var 0) (.int 32)) (.idx (.tup (.cons (.int 3) (.cons (.int 6) (.cons (.int 2) .nil)))) (.bin .mod (.bin .fdiv (.var 0) (.int 256)) (.int 3))))))
  (.cons (.ret (.tup (.cons (.str "row") (.cons (.var 3) (.cons (.var 4) (.cons (.var 5) (.cons (.call "_law_thing" (.cons (.bin .fdiv (.call "_law_drawn" (.cons (.var 0) (.cons (.int 6) .nil))) (.int 4)) (.cons (.bin .sub (.var 1) (.int 1)) .nil))) .nil)))))))
  .nil)))
  .nil)
  (.cons (.ret (.call "_law_group" (.cons (.bin .fdiv (.call "_law_drawn" (.cons (.var 0) (.cons (.int 7) .nil))) (.int 4)) (.cons (.var 1) .nil))))
  .nil))))⟩
def d_law_group : Def := ⟨"_law_group", ["_law_number", "_law_deep", "_law_parts", "_law_k", "_law_drawn_here", "_law_name_here", "_law_part"], 2,
  (.cons (.asgO 2 (.lst .nil))
  (.cons (.forr (.name 3) (.rng (.idx (.tup (.cons (.int 2) (.cons (.int 3) (.cons (.int 1) (.cons (.int 4) (.cons (.int 0) (.cons (.int 3) (.cons (.int 2) (.cons (.int 4) .nil))))))))) (.bin .mod (.var 0) (.int 8)))) [3, 4, 5]
  (.cons (.asg 4 (.bin .fdiv (.call "_law_drawn" (.cons (.var 0) (.cons (.bin .add (.int 8) (.var 3)) .nil))) (.int 4)))
  (.cons (.asg 5 (.call "_law_name" (.cons (.var 4) .nil)))
  (.cons (.ite (.and (.cons (.cmp .nin (.var 5) (.comp (.idx (.var 6) (.int 0)) (.name 6) (.plain (.var 2)) .nil)) (.cons (.cmp .gt (.var 1) (.int 1)) .nil)))
  (.cons (.app 2 (.tup (.cons (.var 5) (.cons (.call "_law_placing" (.cons (.bin .fdiv (.var 4) (.int 16)) .nil)) (.cons (.call "_law_thing" (.cons (.bin .fdiv (.call "_law_drawn" (.cons (.var 4) (.cons (.int 9) .nil))) (.int 4)) (.cons (.bin .sub (.var 1) (.int 1)) .nil))) .nil)))))
  .nil)
  .nil)
  .nil))))
  (.cons (.ret (.tup (.cons (.str "group") (.cons (.blt .tuple (.cons (.var 2) .nil)) .nil))))
  .nil)))⟩
def d_put : Def := ⟨"put", ["placing", "point", "k", "turn", "flip", "scale", "more_x", "more_y", "x", "y"], 2,
  (.cons (.unp [3, 4, 5, 6, 7] (.var 0))
  (.cons (.unp [8, 9] (.var 1))
  (.cons (.ite (.cmp .eq (.var 4) (.int 1))
  (.cons (.asg 8 (.neg (.var 8)))
  .nil)
  .nil)
  (.cons (.forr (.name 2) (.rng (.var 3)) [2]
  (.cons (.par 8 9 (.neg (.var 9)) (.var 8))
  .nil))
  (.cons (.ret (.tup (.cons (.bin .add (.bin .mul (.var 8) (.var 5)) (.var 6)) (.cons (.bin .add (.bin .mul (.var 9) (.var 5)) (.var 7)) .nil))))
  .nil)))))⟩
def d_together : Def := ⟨"together", ["outer", "inner", "turn"], 2,
  (.cons (.asg 2 (.bin .mod (.bin .add (.idx (.var 0) (.int 0)) (.bin .mul (.idx (.var 1) (.int 0)) (.bin .sub (.int 1) (.bin .mul (.int 2) (.idx (.var 0) (.int 1)))))) (.int 4)))
  (.cons (.ret (.bin .add (.tup (.cons (.var 2) (.cons (.bin .mod (.bin .add (.idx (.var 0) (.int 1)) (.idx (.var 1) (.int 1))) (.int 2)) (.cons (.bin .mul (.idx (.var 0) (.int 2)) (.idx (.var 1) (.int 2))) .nil)))) (.call "put" (.cons (.var 0) (.cons (.slc (.var 1) (.int 3) .non) .nil)))))
  .nil))⟩
def d_back : Def := ⟨"back", ["placing", "point", "x", "y", "k", "turn", "flip", "scale", "more_x", "more_y"], 2,
  (.cons (.unp [5, 6, 7, 8, 9] (.var 0))
  (.cons (.asg 2 (.bin .sub (.idx (.var 1) (.int 0)) (.var 8)))
  (.cons (.asg 3 (.bin .sub (.idx (.var 1) (.int 1)) (.var 9)))
  (.cons (.ite (.or (.cons (.cmp .ne (.bin .mod (.var 2) (.var 7)) (.int 0)) (.cons (.cmp .ne (.bin .mod (.var 3) (.var 7)) (.int 0)) .nil)))
  (.cons (.ret .non)
  .nil)
  .nil)
  (.cons (.asg 2 (.bin .fdiv (.var 2) (.var 7)))
  (.cons (.asg 3 (.bin .fdiv (.var 3) (.var 7)))
  (.cons (.forr (.name 4) (.rng (.var 5)) [4]
  (.cons (.par 2 3 (.var 3) (.neg (.var 2)))
  .nil))
  (.cons (.ite (.cmp .eq (.var 6) (.int 1))
  (.cons (.asg 2 (.neg (.var 2)))
  .nil)
  .nil)
  (.cons (.ret (.tup (.cons (.var 2) (.cons (.var 3) .nil))))
  .nil)))))))))⟩
def d_law_matrix : Def := ⟨"_law_matrix", ["_law_placing_here", "_law_sign", "_law_turn", "_law_flip", "_law_scale", "_law_x", "_law_y", "_law_c", "_law_s"], 1,
  (.cons (.unp [2, 3, 4, 5, 6] (.var 0))
  (.cons (.unp [7, 8] (.idx (.tup (.cons (.tup (.cons (.int 1) (.cons (.int 0) .nil))) (.cons (.tup (.cons (.int 0) (.cons (.int 1) .nil))) (.cons (.tup (.cons (.neg (.int 1)) (.cons (.int 0) .nil))) (.cons (.tup (.cons (.int 0) (.cons (.neg (.int 1)) .nil))) .nil))))) (.var 2)))
  (.cons (.asg 1 (.bin .sub (.int 1) (.bin .mul (.int 2) (.var 3))))
  (.cons (.ret (.tup (.cons (.bin .mul (.bin .mul (.var 7) (.var 1)) (.var 4)) (.cons (.bin .mul (.neg (.var 8)) (.var 4)) (.cons (.bin .mul (.bin .mul (.var 8) (.var 1)) (.var 4)) (.cons (.bin .mul (.var 7) (.var 4)) (.cons (.var 5) (.cons (.var 6) .nil))))))))
  .nil))))⟩
def d_law_put : Def := ⟨"_law_put", ["_law_m", "_law_point_here", "_law_x", "_law_y"], 2,
  (.cons (.unp [2, 3] (.var 1))
  (.cons (.ret (.tup (.cons (.bin .add (.bin .add (.bin .mul (.idx (.var 0) (.int 0)) (.var 2)) (.bin .mul (.idx (.var 0) (.int 1)) (.var 3))) (.idx (.var 0) (.int 4))) (.cons (.bin .add (.bin .add (.bin .mul (.idx (.var 0) (.int 2)) (.var 2)) (.bin .mul (.idx (.var 0) (.int 3)) (.var 3))) (.idx (.var 0) (.int 5))) .nil))))
  .nil))⟩
def d_law_both : Def := ⟨"_law_both", ["_law_m", "_law_n", "_law_first", "_law_second"], 2,
  (.cons (.asg 2 (.tup (.cons (.bin .add (.bin .mul (.idx (.var 0) (.int 0)) (.idx (.var 1) (.int 0))) (.bin .mul (.idx (.var 0) (.int 1)) (.idx (.var 1) (.int 2)))) (.cons (.bin .add (.bin .mul (.idx (.var 0) (.int 0)) (.idx (.var 1) (.int 1))) (.bin .mul (.idx (.var 0) (.int 1)) (.idx (.var 1) (.int 3)))) .nil))))
  (.cons (.asg 3 (.tup (.cons (.bin .add (.bin .mul (.idx (.var 0) (.int 2)) (.idx (.var 1) (.int 0))) (.bin .mul (.idx (.var 0) (.int 3)) (.idx (.var 1) (.int 2)))) (.cons (.bin .add (.bin .mul (.idx (.var 0) (.int 2)) (.idx (.var 1) (.int 1))) (.bin .mul (.idx (.var 0) (.int 3)) (.idx (.var 1) (.int 3)))) .nil))))
  (.cons (.ret (.bin .add (.bin .add (.var 2) (.var 3)) (.call "_law_put" (.cons (.var 0) (.cons (.slc (.var 1) (.int 4) .non) .nil)))))
  .nil)))⟩
def d_shape_of : Def := ⟨"shape_of", ["thing", "placing", "one", "other", "low", "ends", "point"], 2,
  (.cons (.ite (.cmp .eq (.idx (.var 0) (.int 0)) (.str "line"))
  (.cons (.asg 5 (.blt .sorted (.cons (.lst (.cons (.call "put" (.cons (.var 1) (.cons (.tup (.cons (.int 0) (.cons (.int 0) .nil))) .nil))) (.cons (.call "put" (.cons (.var 1) (.cons (.slc (.var 0) (.int 1) .non) .nil))) .nil))) .nil)))
  (.cons (.ret (.tup (.cons (.str "line") (.cons (.idx (.var 5) (.int 0)) (.cons (.idx (.var 5) (.int 1)) .nil)))))
  .nil))
  .nil)
  (.cons (.ite (.cmp .eq (.idx (.var 0) (.int 0)) (.str "ring"))
  (.cons (.ret (.tup (.cons (.str "ring") (.cons (.call "put" (.cons (.var 1) (.cons (.tup (.cons (.int 0) (.cons (.int 0) .nil))) .nil))) (.cons (.bin .mul (.idx (.var 0) (.int 1)) (.idx (.var 1) (.int 2))) .nil)))))
  .nil)
  .nil)
  (.cons (.ite (.cmp .eq (.idx (.var 0) (.int 0)) (.str "field"))
  (.cons (.ret (.tup (.cons (.str "field") (.cons (.blt .tuple (.cons (.comp (.call "put" (.cons (.var 1) (.cons (.var 6) .nil))) (.name 6) (.plain (.idx (.var 0) (.int 1))) .nil) .nil)) .nil))))
  .nil)
  .nil)
  (.cons (.asg 2 (.call "put" (.cons (.var 1) (.cons (.tup (.cons (.int 0) (.cons (.int 0) .nil))) .nil))))
  (.cons (.asg 3 (.call "put" (.cons (.var 1) (.cons (.slc (.var 0) (.int 1) .non) .nil))))
  (.cons (.asg 4 (.tup (.cons (.blt .min (.cons (.idx (.var 2) (.int 0)) (.cons (.idx (.var 3) (.int 0)) .nil))) (.cons (.blt .min (.cons (.idx (.var 2) (.int 1)) (.cons (.idx (.var 3) (.int 1)) .nil))) .nil))))
  (.cons (.ret (.tup (.cons (.str "box") (.cons (.var 4) (.cons (.tup (.cons (.blt .max (.cons (.idx (.var 2) (.int 0)) (.cons (.idx (.var 3) (.int 0)) .nil))) (.cons (.blt .max (.cons (.idx (.var 2) (.int 1)) (.cons (.idx (.var 3) (.int 1)) .nil))) .nil))) .nil)))))
  .nil)))))))⟩
def d_copy_placing : Def := ⟨"copy_placing", ["thing", "k"], 2,
  (.cons (.ret (.tup (.cons (.int 0) (.cons (.int 0) (.cons (.int 1) (.cons (.bin .mul (.var 1) (.idx (.var 0) (.int 2))) (.cons (.bin .mul (.var 1) (.idx (.var 0) (.int 3))) .nil)))))))
  .nil)⟩
def d_flat_from : Def := ⟨"flat_from", ["thing", "placing", "path", "found", "name", "inner", "part", "k"], 3,
  (.cons (.asgO 3 (.lst .nil))
  (.cons (.ite (.cmp .eq (.idx (.var 0) (.int 0)) (.str "group"))
  (.cons (.forr (.tup [4, 5, 6]) (.plain (.idx (.var 0) (.int 1))) [4, 5, 6]
  (.cons (.ext 3 (.call "flat_from" (.cons (.var 6) (.cons (.call "together" (.cons (.var 1) (.cons (.var 5) .nil))) (.cons (.bin .add (.var 2) (.tup (.cons (.var 4) .nil))) .nil)))))
  .nil))
  .nil)
  (.cons (.ite (.cmp .eq (.idx (.var 0) (.int 0)) (.str "row"))
  (.cons (.forr (.name 7) (.rng (.idx (.var 0) (.int 1))) [7]
  (.cons (.ext 3 (.call "flat_from" (.cons (.idx (.var 0) (.int 4)) (.cons (.call "together" (.cons (.var 1) (.cons (.call "copy_placing" (.cons (.var 0) (.cons (.var 7) .nil))) .nil))) (.cons (.bin .add (.var 2) (.tup (.cons (.var 7) .nil))) .nil)))))
  .nil))
  .nil)
  (.cons (.app 3 (.tup (.cons (.var 2) (.cons (.call "shape_of" (.cons (.var 0) (.cons (.var 1) .nil))) .nil))))
  .nil))
  .nil))
  (.cons (.retO 3)
  .nil)))⟩
def d_flat : Def := ⟨"flat", ["sheet"], 1,
  (.cons (.ret (.blt .tuple (.cons (.call "flat_from" (.cons (.var 0) (.cons (.glob "PLAIN") (.cons (.tup .nil) .nil)))) .nil)))
  .nil)⟩
def d_picture : Def := ⟨"picture", ["sheet", "path", "shape"], 1,
  (.cons (.ret (.blt .tuple (.cons (.comp (.var 2) (.tup [1, 2]) (.plain (.call "flat" (.cons (.var 0) .nil))) .nil) .nil)))
  .nil)⟩
def d_points_of : Def := ⟨"points_of", ["shape", "x", "y"], 1,
  (.cons (.ite (.cmp .eq (.idx (.var 0) (.int 0)) (.str "ring"))
  (.cons (.unp [1, 2] (.idx (.var 0) (.int 1)))
  (.cons (.ret (.lst (.cons (.tup (.cons (.bin .sub (.var 1) (.idx (.var 0) (.int 2))) (.cons (.bin .sub (.var 2) (.idx (.var 0) (.int 2))) .nil))) (.cons (.tup (.cons (.bin .add (.var 1) (.idx (.var 0) (.int 2))) (.cons (.bin .add (.var 2) (.idx (.var 0) (.int 2))) .nil))) .nil))))
  .nil))
  .nil)
  (.cons (.ite (.cmp .eq (.idx (.var 0) (.int 0)) (.str "field"))
  (.cons (.ret (.blt .list (.cons (.idx (.var 0) (.int 1)) .nil)))
  .nil)
  .nil)
  (.cons (.ret (.lst (.cons (.idx (.var 0) (.int 1)) (.cons (.idx (.var 0) (.int 2)) .nil))))
  .nil)))⟩
def d_box_around : Def := ⟨"box_around", ["shapes", "points", "shape", "wide", "high", "point"], 1,
  (.cons (.asgO 1 (.lst .nil))
  (.cons (.forr (.name 2) (.plain (.var 0)) [2]
  (.cons (.ext 1 (.call "points_of" (.cons (.var 2) .nil)))
  .nil))
  (.cons (.ite (.cmp .eq (.blt .len (.cons (.var 1) .nil)) (.int 0))
  (.cons (.ret .non)
  .nil)
  .nil)
  (.cons (.asg 3 (.comp (.idx (.var 5) (.int 0)) (.name 5) (.plain (.var 1)) .nil))
  (.cons (.asg 4 (.comp (.idx (.var 5) (.int 1)) (.name 5) (.plain (.var 1)) .nil))
  (.cons (.ret (.tup (.cons (.tup (.cons (.blt .min (.cons (.var 3) .nil)) (.cons (.blt .min (.cons (.var 4) .nil)) .nil))) (.cons (.tup (.cons (.blt .max (.cons (.var 3) .nil)) (.cons (.blt .max (.cons (.var 4) .nil)) .nil))) .nil))))
  .nil))))))⟩
def d_box_of : Def := ⟨"box_of", ["sheet", "path", "shape"], 1,
  (.cons (.ret (.call "box_around" (.cons (.comp (.var 2) (.tup [1, 2]) (.plain (.call "flat" (.cons (.var 0) .nil))) .nil) .nil)))
  .nil)⟩
def d_boxes : Def := ⟨"boxes", ["sheet", "found", "part", "path", "shape"], 1,
  (.cons (.asgO 1 (.lst .nil))
  (.cons (.forr (.name 2) (.plain (.idx (.var 0) (.int 1))) [2]
  (.cons (.app 1 (.tup (.cons (.idx (.var 2) (.int 0)) (.cons (.call "box_around" (.cons (.comp (.var 4) (.tup [3, 4]) (.plain (.call "flat" (.cons (.var 0) .nil))) (.cons (.cmp .eq (.idx (.var 3) (.int 0)) (.idx (.var 2) (.int 0))) .nil)) .nil)) .nil))))
  .nil))
  (.cons (.ret (.blt .tuple (.cons (.var 1) .nil)))
  .nil)))⟩
def d_law_shape_put : Def := ⟨"_law_shape_put", ["_law_shape", "_law_placing_here", "_law_low", "_law_one", "_law_other", "_law_point_here"], 2,
  (.cons (.ite (.cmp .eq (.idx (.var 0) (.int 0)) (.str "ring"))
  (.cons (.ret (.tup (.cons (.str "ring") (.cons (.call "put" (.cons (.var 1) (.cons (.idx (.var 0) (.int 1)) .nil))) (.cons (.bin .mul (.idx (.var 0) (.int 2)) (.idx (.var 1) (.int 2))) .nil)))))
  .nil)
  .nil)
  (.cons (.ite (.cmp .eq (.idx (.var 0) (.int 0)) (.str "field"))
  (.cons (.ret (.tup (.cons (.str "field") (.cons (.blt .tuple (.cons (.comp (.call "put" (.cons (.var 1) (.cons (.var 5) .nil))) (.name 5) (.plain (.idx (.var 0) (.int 1))) .nil) .nil)) .nil))))
  .nil)
  .nil)
  (.cons (.par 3 4 (.call "put" (.cons (.var 1) (.cons (.idx (.var 0) (.int 1)) .nil))) (.call "put" (.cons (.var 1) (.cons (.idx (.var 0) (.int 2)) .nil))))
  (.cons (.ite (.cmp .eq (.idx (.var 0) (.int 0)) (.str "line"))
  (.cons (.ret (.tup (.cons (.str "line") (.cons (.blt .min (.cons (.var 3) (.cons (.var 4) .nil))) (.cons (.blt .max (.cons (.var 3) (.cons (.var 4) .nil))) .nil)))))
  .nil)
  .nil)
  (.cons (.asg 2 (.tup (.cons (.blt .min (.cons (.idx (.var 3) (.int 0)) (.cons (.idx (.var 4) (.int 0)) .nil))) (.cons (.blt .min (.cons (.idx (.var 3) (.int 1)) (.cons (.idx (.var 4) (.int 1)) .nil))) .nil))))
  (.cons (.ret (.tup (.cons (.str "box") (.cons (.var 2) (.cons (.tup (.cons (.blt .max (.cons (.idx (.var 3) (.int 0)) (.cons (.idx (.var 4) (.int 0)) .nil))) (.cons (.blt .max (.cons (.idx (.var 3) (.int 1)) (.cons (.idx (.var 4) (.int 1)) .nil))) .nil))) .nil)))))
  .nil))))))⟩
def d_law_put_all : Def := ⟨"_law_put_all", ["_law_rows", "_law_placing_here", "_law_step", "_law_path", "_law_shape"], 3,
  (.cons (.ret (.blt .tuple (.cons (.comp (.tup (.cons (.bin .add (.tup (.cons (.var 2) .nil)) (.var 3)) (.cons (.call "_law_shape_put" (.cons (.var 4) (.cons (.var 1) .nil))) .nil))) (.tup [3, 4]) (.plain (.var 0)) .nil) .nil)))
  .nil)⟩
def d_law_shape : Def := ⟨"_law_shape", ["_law_thing_here", "_law_m", "_law_one", "_law_other", "_law_low", "_law_point_here"], 2,
  (.cons (.asg 2 (.call "_law_put" (.cons (.var 1) (.cons (.tup (.cons (.int 0) (.cons (.int 0) .nil))) .nil))))
  (.cons (.ite (.cmp .eq (.idx (.var 0) (.int 0)) (.str "ring"))
  (.cons (.ret (.tup (.cons (.str "ring") (.cons (.var 2) (.cons (.bin .mul (.idx (.var 0) (.int 1)) (.bin .add (.blt .abs (.cons (.idx (.var 1) (.int 0)) .nil)) (.blt .abs (.cons (.idx (.var 1) (.int 1)) .nil)))) .nil)))))
  .nil)
  .nil)
  (.cons (.ite (.cmp .eq (.idx (.var 0) (.int 0)) (.str "field"))
  (.cons (.ret (.tup (.cons (.str "field") (.cons (.blt .tuple (.cons (.comp (.call "_law_put" (.cons (.var 1) (.cons (.var 5) .nil))) (.name 5) (.plain (.idx (.var 0) (.int 1))) .nil) .nil)) .nil))))
  .nil)
  .nil)
  (.cons (.asg 3 (.call "_law_put" (.cons (.var 1) (.cons (.slc (.var 0) (.int 1) .non) .nil))))
  (.cons (.ite (.cmp .eq (.idx (.var 0) (.int 0)) (.str "line"))
  (.cons (.ret (.tup (.cons (.str "line") (.cons (.blt .min (.cons (.var 2) (.cons (.var 3) .nil))) (.cons (.blt .max (.cons (.var 2) (.cons (.var 3) .nil))) .nil)))))
  .nil)
  .nil)
  (.cons (.asg 4 (.tup (.cons (.blt .min (.cons (.idx (.var 2) (.int 0)) (.cons (.idx (.var 3) (.int 0)) .nil))) (.cons (.blt .min (.cons (.idx (.var 2) (.int 1)) (.cons (.idx (.var 3) (.int 1)) .nil))) .nil))))
  (.cons (.ret (.tup (.cons (.str "box") (.cons (.var 4) (.cons (.tup (.cons (.blt .max (.cons (.idx (.var 2) (.int 0)) (.cons (.idx (.var 3) (.int 0)) .nil))) (.cons (.blt .max (.cons (.idx (.var 2) (.int 1)) (.cons (.idx (.var 3) (.int 1)) .nil))) .nil))) .nil)))))
  .nil)))))))⟩
def d_law_flat : Def := ⟨"_law_flat", ["_law_thing_here", "_law_m", "_law_path", "_law_found", "_law_k", "_law_name_here", "_law_placing_here", "_law_part", "_law_inner"], 3,
  (.cons (.ite (.cmp .nin (.idx (.var 0) (.int 0)) (.tup (.cons (.str "group") (.cons (.str "row") .nil))))
  (.cons (.ret (.lst (.cons (.tup (.cons (.var 2) (.cons (.call "_law_shape" (.cons (.var 0) (.cons (.var 1) .nil))) .nil))) .nil)))
  .nil)
  .nil)
  (.cons (.asg 3 (.lst .nil))
  (.cons (.ite (.cmp .eq (.idx (.var 0) (.int 0)) (.str "row"))
  (.cons (.forr (.name 4) (.rng (.idx (.var 0) (.int 1))) [4, 8]
  (.cons (.asg 8 (.call "_law_both" (.cons (.var 1) (.cons (.tup (.cons (.int 1) (.cons (.int 0) (.cons (.int 0) (.cons (.int 1) (.cons (.bin .mul (.var 4) (.idx (.var 0) (.int 2))) (.cons (.bin .mul (.var 4) (.idx (.var 0) (.int 3))) .nil))))))) .nil))))
  (.cons (.asg 3 (.bin .add (.var 3) (.call "_law_flat" (.cons (.idx (.var 0) (.int 4)) (.cons (.var 8) (.cons (.bin .add (.var 2) (.tup (.cons (.var 4) .nil))) .nil))))))
  .nil)))
  (.cons (.ret (.var 3))
  .nil))
  .nil)
  (.cons (.forr (.tup [5, 6, 7]) (.plain (.idx (.var 0) (.int 1))) [5, 6, 7]
  (.cons (.asg 3 (.bin .add (.var 3) (.call "_law_flat" (.cons (.var 7) (.cons (.call "_law_both" (.cons (.var 1) (.cons (.call "_law_matrix" (.cons (.var 6) .nil)) .nil))) (.cons (.bin .add (.var 2) (.tup (.cons (.var 5) .nil))) .nil))))))
  .nil))
  (.cons (.ret (.var 3))
  .nil)))))⟩
def d_law_box : Def := ⟨"_law_box", ["_law_shapes", "_law_wide", "_law_high", "_law_shape_here", "_law_points", "_law_more", "_law_x", "_law_y"], 1,
  (.cons (.asg 1 (.lst .nil))
  (.cons (.asg 2 (.lst .nil))
  (.cons (.forr (.name 3) (.plain (.var 0)) [3, 4, 5, 6, 7]
  (.cons (.asg 4 (.blt .list (.cons (.slc (.var 3) (.int 1) .non) .nil)))
  (.cons (.asg 5 (.int 0))
  (.cons (.ite (.cmp .eq (.idx (.var 3) (.int 0)) (.str "ring"))
  (.cons (.asg 4 (.lst (.cons (.idx (.var 3) (.int 1)) .nil)))
  (.cons (.asg 5 (.idx (.var 3) (.int 2)))
  .nil))
  .nil)
  (.cons (.ite (.cmp .eq (.idx (.var 3) (.int 0)) (.str "field"))
  (.cons (.asg 4 (.blt .list (.cons (.idx (.var 3) (.int 1)) .nil)))
  .nil)
  .nil)
  (.cons (.forr (.tup [6, 7]) (.plain (.var 4)) [6, 7]
  (.cons (.asg 1 (.bin .add (.var 1) (.lst (.cons (.bin .sub (.var 6) (.var 5)) (.cons (.bin .add (.var 6) (.var 5)) .nil)))))
  (.cons (.asg 2 (.bin .add (.var 2) (.lst (.cons (.bin .sub (.var 7) (.var 5)) (.cons (.bin .add (.var 7) (.var 5)) .nil)))))
  .nil)))
  .nil))))))
  (.cons (.ite (.cmp .eq (.var 1) (.lst .nil))
  (.cons (.ret .non)
  .nil)
  .nil)
  (.cons (.ret (.tup (.cons (.tup (.cons (.blt .min (.cons (.var 1) .nil)) (.cons (.blt .min (.cons (.var 2) .nil)) .nil))) (.cons (.tup (.cons (.blt .max (.cons (.var 1) .nil)) (.cons (.blt .max (.cons (.var 2) .nil)) .nil))) .nil))))
  .nil)))))⟩
def d_is_number : Def := ⟨"is_number", ["step"], 1,
  (.cons (.ret (.not (.isi (.var 0) .str)))
  .nil)⟩
def d_inner_of : Def := ⟨"inner_of", ["thing", "step", "name", "placing", "part"], 2,
  (.cons (.ite (.and (.cons (.cmp .eq (.idx (.var 0) (.int 0)) (.str "group")) (.cons (.not (.call "is_number" (.cons (.var 1) .nil))) .nil)))
  (.cons (.forr (.tup [2, 3, 4]) (.plain (.idx (.var 0) (.int 1))) [2, 3, 4]
  (.cons (.ite (.cmp .eq (.var 2) (.var 1))
  (.cons (.ret (.tup (.cons (.var 3) (.cons (.var 4) .nil))))
  .nil)
  .nil)
  .nil))
  .nil)
  .nil)
  (.cons (.ite (.and (.cons (.cmp .eq (.idx (.var 0) (.int 0)) (.str "row")) (.cons (.call "is_number" (.cons (.var 1) .nil)) (.cons (.chain .le .lt (.int 0) (.var 1) (.idx (.var 0) (.int 1))) .nil))))
  (.cons (.ret (.tup (.cons (.call "copy_placing" (.cons (.var 0) (.cons (.var 1) .nil))) (.cons (.idx (.var 0) (.int 4)) .nil))))
  .nil)
  .nil)
  (.cons (.rais "NoPart" (.cons (.str "it leads nowhere") .nil))
  .nil)))⟩
def d_found_at : Def := ⟨"found_at", ["sheet", "path", "placing", "thing", "step", "more"], 2,
  (.cons (.asg 2 (.glob "PLAIN"))
  (.cons (.asg 3 (.var 0))
  (.cons (.forr (.name 4) (.plain (.var 1)) [4, 5]
  (.cons (.unp [5, 3] (.call "inner_of" (.cons (.var 3) (.cons (.var 4) .nil))))
  (.cons (.asg 2 (.call "together" (.cons (.var 2) (.cons (.var 5) .nil))))
  .nil)))
  (.cons (.ret (.tup (.cons (.var 2) (.cons (.var 3) .nil))))
  .nil))))⟩
def d_thing_at : Def := ⟨"thing_at", ["sheet", "path"], 2,
  (.cons (.ret (.idx (.call "found_at" (.cons (.var 0) (.cons (.var 1) .nil))) (.int 1)))
  .nil)⟩
def d_placing_at : Def := ⟨"placing_at", ["sheet", "path"], 2,
  (.cons (.ret (.idx (.call "found_at" (.cons (.var 0) (.cons (.var 1) .nil))) (.int 0)))
  .nil)⟩
def d_law_paths : Def := ⟨"_law_paths", ["_law_thing_here", "_law_found", "_law_k", "_law_name_here", "_law_placing_here", "_law_part", "_law_path_here"], 1,
  (.cons (.asg 1 (.lst (.cons (.tup .nil) .nil)))
  (.cons (.ite (.cmp .eq (.idx (.var 0) (.int 0)) (.str "group"))
  (.cons (.forr (.tup [3, 4, 5]) (.plain (.idx (.var 0) (.int 1))) [3, 4, 5]
  (.cons (.asg 1 (.bin .add (.var 1) (.comp (.bin .add (.tup (.cons (.var 3) .nil)) (.var 6)) (.name 6) (.plain (.call "_law_paths" (.cons (.var 5) .nil))) .nil)))
  .nil))
  .nil)
  .nil)
  (.cons (.ite (.cmp .eq (.idx (.var 0) (.int 0)) (.str "row"))
  (.cons (.forr (.name 2) (.rng (.idx (.var 0) (.int 1))) [2]
  (.cons (.asg 1 (.bin .add (.var 1) (.comp (.bin .add (.tup (.cons (.var 2) .nil)) (.var 6)) (.name 6) (.plain (.call "_law_paths" (.cons (.idx (.var 0) (.int 4)) .nil))) .nil)))
  .nil))
  .nil)
  .nil)
  (.cons (.ret (.var 1))
  .nil))))⟩
def d_law_path : Def := ⟨"_law_path", ["_law_sheet", "_law_number", "_law_some", "_law_path_here"], 2,
  (.cons (.asg 2 (.call "_law_paths" (.cons (.var 0) .nil)))
  (.cons (.asg 3 (.idx (.var 2) (.bin .mod (.bin .fdiv (.var 1) (.int 16)) (.blt .len (.cons (.var 2) .nil)))))
  (.cons (.ite (.cmp .eq (.bin .mod (.var 1) (.int 16)) (.int 1))
  (.cons (.asg 3 (.bin .add (.var 3) (.tup (.cons (.call "_law_name" (.cons (.bin .fdiv (.var 1) (.int 4096)) .nil)) .nil))))
  .nil)
  .nil)
  (.cons (.ite (.cmp .eq (.bin .mod (.var 1) (.int 16)) (.int 2))
  (.cons (.asg 3 (.bin .add (.var 3) (.tup (.cons (.bin .sub (.bin .mod (.bin .fdiv (.var 1) (.int 4096)) (.int 4)) (.int 1)) .nil))))
  .nil)
  .nil)
  (.cons (.ite (.cmp .eq (.bin .mod (.var 1) (.int 16)) (.int 3))
  (.cons (.asg 3 (.bin .add (.tup (.cons (.call "_law_name" (.cons (.bin .fdiv (.var 1) (.int 4096)) .nil)) .nil)) (.var 3)))
  .nil)
  .nil)
  (.cons (.ret (.var 3))
  .nil))))))⟩
def d_law_at : Def := ⟨"_law_at", ["_law_sheet", "_law_path_here", "_law_thing_here", "_law_m", "_law_step", "_law_parts", "_law_part"], 2,
  (.cons (.asg 2 (.var 0))
  (.cons (.asg 3 (.tup (.cons (.int 1) (.cons (.int 0) (.cons (.int 0) (.cons (.int 1) (.cons (.int 0) (.cons (.int 0) .nil))))))))
  (.cons (.forr (.name 4) (.plain (.var 1)) [4, 5]
  (.cons (.asg 5 (.lst .nil))
  (.cons (.ite (.cmp .eq (.idx (.var 2) (.int 0)) (.str "group"))
  (.cons (.asg 5 (.comp (.var 6) (.name 6) (.plain (.idx (.var 2) (.int 1))) (.cons (.cmp .eq (.idx (.var 6) (.int 0)) (.var 4)) .nil)))
  .nil)
  .nil)
  (.cons (.ite (.and (.cons (.cmp .eq (.idx (.var 2) (.int 0)) (.str "row")) (.cons (.not (.isi (.var 4) .str)) (.cons (.chain .le .lt (.int 0) (.var 4) (.idx (.var 2) (.int 1))) .nil))))
  (.cons (.asg 5 (.lst (.cons (.tup (.cons (.var 4) (.cons (.tup (.cons (.int 0) (.cons (.int 0) (.cons (.int 1) (.cons (.bin .mul (.var 4) (.idx (.var 2) (.int 2))) (.cons (.bin .mul (.var 4) (.idx (.var 2) (.int 3))) .nil)))))) (.cons (.idx (.var 2) (.int 4)) .nil)))) .nil)))
  .nil)
  .nil)
  (.cons (.ite (.cmp .eq (.var 5) (.lst .nil))
  (.cons (.ret .non)
  .nil)
  .nil)
  (.cons (.asg 3 (.call "_law_both" (.cons (.var 3) (.cons (.call "_law_matrix" (.cons (.idx (.idx (.var 5) (.int 0)) (.int 1)) .nil)) .nil))))
  (.cons (.asg 2 (.idx (.idx (.var 5) (.int 0)) (.int 2)))
  .nil)))))))
  (.cons (.ret (.tup (.cons (.var 2) (.cons (.var 3) .nil))))
  .nil))))⟩
def d_must_be_names : Def := ⟨"must_be_names", ["sheet", "path", "step"], 2,
  (.cons (.expr (.call "found_at" (.cons (.var 0) (.cons (.var 1) .nil))))
  (.cons (.ite (.blt .any (.cons (.comp (.call "is_number" (.cons (.var 2) .nil)) (.name 2) (.plain (.var 1)) .nil) .nil))
  (.cons (.rais "NoFit" (.cons (.str "a number in it") .nil))
  .nil)
  .nil)
  .nil))⟩
def d_with_parts : Def := ⟨"with_parts", ["sheet", "path", "parts", "found", "name", "placing", "thing"], 3,
  (.cons (.ite (.cmp .eq (.blt .len (.cons (.var 1) .nil)) (.int 0))
  (.cons (.ret (.tup (.cons (.str "group") (.cons (.var 2) .nil))))
  .nil)
  .nil)
  (.cons (.asgO 3 (.lst .nil))
  (.cons (.forr (.tup [4, 5, 6]) (.plain (.idx (.var 0) (.int 1))) [4, 5, 6]
  (.cons (.ite (.cmp .eq (.var 4) (.idx (.var 1) (.int 0)))
  (.cons (.asg 6 (.call "with_parts" (.cons (.var 6) (.cons (.slc (.var 1) (.int 1) .non) (.cons (.var 2) .nil)))))
  .nil)
  .nil)
  (.cons (.app 3 (.tup (.cons (.var 4) (.cons (.var 5) (.cons (.var 6) .nil)))))
  .nil)))
  (.cons (.ret (.tup (.cons (.str "group") (.cons (.blt .tuple (.cons (.var 3) .nil)) .nil))))
  .nil))))⟩
def d_part_at : Def := ⟨"part_at", ["sheet", "path", "parts", "part"], 2,
  (.cons (.expr (.call "must_be_names" (.cons (.var 0) (.cons (.var 1) .nil))))
  (.cons (.ite (.cmp .eq (.blt .len (.cons (.var 1) .nil)) (.int 0))
  (.cons (.rais "NoFit" (.cons (.str "no part") .nil))
  .nil)
  .nil)
  (.cons (.asg 2 (.idx (.call "thing_at" (.cons (.var 0) (.cons (.slc (.var 1) .non (.neg (.int 1))) .nil))) (.int 1)))
  (.cons (.ret (.tup (.cons (.var 2) (.cons (.meth (.comp (.idx (.var 3) (.int 0)) (.name 3) (.plain (.var 2)) .nil) "list.index" (.cons (.idx (.var 1) (.neg (.int 1))) .nil)) .nil))))
  .nil))))⟩
def d_with_part : Def := ⟨"with_part", ["sheet", "path", "some", "parts", "at"], 3,
  (.cons (.unp [3, 4] (.call "part_at" (.cons (.var 0) (.cons (.var 1) .nil))))
  (.cons (.ret (.call "with_parts" (.cons (.var 0) (.cons (.slc (.var 1) .non (.neg (.int 1))) (.cons (.bin .add (.bin .add (.slc (.var 3) .non (.var 4)) (.var 2)) (.slc (.var 3) (.bin .add (.var 4) (.int 1)) .non)) .nil)))))
  .nil))⟩
def d_moved : Def := ⟨"moved", ["sheet", "path", "x", "y", "outer", "step", "new", "parts", "at", "name", "placing", "thing"], 4,
  (.cons (.unp [7, 8] (.call "part_at" (.cons (.var 0) (.cons (.var 1) .nil))))
  (.cons (.unp [9, 10, 11] (.idx (.var 7) (.var 8)))
  (.cons (.asg 4 (.call "placing_at" (.cons (.var 0) (.cons (.slc (.var 1) .non (.neg (.int 1))) .nil))))
  (.cons (.asg 5 (.call "back" (.cons (.bin .add (.slc (.var 4) .non (.int 3)) (.tup (.cons (.int 0) (.cons (.int 0) .nil)))) (.cons (.tup (.cons (.var 2) (.cons (.var 3) .nil))) .nil))))
  (.cons (.ite (.cmp .is (.var 5) .non)
  (.cons (.rais "NoFit" (.cons (.str "not by whole numbers") .nil))
  .nil)
  .nil)
  (.cons (.asg 6 (.bin .add (.slc (.var 10) .non (.int 3)) (.tup (.cons (.bin .add (.idx (.var 10) (.int 3)) (.idx (.var 5) (.int 0))) (.cons (.bin .add (.idx (.var 10) (.int 4)) (.idx (.var 5) (.int 1))) .nil)))))
  (.cons (.ret (.call "with_part" (.cons (.var 0) (.cons (.var 1) (.cons (.tup (.cons (.tup (.cons (.var 9) (.cons (.var 6) (.cons (.var 11) .nil)))) .nil)) .nil)))))
  .nil)))))))⟩
def d_turned : Def := ⟨"turned", ["sheet", "path", "parts", "at", "name", "placing", "thing"], 2,
  (.cons (.unp [2, 3] (.call "part_at" (.cons (.var 0) (.cons (.var 1) .nil))))
  (.cons (.unp [4, 5, 6] (.idx (.var 2) (.var 3)))
  (.cons (.ret (.call "with_part" (.cons (.var 0) (.cons (.var 1) (.cons (.tup (.cons (.tup (.cons (.var 4) (.cons (.bin .add (.tup (.cons (.bin .mod (.bin .add (.idx (.var 5) (.int 0)) (.int 1)) (.int 4)) .nil)) (.slc (.var 5) (.int 1) .non)) (.cons (.var 6) .nil)))) .nil)) .nil)))))
  .nil)))⟩
def d_mirrored : Def := ⟨"mirrored", ["sheet", "path", "parts", "at", "name", "placing", "thing"], 2,
  (.cons (.unp [2, 3] (.call "part_at" (.cons (.var 0) (.cons (.var 1) .nil))))
  (.cons (.unp [4, 5, 6] (.idx (.var 2) (.var 3)))
  (.cons (.ret (.call "with_part" (.cons (.var 0) (.cons (.var 1) (.cons (.tup (.cons (.tup (.cons (.var 4) (.cons (.bin .add (.bin .add (.slc (.var 5) .non (.int 1)) (.tup (.cons (.bin .sub (.int 1) (.idx (.var 5) (.int 1))) .nil))) (.slc (.var 5) (.int 2) .non)) (.cons (.var 6) .nil)))) .nil)) .nil)))))
  .nil)))⟩
def d_law_group_b : Def := { d_law_group with names := ["_law_number", "_law_deep", "_law_parts", "_law_k", "_law_drawn_here", "_law_name_here", "_law_part_here"] }
def d_law_paths_b : Def := { d_law_paths with names := ["_law_thing_here", "_law_found", "_law_k", "_law_name_here", "_law_placing_here", "_law_part_here", "_law_path_here"] }
def d_law_at_b : Def := { d_law_at with names := ["_law_sheet", "_law_path_here", "_law_thing_here", "_law_m", "_law_step", "_law_parts", "_law_part_here"] }
def d_law_is_plain : Def := ⟨"_law_is_plain", ["_law_path_here", "_law_step"], 1,
  (.cons (.ret (.cmp .eq (.comp (.var 1) (.name 1) (.plain (.var 0)) (.cons (.not (.isi (.var 1) .str)) .nil)) (.lst .nil)))
  .nil)⟩
def d_law_with : Def := ⟨"_law_with", ["_law_sheet", "_law_path_here", "_law_parts", "_law_found", "_law_name_here", "_law_placing_here", "_law_part_here"], 3,
  (.cons (.ite (.cmp .eq (.var 1) (.tup .nil))
  (.cons (.ret (.tup (.cons (.str "group") (.cons (.var 2) .nil))))
  .nil)
  .nil)
  (.cons (.asg 3 (.tup .nil))
  (.cons (.forr (.tup [4, 5, 6]) (.plain (.idx (.var 0) (.int 1))) [4, 5, 6]
  (.cons (.ite (.cmp .eq (.var 4) (.idx (.var 1) (.int 0)))
  (.cons (.asg 6 (.call "_law_with" (.cons (.var 6) (.cons (.slc (.var 1) (.int 1) .non) (.cons (.var 2) .nil)))))
  .nil)
  .nil)
  (.cons (.asg 3 (.bin .add (.var 3) (.tup (.cons (.tup (.cons (.var 4) (.cons (.var 5) (.cons (.var 6) .nil)))) .nil))))
  .nil)))
  (.cons (.ret (.tup (.cons (.str "group") (.cons (.var 3) .nil))))
  .nil))))⟩
def d_law_change : Def := ⟨"_law_change", ["_law_sheet", "_law_path_here", "_law_some", "_law_parts", "_law_k", "_law_part_here"], 3,
  (.cons (.asg 3 (.idx (.idx (.call "_law_at" (.cons (.var 0) (.cons (.slc (.var 1) .non (.neg (.int 1))) .nil))) (.int 0)) (.int 1)))
  (.cons (.asg 4 (.meth (.comp (.idx (.var 5) (.int 0)) (.name 5) (.plain (.var 3)) .nil) "list.index" (.cons (.idx (.var 1) (.neg (.int 1))) .nil)))
  (.cons (.ret (.call "_law_with" (.cons (.var 0) (.cons (.slc (.var 1) .non (.neg (.int 1))) (.cons (.bin .add (.bin .add (.slc (.var 3) .non (.var 4)) (.var 2)) (.slc (.var 3) (.bin .add (.var 4) (.int 1)) .non)) .nil)))))
  .nil)))⟩
def d_law_part : Def := ⟨"_law_part", ["_law_sheet", "_law_path_here", "_law_parts", "_law_part_here"], 2,
  (.cons (.asg 2 (.idx (.idx (.call "_law_at" (.cons (.var 0) (.cons (.slc (.var 1) .non (.neg (.int 1))) .nil))) (.int 0)) (.int 1)))
  (.cons (.ret (.idx (.comp (.var 3) (.name 3) (.plain (.var 2)) (.cons (.cmp .eq (.idx (.var 3) (.int 0)) (.idx (.var 1) (.neg (.int 1)))) .nil)) (.int 0)))
  .nil))⟩
def d_law_moved : Def := ⟨"_law_moved", ["_law_sheet", "_law_path_here", "_law_x", "_law_y", "_law_m", "_law_scale", "_law_step", "_law_square", "_law_new", "_law_name_here", "_law_placing_here", "_law_part_here"], 4,
  (.cons (.asg 4 (.idx (.call "_law_at" (.cons (.var 0) (.cons (.slc (.var 1) .non (.neg (.int 1))) .nil))) (.int 1)))
  (.cons (.asg 5 (.bin .add (.blt .abs (.cons (.idx (.var 4) (.int 0)) .nil)) (.blt .abs (.cons (.idx (.var 4) (.int 1)) .nil))))
  (.cons (.ite (.or (.cons (.cmp .ne (.bin .mod (.var 2) (.var 5)) (.int 0)) (.cons (.cmp .ne (.bin .mod (.var 3) (.var 5)) (.int 0)) .nil)))
  (.cons (.ret (.tup (.cons (.str "refused") (.cons (.int 2) .nil))))
  .nil)
  .nil)
  (.cons (.unp [9, 10, 11] (.call "_law_part" (.cons (.var 0) (.cons (.var 1) .nil))))
  (.cons (.asg 6 (.tup (.cons (.bin .add (.bin .mul (.idx (.var 4) (.int 0)) (.var 2)) (.bin .mul (.idx (.var 4) (.int 2)) (.var 3))) (.cons (.bin .add (.bin .mul (.idx (.var 4) (.int 1)) (.var 2)) (.bin .mul (.idx (.var 4) (.int 3)) (.var 3))) .nil))))
  (.cons (.asg 7 (.bin .mul (.var 5) (.var 5)))
  (.cons (.asg 8 (.bin .add (.slc (.var 10) .non (.int 3)) (.tup (.cons (.bin .add (.idx (.var 10) (.int 3)) (.bin .fdiv (.idx (.var 6) (.int 0)) (.var 7))) (.cons (.bin .add (.idx (.var 10) (.int 4)) (.bin .fdiv (.idx (.var 6) (.int 1)) (.var 7))) .nil)))))
  (.cons (.ret (.tup (.cons (.str "told") (.cons (.call "_law_change" (.cons (.var 0) (.cons (.var 1) (.cons (.tup (.cons (.tup (.cons (.var 9) (.cons (.var 8) (.cons (.var 11) .nil)))) .nil)) .nil)))) .nil))))
  .nil))))))))⟩
def d_only_unlike : Def := ⟨"only_unlike", ["parts", "part"], 1,
  (.cons (.ite (.cmp .ne (.meth (.comp (.idx (.var 1) (.int 0)) (.name 1) (.plain (.var 0)) .nil) "set.len" .nil) (.blt .len (.cons (.var 0) .nil)))
  (.cons (.rais "NoFit" (.cons (.str "one name twice") .nil))
  .nil)
  .nil)
  (.cons (.ret (.var 0))
  .nil))⟩
def d_grouped : Def := ⟨"grouped", ["sheet", "path", "first", "many", "name", "thing", "parts", "new"], 5,
  (.cons (.expr (.call "must_be_names" (.cons (.var 0) (.cons (.var 1) .nil))))
  (.cons (.asg 5 (.call "thing_at" (.cons (.var 0) (.cons (.var 1) .nil))))
  (.cons (.ite (.or (.cons (.cmp .ne (.idx (.var 5) (.int 0)) (.str "group")) (.cons (.not (.chain3 .le .le .le (.int 0) (.var 2) (.bin .add (.var 2) (.var 3)) (.blt .len (.cons (.idx (.var 5) (.int 1)) .nil)))) .nil)))
  (.cons (.rais "NoFit" (.cons (.str "not so many parts") .nil))
  .nil)
  .nil)
  (.cons (.asg 6 (.idx (.var 5) (.int 1)))
  (.cons (.asg 7 (.tup (.cons (.var 4) (.cons (.glob "PLAIN") (.cons (.tup (.cons (.str "group") (.cons (.slc (.var 6) (.var 2) (.bin .add (.var 2) (.var 3))) .nil))) .nil)))))
  (.cons (.ret (.call "with_parts" (.cons (.var 0) (.cons (.var 1) (.cons (.call "only_unlike" (.cons (.bin .add (.bin .add (.slc (.var 6) .non (.var 2)) (.tup (.cons (.var 7) .nil))) (.slc (.var 6) (.bin .add (.var 2) (.var 3)) .non)) .nil)) .nil)))))
  .nil))))))⟩
def d_in_place : Def := ⟨"in_place", ["sheet", "path", "some", "found"], 3,
  (.cons (.asg 3 (.call "with_part" (.cons (.var 0) (.cons (.var 1) (.cons (.var 2) .nil)))))
  (.cons (.expr (.call "only_unlike" (.cons (.idx (.call "thing_at" (.cons (.var 3) (.cons (.slc (.var 1) .non (.neg (.int 1))) .nil))) (.int 1)) .nil)))
  (.cons (.ret (.var 3))
  .nil)))⟩
def d_ungrouped : Def := ⟨"ungrouped", ["sheet", "path", "parts", "at", "name", "placing", "thing", "part"], 2,
  (.cons (.unp [2, 3] (.call "part_at" (.cons (.var 0) (.cons (.var 1) .nil))))
  (.cons (.unp [4, 5, 6] (.idx (.var 2) (.var 3)))
  (.cons (.ite (.cmp .ne (.idx (.var 6) (.int 0)) (.str "group"))
  (.cons (.rais "NoFit" (.cons (.str "no group") .nil))
  .nil)
  .nil)
  (.cons (.ret (.call "in_place" (.cons (.var 0) (.cons (.var 1) (.cons (.blt .tuple (.cons (.comp (.tup (.cons (.idx (.var 7) (.int 0)) (.cons (.call "together" (.cons (.var 5) (.cons (.idx (.var 7) (.int 1)) .nil))) (.cons (.idx (.var 7) (.int 2)) .nil)))) (.name 7) (.plain (.idx (.var 6) (.int 1))) .nil) .nil)) .nil)))))
  .nil))))⟩
def d_spread : Def := ⟨"spread", ["sheet", "path", "names", "some", "parts", "at", "name", "placing", "thing", "k", "new"], 3,
  (.cons (.unp [4, 5] (.call "part_at" (.cons (.var 0) (.cons (.var 1) .nil))))
  (.cons (.unp [6, 7, 8] (.idx (.var 4) (.var 5)))
  (.cons (.ite (.or (.cons (.cmp .ne (.idx (.var 8) (.int 0)) (.str "row")) (.cons (.cmp .ne (.blt .len (.cons (.var 2) .nil)) (.idx (.var 8) (.int 1))) .nil)))
  (.cons (.rais "NoFit" (.cons (.str "no row of so many") .nil))
  .nil)
  .nil)
  (.cons (.asgO 3 (.lst .nil))
  (.cons (.forr (.tup [9, 10]) (.enum (.var 2)) [9, 10]
  (.cons (.app 3 (.tup (.cons (.var 10) (.cons (.call "together" (.cons (.var 7) (.cons (.call "copy_placing" (.cons (.var 8) (.cons (.var 9) .nil))) .nil))) (.cons (.idx (.var 8) (.int 4)) .nil)))))
  .nil))
  (.cons (.ret (.call "in_place" (.cons (.var 0) (.cons (.var 1) (.cons (.blt .tuple (.cons (.var 3) .nil)) .nil)))))
  .nil))))))⟩
def d_dropped : Def := ⟨"dropped", ["sheet", "path"], 2,
  (.cons (.ret (.call "with_part" (.cons (.var 0) (.cons (.var 1) (.cons (.tup .nil) .nil)))))
  .nil)⟩
def d_raised : Def := ⟨"raised", ["sheet", "path", "parts", "at"], 2,
  (.cons (.unp [2, 3] (.call "part_at" (.cons (.var 0) (.cons (.var 1) .nil))))
  (.cons (.ret (.call "with_parts" (.cons (.var 0) (.cons (.slc (.var 1) .non (.neg (.int 1))) (.cons (.bin .add (.bin .add (.slc (.var 2) .non (.var 3)) (.rev (.slc (.var 2) (.var 3) (.bin .add (.var 3) (.int 2))))) (.slc (.var 2) (.bin .add (.var 3) (.int 2)) .non)) .nil)))))
  .nil))⟩
end DP

/-! ## Eng -/
set_option Elab.async false
set_option linter.all false
set_option maxRecDepth 100000
set_option maxHeartbeats 4000000
set_option autoImplicit false
/-! The evaluator by equations: each form with the results of its parts. -/
namespace DP
open PySem
def outK : Flw → Res PyData
  | .ret d => .ok d
  | .next _ => .ok .none
  | _ => .stuck
/-- a def that stands in a program, up to its names -/
def Has (G : Prog) (f : Str) (d : Def) : Prop := ∃ d', findDef G.defs f = some d' ∧ d'.body = d.body ∧ d'.arity = d.arity ∧ d'.names.length = d.names.length
def slotV : Slot → Res PyData
  | .val d => .ok d
  | _ => .stuck
def slotL : Slot → Res PyData
  | .val d => .ok d
  | .own d => .ok d
  | .un => .stuck
def optV : Option PyData → Res PyData
  | some d => .ok d
  | none => .stuck
section
variable {α : Type}
def b1 (f : PyData → Res α) (r : Res PyData) : Res α := r.bind f
def bL (f : List PyData → Res α) (r : Res (List PyData)) : Res α := r.bind f
def b2 (f : PyData → PyData → Res α) (r s : Res PyData) : Res α := r.bind fun x => s.bind fun y => f x y
end
def mkT (r : Res (List PyData)) : Res PyData := r.bind fun ds => .ok (.tuple ds)
def mkL (r : Res (List PyData)) : Res PyData := r.bind fun ds => .ok (.list ds)
def cons2 (r : Res PyData) (s : Res (List PyData)) : Res (List PyData) := r.bind fun d => s.bind fun ds => .ok (d :: ds)
def notK (r : Res PyData) : Res PyData := r.bind fun x => (asB x).bind fun b => .ok (.bool (!b))
def andK (r s : Res PyData) : Res PyData := r.bind fun d => (asB d).bind fun b => if b then s else .ok (.bool false)
def orK (r s : Res PyData) : Res PyData := r.bind fun d => (asB d).bind fun b => if b then .ok (.bool true) else s
def isiV (t : Ty) (x : PyData) : Res PyData := (isiD t x).bind fun b => .ok (.bool b)
/-- three comparisons -/
def chainK3 (op op' op'' : COp) (r s t u : Res PyData) : Res PyData := r.bind fun x => s.bind fun y => (cmpB op x y).bind fun k => if k then t.bind fun z => (cmpB op' y z).bind fun k' => if k' then u.bind fun w => cmpD op'' z w else .ok (.bool false) else .ok (.bool false)
def chainK (op op' : COp) (r s t : Res PyData) : Res PyData := r.bind fun x => s.bind fun y => (cmpB op x y).bind fun k => if k then t.bind fun z => cmpD op' y z else .ok (.bool false)
def slcK (r : Res PyData) (l h : Res (Option Int)) : Res PyData := r.bind fun x => l.bind fun l => h.bind fun h => slcD x l h
def tK (r : Res PyData) (s : Res Bool) : Res Bool := r.bind fun d => (asB d).bind fun b => if b then s else .ok false
/-- a comprehension -/
def cmpl (C : Ctx) (cs : DEs) (elt : DE) (tg : Tg) (ρ : DEnv) (ds : List PyData) : Res (List PyData) := noExc (compLoop (fun ρ' => evalT C cs ρ') (fun ρ' => evalE C elt ρ') tg ρ ds)
def cmplK (C : Ctx) (cs : DEs) (elt : DE) (tg : Tg) (ρ : DEnv) (r : Res (List PyData)) : Res (List PyData) := r.bind fun ds => cmpl C cs elt tg ρ ds
def selK (b : Res Bool) (x : Res PyData) (r : Res (List PyData)) : Res (List PyData) := noExc (b.bind fun b => if b then x.bind fun x => r.bind fun xs => .ok (x :: xs) else r)
def cl1 (C : Ctx) (cs : DEs) (elt : DE) (e : Res DEnv) (r : Res (List PyData)) : Res (List PyData) := noExc (e.bind fun ρ' => selK (evalT C cs ρ') (evalE C elt ρ') r)
/- statements -/
def seqK (C : Ctx) (ss : DSs) (r : Res Flw) : Res Flw := r.bind fun f => match f with
    | .next ρ' => evalSs C ss ρ'
    | f => .ok f
def asgK (i : Nat) (ρ : DEnv) (r : Res PyData) : Res Flw := r.bind fun d => .ok (.next (ρ.set i (.val d)))
def asgOK (i : Nat) (ρ : DEnv) (r : Res PyData) : Res Flw := r.bind fun d => match d with
    | .list _ => .ok (.next (ρ.set i (.own d)))
    | _ => .stuck
def nxE (r : Res DEnv) : Res Flw := r.bind fun ρ' => .ok (.next ρ')
def unpK (is : List Nat) (ρ : DEnv) (r : Res PyData) : Res Flw := r.bind fun d => match d with
    | .tuple ds => (setAll is ds ρ).bind fun ρ' => .ok (.next ρ')
    | _ => .stuck
def unpLK (is : List Nat) (ρ : DEnv) (r : Res PyData) : Res Flw := r.bind fun d => match d with
    | .list ds => (setAll is ds ρ).bind fun ρ' => .ok (.next ρ')
    | _ => .stuck
def parK (i j : Nat) (ρ : DEnv) (r s : Res PyData) : Res Flw := r.bind fun x => s.bind fun y => .ok (.next ((ρ.set i (.val x)).set j (.val y)))
def exprK (ρ : DEnv) (r : Res PyData) : Res Flw := r.bind fun _ => .ok (.next ρ)
def appK (i : Nat) (ρ : DEnv) (s : Slot) (r : Res PyData) : Res Flw := match s with
    | .own (.list xs) => r.bind fun d => appD ρ i xs d
    | _ => .stuck
def extK (i : Nat) (ρ : DEnv) (s : Slot) (r : Res PyData) : Res Flw := match s with
    | .own (.list xs) => r.bind fun d => extD ρ i xs d
    | _ => .stuck
def retK (r : Res PyData) : Res Flw := r.bind fun d => .ok (.ret d)
def retOK (s : Slot) : Res Flw := match s with
    | .own d => .ok (.ret d)
    | _ => .stuck
def iteK (C : Ctx) (a b : DSs) (ρ : DEnv) (r : Res PyData) : Res Flw := r.bind fun d => (asB d).bind fun k => if k then evalSs C a ρ else evalSs C b ρ
def forK (C : Ctx) (tg : Tg) (ws : List Nat) (body : DSs) (ρ : DEnv) (r : Res (List PyData)) : Res Flw := r.bind fun ds => loopD (fun ρ' => evalSs C body ρ') tg ws ds ρ
def lpD (C : Ctx) (tg : Tg) (ws : List Nat) (body : DSs) (ds : List PyData) (ρ : DEnv) : Res Flw := loopD (fun ρ' => evalSs C body ρ') tg ws ds ρ
def lpS (C : Ctx) (body : DSs) (r : Res DEnv) : Res Flw := r.bind fun ρ' => evalSs C body ρ'
def lpK (C : Ctx) (tg : Tg) (ws : List Nat) (body : DSs) (ds : List PyData) (r : Res Flw) : Res Flw := r.bind fun f => match f with
    | .next ρ'' => loopD (fun ρ' => evalSs C body ρ') tg ws ds (wipeE ρ'' ws)
    | .cont ρ'' => loopD (fun ρ' => evalSs C body ρ') tg ws ds (wipeE ρ'' ws)
    | .brk ρ'' => .ok (.next ρ'')
    | .ret d => .ok (.ret d)
def frz (i : Nat) (ρ : DEnv) : Slot → DEnv
  | .own d => ρ.set i (.val d)
  | _ => ρ
def mthK (mt : Str) (r : Res PyData) (s : Res (List PyData)) : Res PyData := r.bind fun x => if methOk mt x then s.bind fun ds => methD mt x ds else .stuck
def lpT (ws : List Nat) (r : Res Flw) : Res Flw := r.bind fun f => match f with
  | .next ρ => .ok (.next (wipeE ρ ws))
  | .cont ρ => .ok (.cont ρ)
  | .brk ρ => .ok (.brk ρ)
  | .ret d => .ok (.ret d)
/-- a term's value as an operand -/
def opd (C : Ctx) (e : DE) (ρ : DEnv) : Res PyData := brw e ρ (evalE C e ρ)
section
variable {α : Type} {C : Ctx} {ρ : DEnv} {G : Prog} {n : Nat}

theorem q_b1 {f : PyData → Res α} {x : PyData} : b1 f (.ok x) = f x := rfl
theorem q_bL {f : List PyData → Res α} {x : List PyData} : bL f (.ok x) = f x := rfl
theorem q_b2 {f : PyData → PyData → Res α} {x y : PyData} : b2 f (.ok x) (.ok y) = f x y := rfl
theorem q_mkT {ds : List PyData} : mkT (.ok ds) = .ok (.tuple ds) := rfl
theorem q_mkL {ds : List PyData} : mkL (.ok ds) = .ok (.list ds) := rfl
theorem q_cons2 {d : PyData} {ds : List PyData} : cons2 (.ok d) (.ok ds) = .ok (d :: ds) := rfl
theorem q_notK {b : Bool} : notK (.ok (.bool b)) = .ok (.bool (!b)) := rfl
theorem q_andK {b c : Bool} : andK (.ok (.bool b)) (.ok (.bool c)) = .ok (.bool (b && c)) := by cases b <;> rfl
theorem q_andKf {r : Res PyData} : andK (.ok (.bool false)) r = .ok (.bool false) := rfl
theorem q_andKt {r : Res PyData} : andK (.ok (.bool true)) r = r := rfl
theorem q_orK {b c : Bool} : orK (.ok (.bool b)) (.ok (.bool c)) = .ok (.bool (b || c)) := by cases b <;> rfl
theorem q_orKt {r : Res PyData} : orK (.ok (.bool true)) r = .ok (.bool true) := rfl
theorem q_orKf {r : Res PyData} : orK (.ok (.bool false)) r = r := rfl
theorem q_chainK3 {op op' op'' : COp} {x y z w : PyData} : chainK3 op op' op'' (.ok x) (.ok y) (.ok z) (.ok w) = andK (cmpD op x y) (andK (cmpD op' y z) (cmpD op'' z w)) := by
  simp only [chainK3, andK, cmpD, Res.bind_ok]
  cases cmpB op x y with
  | ok k =>
    cases k with
    | false => rfl
    | true =>
      cases cmpB op' y z with
      | ok k2 => cases k2 <;> rfl
      | exc c d => rfl
      | stuck => rfl
  | exc c d => rfl
  | stuck => rfl
theorem q_chainK {op op' : COp} {x y z : PyData} : chainK op op' (.ok x) (.ok y) (.ok z) = andK (cmpD op x y) (cmpD op' y z) := by
  simp only [chainK, andK, cmpD, Res.bind_ok]
  cases cmpB op x y <;> rfl
theorem q_slcK {x : PyData} {l h : Option Int} : slcK (.ok x) (.ok l) (.ok h) = slcD x l h := rfl
theorem q_tK {b c : Bool} : tK (.ok (.bool b)) (.ok c) = .ok (b && c) := by cases b <;> rfl
theorem q_tKf {r : Res Bool} : tK (.ok (.bool false)) r = .ok false := rfl
theorem q_cmplK {cs : DEs} {elt : DE} {tg : Tg} {ds : List PyData} : cmplK C cs elt tg ρ (.ok ds) = cmpl C cs elt tg ρ ds := rfl
theorem q_cl0 {cs : DEs} {elt : DE} {tg : Tg} : cmpl C cs elt tg ρ [] = .ok [] := rfl
theorem q_cl1 {cs : DEs} {elt : DE} {tg : Tg} {d : PyData} {ds : List PyData} : cmpl C cs elt tg ρ (d :: ds) = cl1 C cs elt (setTg tg d ρ) (cmpl C cs elt tg ρ ds) := by
  simp only [cmpl, cl1, selK, compLoop]
  cases setTg tg d ρ with
  | ok ρ' =>
    simp only [Res.bind_ok]
    cases evalT C cs ρ' with
    | ok b =>
      cases b with
      | true =>
        simp only [Res.bind_ok, if_true]
        cases evalE C elt ρ' with
        | ok x => simp only [Res.bind_ok]; cases compLoop (fun ρ' => evalT C cs ρ') (fun ρ' => evalE C elt ρ') tg ρ ds <;> rfl
        | _ => rfl
      | false => simp only [Res.bind_ok, Bool.false_eq_true, if_false]; cases compLoop (fun ρ' => evalT C cs ρ') (fun ρ' => evalE C elt ρ') tg ρ ds <;> rfl
    | _ => rfl
  | _ => rfl
theorem noExc2 (r : Res α) : noExc (noExc r) = noExc r := by cases r <;> rfl
theorem q_cl1o {cs : DEs} {elt : DE} {ρ' : DEnv} {r : Res (List PyData)} : cl1 C cs elt (.ok ρ') r = selK (evalT C cs ρ') (evalE C elt ρ') r := by
  simp only [cl1, Res.bind_ok, selK, noExc2]
theorem q_selt {x : PyData} {xs : List PyData} : selK (.ok true) (.ok x) (.ok xs) = .ok (x :: xs) := rfl
theorem q_self {x : Res PyData} {xs : List PyData} : selK (.ok false) x (.ok xs) = .ok xs := rfl
theorem q_seqn {ss : DSs} {ρ' : DEnv} : seqK C ss (.ok (.next ρ')) = evalSs C ss ρ' := rfl
theorem q_seqr {ss : DSs} {d : PyData} : seqK C ss (.ok (.ret d)) = .ok (.ret d) := rfl
theorem q_seqe {ss : DSs} {c : String} {d : PyData} : seqK C ss (.exc c d) = .exc c d := rfl
theorem q_seqi {ss : DSs} {p : Prop} [Decidable p] {a b : Res Flw} : seqK C ss (if p then a else b) = if p then seqK C ss a else seqK C ss b := by split <;> rfl
theorem q_asgK {i : Nat} {d : PyData} : asgK i ρ (.ok d) = .ok (.next (ρ.set i (.val d))) := rfl
theorem q_asgOK {i : Nat} {ds : List PyData} : asgOK i ρ (.ok (.list ds)) = .ok (.next (ρ.set i (.own (.list ds)))) := rfl
theorem q_nxE {ρ' : DEnv} : nxE (.ok ρ') = .ok (.next ρ') := rfl
theorem q_unpK {is : List Nat} {ds : List PyData} : unpK is ρ (.ok (.tuple ds)) = nxE (setAll is ds ρ) := rfl
theorem q_unpLK {is : List Nat} {ds : List PyData} : unpLK is ρ (.ok (.list ds)) = nxE (setAll is ds ρ) := rfl
theorem q_parK {i j : Nat} {x y : PyData} : parK i j ρ (.ok x) (.ok y) = .ok (.next ((ρ.set i (.val x)).set j (.val y))) := rfl
theorem q_exprK {d : PyData} : exprK ρ (.ok d) = .ok (.next ρ) := rfl
theorem q_appK {i : Nat} {xs : List PyData} {d : PyData} (h : xs.length < 1000000) : appK i ρ (.own (.list xs)) (.ok d) = .ok (.next (ρ.set i (.own (.list (xs ++ [d]))))) := by simp [appK, appD, LIM, h]
theorem q_extK {i : Nat} {xs ys : List PyData} (h : xs.length + ys.length ≤ 1000000) : extK i ρ (.own (.list xs)) (.ok (.list ys)) = .ok (.next (ρ.set i (.own (.list (xs ++ ys))))) := by simp [extK, extD, LIM, h]
theorem q_retK {d : PyData} : retK (.ok d) = .ok (.ret d) := rfl
theorem q_retOK {d : PyData} : retOK (.own d) = .ok (.ret d) := rfl
theorem q_iteK {a b : DSs} {k : Bool} : iteK C a b ρ (.ok (.bool k)) = if k = true then evalSs C a ρ else evalSs C b ρ := by cases k <;> rfl
theorem q_forK {tg : Tg} {ws : List Nat} {body : DSs} {ds : List PyData} : forK C tg ws body ρ (.ok ds) = lpD C tg ws body ds ρ := rfl
theorem q_lp0 {tg : Tg} {ws : List Nat} {body : DSs} : lpD C tg ws body [] ρ = .ok (.next ρ) := rfl
theorem q_lp1 {tg : Tg} {ws : List Nat} {body : DSs} {d : PyData} {ds : List PyData} : lpD C tg ws body (d :: ds) ρ = lpK C tg ws body ds (lpS C body (setTg tg d ρ)) := by
  simp only [lpD, loopD, lpK, lpS, Res.bind]
  cases setTg tg d ρ <;> rfl
theorem q_lpS {body : DSs} {ρ' : DEnv} : lpS C body (.ok ρ') = evalSs C body ρ' := rfl
theorem q_lpKn {tg : Tg} {ws : List Nat} {body : DSs} {ds : List PyData} {ρ' : DEnv} : lpK C tg ws body ds (.ok (.next ρ')) = lpD C tg ws body ds (wipeE ρ' ws) := rfl
theorem q_lpKr {tg : Tg} {ws : List Nat} {body : DSs} {ds : List PyData} {d : PyData} : lpK C tg ws body ds (.ok (.ret d)) = .ok (.ret d) := rfl
theorem q_lpKe {tg : Tg} {ws : List Nat} {body : DSs} {ds : List PyData} {c : String} {d : PyData} : lpK C tg ws body ds (.exc c d) = .exc c d := rfl
theorem q_lpKi {tg : Tg} {ws : List Nat} {body : DSs} {ds : List PyData} {p : Prop} [Decidable p] {a b : Res Flw} : lpK C tg ws body ds (if p then a else b) = if p then lpK C tg ws body ds a else lpK C tg ws body ds b := by split <;> rfl
theorem q_frzo {i : Nat} {d : PyData} : frz i ρ (.own d) = ρ.set i (.val d) := rfl
theorem q_frzv {i : Nat} {d : PyData} : frz i ρ (.val d) = ρ := rfl
theorem q_slotV {d : PyData} : slotV (.val d) = .ok d := rfl
theorem q_slotLv {d : PyData} : slotL (.val d) = .ok d := rfl
theorem q_slotLo {d : PyData} : slotL (.own d) = .ok d := rfl
theorem q_optV {d : PyData} : optV (some d) = .ok d := rfl
theorem q_outr {d : PyData} : outF (.ok (.ret d)) = .ok d := rfl
theorem q_outn  : outF (.ok (.next ρ)) = .ok .none := rfl
theorem q_oute {c : String} {d : PyData} : outF (.exc c d) = .exc c d := rfl
theorem q_outi {p : Prop} [Decidable p] {a b : Res Flw} : outF (if p then a else b) = if p then outF a else outF b := by split <;> rfl
theorem q_w0  : wipeE ρ [] = ρ := rfl
theorem q_w1 {v : Nat} {vs : List Nat} : wipeE ρ (v :: vs) = (wipeE ρ vs).set v .un := rfl
theorem q_sa0  : setAll [] [] ρ = .ok ρ := rfl
theorem q_sa1 {i : Nat} {is : List Nat} {d : PyData} {ds : List PyData} : setAll (i :: is) (d :: ds) ρ = setAll is ds (ρ.set i (.val d)) := rfl
theorem q_stn {i : Nat} {d : PyData} : setTg (.name i) d ρ = .ok (ρ.set i (.val d)) := rfl
theorem q_stt {is : List Nat} {ds : List PyData} : setTg (.tup is) (.tuple ds) ρ = setAll is ds ρ := rfl
theorem q_tgn {i : Nat} : tgSlots (.name i) = [i] := rfl
theorem q_tgt {is : List Nat} : tgSlots (.tup is) = is := rfl
theorem q_eint {i : Int} : evalE C (.int i) ρ = .ok (.int i) := rfl
theorem q_ebl {i : Bool} : evalE C (.bl i) ρ = .ok (.bool i) := rfl
theorem q_enon  : evalE C .non ρ = .ok .none := rfl
theorem q_estr {i : Str} : evalE C (.str i) ρ = .ok (.str i) := rfl
theorem q_evar {i : Nat} : evalE C (.var i) ρ = slotV (ρ.getD i .un) := by
  simp only [evalE]
  cases ρ.getD i .un <;> rfl
theorem q_eglob {x : Str} : evalE (ctxOf G n) (.glob x) ρ = optV (G.consts.lookup x) := by
  simp only [evalE, ctxOf]
  cases G.consts.lookup x <;> rfl
theorem q_etup {es : DEs} : evalE C (.tup es) ρ = mkT (evalEs C es ρ) := rfl
theorem q_elst {es : DEs} : evalE C (.lst es) ρ = mkL (evalEs C es ρ) := rfl
theorem q_ebin {op : BOp} {a b : DE} : evalE C (.bin op a b) ρ = b2 (binD op) (opd C a ρ) (opd C b ρ) := rfl
theorem q_eneg {a : DE} : evalE C (.neg a) ρ = b1 negD (opd C a ρ) := rfl
theorem q_enot {a : DE} : evalE C (.not a) ρ = notK (evalE C a ρ) := rfl
theorem q_eand {es : DEs} : evalE C (.and es) ρ = evalAnd C es ρ := rfl
theorem q_eor {es : DEs} : evalE C (.or es) ρ = evalOr C es ρ := rfl
theorem q_and1 {e : DE} : evalAnd C (.cons e .nil) ρ = evalE C e ρ := rfl
theorem q_and2 {a b : DE} {es : DEs} : evalAnd C (.cons a (.cons b es)) ρ = andK (evalE C a ρ) (evalAnd C (.cons b es) ρ) := rfl
theorem q_or1 {e : DE} : evalOr C (.cons e .nil) ρ = evalE C e ρ := rfl
theorem q_or2 {a b : DE} {es : DEs} : evalOr C (.cons a (.cons b es)) ρ = orK (evalE C a ρ) (evalOr C (.cons b es) ρ) := rfl
theorem q_ecmp {op : COp} {a b : DE} : evalE C (.cmp op a b) ρ = b2 (cmpD op) (opd C a ρ) (opd C b ρ) := rfl
theorem q_echain3 {op op' op'' : COp} {a b c d : DE} : evalE C (.chain3 op op' op'' a b c d) ρ = chainK3 op op' op'' (opd C a ρ) (opd C b ρ) (opd C c ρ) (opd C d ρ) := rfl
theorem q_echain {op op' : COp} {a b c : DE} : evalE C (.chain op op' a b c) ρ = chainK op op' (opd C a ρ) (opd C b ρ) (opd C c ρ) := rfl
theorem q_ecall {f : Str} {es : DEs} : evalE (ctxOf G n) (.call f es) ρ = bL (callD G n f) (evalEs (ctxOf G n) es ρ) := rfl
theorem q_etold {f : Str} {es : DEs} : evalE (ctxOf G n) (.told f es) ρ = toldD (bL (lowD G n f) (evalEs (ctxOf G n) es ρ)) := rfl
theorem q_told1 {d : PyData} : toldD (.ok d) = .ok (.tuple [.str "told", d]) := rfl
theorem q_told2 : toldD (.exc "NoText" .none) = .ok (.tuple [.str "refused", .int 0]) := rfl
theorem q_told3 : toldD (.exc "NoPart" .none) = .ok (.tuple [.str "refused", .int 1]) := rfl
theorem q_told4 : toldD (.exc "NoFit" .none) = .ok (.tuple [.str "refused", .int 2]) := rfl
theorem q_low59 : lowD G 59 = callD G 57 := rfl
theorem q_otold {f : Str} {es : DEs} : opd C (.told f es) ρ = evalE C (.told f es) ρ := rfl
theorem q_eblt {f : Blt} {es : DEs} : evalE C (.blt f es) ρ = bL (bltD f) (evalBs C es ρ) := rfl
theorem q_eisi {a : DE} {t : Ty} : evalE C (.isi a t) ρ = b1 (isiV t) (opd C a ρ) := rfl
theorem q_eidx {a b : DE} : evalE C (.idx a b) ρ = b2 idxD (opd C a ρ) (opd C b ρ) := rfl
theorem q_eslc {a l h : DE} : evalE C (.slc a l h) ρ = slcK (opd C a ρ) (partD l (evalE C l ρ)) (partD h (evalE C h ρ)) := rfl
theorem q_erev {a : DE} : evalE C (.rev a) ρ = b1 revD (opd C a ρ) := rfl
theorem q_ecomp {elt : DE} {tg : Tg} {it : DI} {cs : DEs} : evalE C (.comp elt tg it cs) ρ = mkL (cmplK C cs elt tg (wipeE ρ (tgSlots tg)) (evalIt C it ρ)) := by
  simp only [evalE, mkL, cmplK]
  cases evalIt C it ρ <;> rfl
theorem q_es0  : evalEs C .nil ρ = .ok [] := rfl
theorem q_es1 {e : DE} {es : DEs} : evalEs C (.cons e es) ρ = cons2 (evalE C e ρ) (evalEs C es ρ) := rfl
theorem q_bs0  : evalBs C .nil ρ = .ok [] := rfl
theorem q_bs1 {e : DE} {es : DEs} : evalBs C (.cons e es) ρ = cons2 (opd C e ρ) (evalBs C es ρ) := rfl
theorem q_t0  : evalT C .nil ρ = .ok true := rfl
theorem q_t1 {e : DE} {es : DEs} : evalT C (.cons e es) ρ = tK (evalE C e ρ) (evalT C es ρ) := rfl
theorem q_iplain {e : DE} : evalIt C (.plain e) ρ = b1 itemsD (opd C e ρ) := rfl
theorem q_irng {e : DE} : evalIt C (.rng e) ρ = b1 rngD (evalE C e ρ) := rfl
theorem q_irng2 {a b : DE} : evalIt C (.rng2 a b) ρ = b2 rng2D (evalE C a ρ) (evalE C b ρ) := rfl
theorem q_fplain {e : DE} : evalItF C (.plain e) ρ = b1 itemsD (opd C e ρ) := rfl
theorem q_frng {e : DE} : evalItF C (.rng e) ρ = b1 rngD (evalE C e ρ) := rfl
theorem q_frng2 {a b : DE} : evalItF C (.rng2 a b) ρ = b2 rng2D (evalE C a ρ) (evalE C b ρ) := rfl
theorem q_ienum {e : DE} : evalIt C (.enum e) ρ = b1 enumIt (opd C e ρ) := rfl
theorem q_izip {a b : DE} : evalIt C (.zip a b) ρ = b2 zipIt (opd C a ρ) (opd C b ρ) := rfl
theorem q_irev {e : DE} : evalIt C (.rev e) ρ = b1 revIt (opd C e ρ) := rfl
theorem q_fenum {e : DE} : evalItF C (.enum e) ρ = b1 enumIt (evalE C e ρ) := rfl
theorem q_fzip {a b : DE} : evalItF C (.zip a b) ρ = b2 zipIt (evalE C a ρ) (evalE C b ρ) := rfl
theorem q_frev {e : DE} : evalItF C (.rev e) ρ = b1 revIt (evalE C e ρ) := rfl
theorem q_ovar {i : Nat} : opd C (.var i) ρ = slotL (ρ.getD i .un) := by
  simp only [opd, brw, look]
  cases ρ.getD i .un <;> rfl
theorem q_oint {i : Int} : opd C (.int i) ρ = evalE C (.int i) ρ := rfl
theorem q_obl {i : Bool} : opd C (.bl i) ρ = evalE C (.bl i) ρ := rfl
theorem q_onon  : opd C .non ρ = evalE C .non ρ := rfl
theorem q_ostr {i : Str} : opd C (.str i) ρ = evalE C (.str i) ρ := rfl
theorem q_oglob {x : Str} : opd C (.glob x) ρ = evalE C (.glob x) ρ := rfl
theorem q_otup {es : DEs} : opd C (.tup es) ρ = evalE C (.tup es) ρ := rfl
theorem q_olst {es : DEs} : opd C (.lst es) ρ = evalE C (.lst es) ρ := rfl
theorem q_obin {o : BOp} {a b : DE} : opd C (.bin o a b) ρ = evalE C (.bin o a b) ρ := rfl
theorem q_oneg {a : DE} : opd C (.neg a) ρ = evalE C (.neg a) ρ := rfl
theorem q_onot {a : DE} : opd C (.not a) ρ = evalE C (.not a) ρ := rfl
theorem q_oand {es : DEs} : opd C (.and es) ρ = evalE C (.and es) ρ := rfl
theorem q_oor {es : DEs} : opd C (.or es) ρ = evalE C (.or es) ρ := rfl
theorem q_ocmp {o : COp} {a b : DE} : opd C (.cmp o a b) ρ = evalE C (.cmp o a b) ρ := rfl
theorem q_ochain {o o' : COp} {a b c : DE} : opd C (.chain o o' a b c) ρ = evalE C (.chain o o' a b c) ρ := rfl
theorem q_ochain3 {o o' o'' : COp} {a b c d : DE} : opd C (.chain3 o o' o'' a b c d) ρ = evalE C (.chain3 o o' o'' a b c d) ρ := rfl
theorem q_ocall {f : Str} {es : DEs} : opd C (.call f es) ρ = evalE C (.call f es) ρ := rfl
theorem q_oblt {f : Blt} {es : DEs} : opd C (.blt f es) ρ = evalE C (.blt f es) ρ := rfl
theorem q_oisi {a : DE} {t : Ty} : opd C (.isi a t) ρ = evalE C (.isi a t) ρ := rfl
theorem q_oidx {a b : DE} : opd C (.idx a b) ρ = evalE C (.idx a b) ρ := rfl
theorem q_oslc {a b c : DE} : opd C (.slc a b c) ρ = evalE C (.slc a b c) ρ := rfl
theorem q_orev {a : DE} : opd C (.rev a) ρ = evalE C (.rev a) ρ := rfl
theorem q_ometh {a : DE} {m : Str} {es : DEs} : opd C (.meth a m es) ρ = evalE C (.meth a m es) ρ := rfl
theorem q_ocomp {a : DE} {tg : Tg} {it : DI} {cs : DEs} : opd C (.comp a tg it cs) ρ = evalE C (.comp a tg it cs) ρ := rfl
theorem q_odctget {ks : List Str} {es : DEs} {k d : DE} : opd C (.dctget ks es k d) ρ = evalE C (.dctget ks es k d) ρ := rfl
theorem q_odctidx {ks : List Str} {es : DEs} {k : DE} : opd C (.dctidx ks es k) ρ = evalE C (.dctidx ks es k) ρ := rfl
theorem q_pint {i : Int} {k : Int} : partD (.int i) (.ok (.int k)) = .ok (some k) := rfl
theorem q_pnon {r : Res PyData} : partD .non r = .ok none := rfl
theorem q_pglob {x : Str} {k : Int} : partD (.glob x) (.ok (.int k)) = .ok (some k) := rfl
theorem q_pbin {o : BOp} {a b : DE} {k : Int} : partD (.bin o a b) (.ok (.int k)) = .ok (some k) := rfl
theorem q_pneg {a : DE} {k : Int} : partD (.neg a) (.ok (.int k)) = .ok (some k) := rfl
theorem q_pcall {f : Str} {es : DEs} {k : Int} : partD (.call f es) (.ok (.int k)) = .ok (some k) := rfl
theorem q_pblt {f : Blt} {es : DEs} {k : Int} : partD (.blt f es) (.ok (.int k)) = .ok (some k) := rfl
theorem q_pidx {a b : DE} {k : Int} : partD (.idx a b) (.ok (.int k)) = .ok (some k) := rfl
theorem q_pvar {i : Nat} {k : Int} : partD (.var i) (.ok (.int k)) = .ok (some k) := rfl
theorem q_ss0  : evalSs C .nil ρ = .ok (.next ρ) := rfl
theorem q_ss1 {s : DS} {ss : DSs} : evalSs C (.cons s ss) ρ = seqK C ss (evalS C s ρ) := rfl
theorem q_sasg {i : Nat} {e : DE} : evalS C (.asg i e) ρ = asgK i ρ (evalE C e ρ) := rfl
theorem q_sasgOlst {i : Nat} {es : DEs} : evalS C (.asgO i (.lst es)) ρ = asgOK i ρ (evalE C (.lst es) ρ) := by
  simp only [evalS, isFresh, asgOK]; try rfl
theorem q_sasgOcomp {i : Nat} {a : DE} {tg : Tg} {it : DI} {cs : DEs} : evalS C (.asgO i (.comp a tg it cs)) ρ = asgOK i ρ (evalE C (.comp a tg it cs) ρ) := by
  simp only [evalS, isFresh, asgOK]; try rfl
theorem q_sasgObin {i : Nat} {o : BOp} {a b : DE} : evalS C (.asgO i (.bin o a b)) ρ = asgOK i ρ (evalE C (.bin o a b) ρ) := by
  simp only [evalS, isFresh, asgOK]; try rfl
theorem q_sasgOslc {i : Nat} {a b c : DE} : evalS C (.asgO i (.slc a b c)) ρ = asgOK i ρ (evalE C (.slc a b c) ρ) := by
  simp only [evalS, isFresh, asgOK]; try rfl
theorem q_sasgOrev {i : Nat} {a : DE} : evalS C (.asgO i (.rev a)) ρ = asgOK i ρ (evalE C (.rev a) ρ) := by
  simp only [evalS, isFresh, asgOK]; try rfl
theorem q_sasgOlist {i : Nat} {es : DEs} : evalS C (.asgO i (.blt .list es)) ρ = asgOK i ρ (evalE C (.blt .list es) ρ) := by
  simp only [evalS, isFresh, asgOK]; try rfl
theorem q_sasgOsorted {i : Nat} {es : DEs} : evalS C (.asgO i (.blt .sorted es)) ρ = asgOK i ρ (evalE C (.blt .sorted es) ρ) := by
  simp only [evalS, isFresh, asgOK]; try rfl
theorem q_sunp {is : List Nat} {e : DE} : evalS C (.unp is e) ρ = unpK is ρ (evalE C e ρ) := rfl
theorem q_sunpL {is : List Nat} {e : DE} : evalS C (.unpL is e) ρ = unpLK is ρ (evalE C e ρ) := rfl
theorem q_spar {i j : Nat} {a b : DE} : evalS C (.par i j a b) ρ = parK i j ρ (evalE C a ρ) (evalE C b ρ) := rfl
theorem q_sexpr {e : DE} : evalS C (.expr e) ρ = exprK ρ (evalE C e ρ) := rfl
theorem q_sapp {i : Nat} {e : DE} : evalS C (.app i e) ρ = appK i ρ (ρ.getD i .un) (evalE C e ρ) := by
  simp only [evalS, appK]
  try (rcases ρ.getD i .un with _ | _ | d <;> first | rfl | (cases d <;> rfl))
theorem q_sext {i : Nat} {e : DE} : evalS C (.ext i e) ρ = extK i ρ (ρ.getD i .un) (evalE C e ρ) := by
  simp only [evalS, extK]
  try (rcases ρ.getD i .un with _ | _ | d <;> first | rfl | (cases d <;> rfl))
theorem q_sret {e : DE} : evalS C (.ret e) ρ = retK (evalE C e ρ) := rfl
theorem q_sretO {i : Nat} : evalS C (.retO i) ρ = retOK (ρ.getD i .un) := by
  simp only [evalS, retOK]
  try (cases ρ.getD i .un <;> rfl)
theorem q_site {c : DE} {a b : DSs} : evalS C (.ite c a b) ρ = iteK C a b ρ (evalE C c ρ) := rfl
theorem q_sfor {tg : Tg} {it : DI} {ws : List Nat} {body : DSs} : evalS C (.forr tg it ws body) ρ = forK C tg ws body (wipeE (freezeIt it ρ) ws) (evalItF C it ρ) := rfl
theorem q_spass  : evalS C .pass ρ = .ok (.next ρ) := rfl
theorem q_zvar {i : Nat} : freezeIt (.plain (.var i)) ρ = frz i ρ (ρ.getD i .un) := by
  simp only [freezeIt]
  cases ρ.getD i .un <;> rfl
theorem q_zint {i : Int} : freezeIt (.plain (.int i)) ρ = ρ := rfl
theorem q_zbl {i : Bool} : freezeIt (.plain (.bl i)) ρ = ρ := rfl
theorem q_znon  : freezeIt (.plain .non) ρ = ρ := rfl
theorem q_zstr {i : Str} : freezeIt (.plain (.str i)) ρ = ρ := rfl
theorem q_zglob {x : Str} : freezeIt (.plain (.glob x)) ρ = ρ := rfl
theorem q_ztup {es : DEs} : freezeIt (.plain (.tup es)) ρ = ρ := rfl
theorem q_zlst {es : DEs} : freezeIt (.plain (.lst es)) ρ = ρ := rfl
theorem q_zbin {o : BOp} {a b : DE} : freezeIt (.plain (.bin o a b)) ρ = ρ := rfl
theorem q_zneg {a : DE} : freezeIt (.plain (.neg a)) ρ = ρ := rfl
theorem q_znot {a : DE} : freezeIt (.plain (.not a)) ρ = ρ := rfl
theorem q_zand {es : DEs} : freezeIt (.plain (.and es)) ρ = ρ := rfl
theorem q_zor {es : DEs} : freezeIt (.plain (.or es)) ρ = ρ := rfl
theorem q_zcmp {o : COp} {a b : DE} : freezeIt (.plain (.cmp o a b)) ρ = ρ := rfl
theorem q_zchain {o o' : COp} {a b c : DE} : freezeIt (.plain (.chain o o' a b c)) ρ = ρ := rfl
theorem q_zchain3 {o o' o'' : COp} {a b c d : DE} : freezeIt (.plain (.chain3 o o' o'' a b c d)) ρ = ρ := rfl
theorem q_zcall {f : Str} {es : DEs} : freezeIt (.plain (.call f es)) ρ = ρ := rfl
theorem q_zblt {f : Blt} {es : DEs} : freezeIt (.plain (.blt f es)) ρ = ρ := rfl
theorem q_zisi {a : DE} {t : Ty} : freezeIt (.plain (.isi a t)) ρ = ρ := rfl
theorem q_zidx {a b : DE} : freezeIt (.plain (.idx a b)) ρ = ρ := rfl
theorem q_zslc {a b c : DE} : freezeIt (.plain (.slc a b c)) ρ = ρ := rfl
theorem q_zrev {a : DE} : freezeIt (.plain (.rev a)) ρ = ρ := rfl
theorem q_zmeth {a : DE} {m : Str} {es : DEs} : freezeIt (.plain (.meth a m es)) ρ = ρ := rfl
theorem q_zcomp {a : DE} {tg : Tg} {it : DI} {cs : DEs} : freezeIt (.plain (.comp a tg it cs)) ρ = ρ := rfl
theorem q_zdctget {ks : List Str} {es : DEs} {k d : DE} : freezeIt (.plain (.dctget ks es k d)) ρ = ρ := rfl
theorem q_zdctidx {ks : List Str} {es : DEs} {k : DE} : freezeIt (.plain (.dctidx ks es k)) ρ = ρ := rfl
theorem q_zrng {e : DE} : freezeIt (.rng e) ρ = ρ := rfl
theorem q_zrng2 {a b : DE} : freezeIt (.rng2 a b) ρ = ρ := rfl
theorem q_zenum {e : DE} : freezeIt (.enum e) ρ = ρ := rfl
theorem q_zzip {a b : DE} : freezeIt (.zip a b) ρ = ρ := rfl
theorem q_zirev {e : DE} : freezeIt (.rev e) ρ = ρ := rfl
theorem q_add {i j : Int} : binD .add (.int i) (.int j) = .ok (.int (i + j)) := rfl
theorem q_sub {i j : Int} : binD .sub (.int i) (.int j) = .ok (.int (i - j)) := rfl
theorem q_mulR {i j : Int} (h1 : -18446744073709551616 < j) (h2 : j < 18446744073709551616) : binD .mul (.int i) (.int j) = .ok (.int (i * j)) := by
  have : (-(2 ^ 64) < i ∧ i < 2 ^ 64) ∨ (-(2 ^ 64) < j ∧ j < 2 ^ 64) := .inr ⟨by omega, by omega⟩
  simp only [binD, mulD]
  rw [if_pos this]
theorem q_mulL {i j : Int} (h1 : -18446744073709551616 < i) (h2 : i < 18446744073709551616) : binD .mul (.int i) (.int j) = .ok (.int (i * j)) := by
  have : (-(2 ^ 64) < i ∧ i < 2 ^ 64) ∨ (-(2 ^ 64) < j ∧ j < 2 ^ 64) := .inl ⟨by omega, by omega⟩
  simp only [binD, mulD]
  rw [if_pos this]
theorem q_fdiv {i j : Int} (h1 : 0 < j) (h2 : j < 1073741824) : binD .fdiv (.int i) (.int j) = .ok (.int (i / j)) := by simp [binD, fdivD, h1, h2]
theorem q_mod {i j : Int} (h1 : 0 < j) : binD .mod (.int i) (.int j) = .ok (.int (i % j)) := by simp [binD, modD, h1]
theorem q_neg {i : Int} : negD (.int i) = .ok (.int (-i)) := rfl
theorem o_addT {xs ys : List PyData} (h : xs.length + ys.length ≤ 1000000) : binD .add (.tuple xs) (.tuple ys) = .ok (.tuple (xs ++ ys)) := by simp [binD, addD, LIM, h]
theorem o_addL {xs ys : List PyData} (h : xs.length + ys.length ≤ 1000000) : binD .add (.list xs) (.list ys) = .ok (.list (xs ++ ys)) := by simp [binD, addD, LIM, h]
theorem q_cI {i j : Int} : cmpD .eq (.int i) (.int j) = .ok (.bool (decide (i = j))) := by
  simp only [cmpD, cmpB]
  rw [if_pos (by simp [eqok, nd, PyData.depth])]; simp only [PyData.eqv]; rfl
theorem q_cnI {i j : Int} : cmpD .ne (.int i) (.int j) = .ok (.bool (!decide (i = j))) := by
  simp only [cmpD, cmpB]
  rw [if_pos (by simp [eqok, nd, PyData.depth])]; simp only [PyData.eqv]; rfl
theorem q_cS {i j : Str} : cmpD .eq (.str i) (.str j) = .ok (.bool (decide (i = j))) := by
  simp only [cmpD, cmpB]
  rw [if_pos (by simp [eqok, nd, PyData.depth])]; simp only [PyData.eqv]; rfl
theorem q_cnS {i j : Str} : cmpD .ne (.str i) (.str j) = .ok (.bool (!decide (i = j))) := by
  simp only [cmpD, cmpB]
  rw [if_pos (by simp [eqok, nd, PyData.depth])]; simp only [PyData.eqv]; rfl
theorem q_cB {i j : Bool} : cmpD .eq (.bool i) (.bool j) = .ok (.bool (decide (i = j))) := by
  simp only [cmpD, cmpB]
  rw [if_pos (by simp [eqok, nd, PyData.depth])]; simp only [PyData.eqv]; cases i <;> cases j <;> rfl
theorem q_cnB {i j : Bool} : cmpD .ne (.bool i) (.bool j) = .ok (.bool (!decide (i = j))) := by
  simp only [cmpD, cmpB]
  rw [if_pos (by simp [eqok, nd, PyData.depth])]; simp only [PyData.eqv]; cases i <;> cases j <;> rfl
theorem q_clt {i j : Int} : cmpD .lt (.int i) (.int j) = .ok (.bool (decide (i < j))) := rfl
theorem q_cle {i j : Int} : cmpD .le (.int i) (.int j) = .ok (.bool (decide (i ≤ j))) := rfl
theorem q_cgt {i j : Int} : cmpD .gt (.int i) (.int j) = .ok (.bool (decide (j < i))) := rfl
theorem q_cge {i j : Int} : cmpD .ge (.int i) (.int j) = .ok (.bool (decide (j ≤ i))) := rfl
theorem q_isN  : cmpD .is .none .none = .ok (.bool true) := rfl
theorem q_isnN  : cmpD .isn .none .none = .ok (.bool false) := rfl
theorem q_ist {xs : List PyData} : cmpD .is (.tuple xs) .none = .ok (.bool false) := rfl
theorem q_isnt {xs : List PyData} : cmpD .isn (.tuple xs) .none = .ok (.bool true) := rfl
theorem q_isl {xs : List PyData} : cmpD .is (.list xs) .none = .ok (.bool false) := rfl
theorem q_isnl {xs : List PyData} : cmpD .isn (.list xs) .none = .ok (.bool true) := rfl
theorem q_isi {i : Int} : cmpD .is (.int i) .none = .ok (.bool false) := rfl
theorem q_isni {i : Int} : cmpD .isn (.int i) .none = .ok (.bool true) := rfl
theorem q_iss {i : Str} : cmpD .is (.str i) .none = .ok (.bool false) := rfl
theorem q_isns {i : Str} : cmpD .isn (.str i) .none = .ok (.bool true) := rfl
theorem q_isb {i : Bool} : cmpD .is (.bool i) .none = .ok (.bool false) := rfl
theorem q_isnb {i : Bool} : cmpD .isn (.bool i) .none = .ok (.bool true) := rfl
theorem q_ixt0 {a0 : PyData} {as : List PyData} : idxD (.tuple (a0 :: as)) (.int 0) = .ok a0 := by simp [idxD, L2.atI, L2.ixN]; try omega
theorem q_ixl0 {a0 : PyData} {as : List PyData} : idxD (.list (a0 :: as)) (.int 0) = .ok a0 := by simp [idxD, L2.atI, L2.ixN]; try omega
theorem q_ixt1 {a0 a1 : PyData} {as : List PyData} : idxD (.tuple (a0 :: a1 :: as)) (.int 1) = .ok a1 := by
  simp [idxD, L2.atI, L2.ixN]; rw [if_pos (by omega)]; rfl
theorem q_ixl1 {a0 a1 : PyData} {as : List PyData} : idxD (.list (a0 :: a1 :: as)) (.int 1) = .ok a1 := by
  simp [idxD, L2.atI, L2.ixN]; rw [if_pos (by omega)]; rfl
theorem q_ixt2 {a0 a1 a2 : PyData} {as : List PyData} : idxD (.tuple (a0 :: a1 :: a2 :: as)) (.int 2) = .ok a2 := by
  simp [idxD, L2.atI, L2.ixN]; rw [if_pos (by omega)]; rfl
theorem q_ixl2 {a0 a1 a2 : PyData} {as : List PyData} : idxD (.list (a0 :: a1 :: a2 :: as)) (.int 2) = .ok a2 := by
  simp [idxD, L2.atI, L2.ixN]; rw [if_pos (by omega)]; rfl
theorem q_ixt3 {a0 a1 a2 a3 : PyData} {as : List PyData} : idxD (.tuple (a0 :: a1 :: a2 :: a3 :: as)) (.int 3) = .ok a3 := by
  simp [idxD, L2.atI, L2.ixN]; rw [if_pos (by omega)]; rfl
theorem q_ixl3 {a0 a1 a2 a3 : PyData} {as : List PyData} : idxD (.list (a0 :: a1 :: a2 :: a3 :: as)) (.int 3) = .ok a3 := by
  simp [idxD, L2.atI, L2.ixN]; rw [if_pos (by omega)]; rfl
theorem q_ixt4 {a0 a1 a2 a3 a4 : PyData} {as : List PyData} : idxD (.tuple (a0 :: a1 :: a2 :: a3 :: a4 :: as)) (.int 4) = .ok a4 := by
  simp [idxD, L2.atI, L2.ixN]; rw [if_pos (by omega)]; rfl
theorem q_ixl4 {a0 a1 a2 a3 a4 : PyData} {as : List PyData} : idxD (.list (a0 :: a1 :: a2 :: a3 :: a4 :: as)) (.int 4) = .ok a4 := by
  simp [idxD, L2.atI, L2.ixN]; rw [if_pos (by omega)]; rfl
theorem q_ixt5 {a0 a1 a2 a3 a4 a5 : PyData} {as : List PyData} : idxD (.tuple (a0 :: a1 :: a2 :: a3 :: a4 :: a5 :: as)) (.int 5) = .ok a5 := by
  simp [idxD, L2.atI, L2.ixN]; rw [if_pos (by omega)]; rfl
theorem q_ixl5 {a0 a1 a2 a3 a4 a5 : PyData} {as : List PyData} : idxD (.list (a0 :: a1 :: a2 :: a3 :: a4 :: a5 :: as)) (.int 5) = .ok a5 := by
  simp [idxD, L2.atI, L2.ixN]; rw [if_pos (by omega)]; rfl
theorem q_ixt6 {a0 a1 a2 a3 a4 a5 a6 : PyData} {as : List PyData} : idxD (.tuple (a0 :: a1 :: a2 :: a3 :: a4 :: a5 :: a6 :: as)) (.int 6) = .ok a6 := by
  simp [idxD, L2.atI, L2.ixN]; rw [if_pos (by omega)]; rfl
theorem q_ixl6 {a0 a1 a2 a3 a4 a5 a6 : PyData} {as : List PyData} : idxD (.list (a0 :: a1 :: a2 :: a3 :: a4 :: a5 :: a6 :: as)) (.int 6) = .ok a6 := by
  simp [idxD, L2.atI, L2.ixN]; rw [if_pos (by omega)]; rfl
theorem q_ixt7 {a0 a1 a2 a3 a4 a5 a6 a7 : PyData} {as : List PyData} : idxD (.tuple (a0 :: a1 :: a2 :: a3 :: a4 :: a5 :: a6 :: a7 :: as)) (.int 7) = .ok a7 := by
  simp [idxD, L2.atI, L2.ixN]; rw [if_pos (by omega)]; rfl
theorem q_ixl7 {a0 a1 a2 a3 a4 a5 a6 a7 : PyData} {as : List PyData} : idxD (.list (a0 :: a1 :: a2 :: a3 :: a4 :: a5 :: a6 :: a7 :: as)) (.int 7) = .ok a7 := by
  simp [idxD, L2.atI, L2.ixN]; rw [if_pos (by omega)]; rfl
theorem q_ixt8 {a0 a1 a2 a3 a4 a5 a6 a7 a8 : PyData} {as : List PyData} : idxD (.tuple (a0 :: a1 :: a2 :: a3 :: a4 :: a5 :: a6 :: a7 :: a8 :: as)) (.int 8) = .ok a8 := by
  simp [idxD, L2.atI, L2.ixN]; rw [if_pos (by omega)]; rfl
theorem q_ixl8 {a0 a1 a2 a3 a4 a5 a6 a7 a8 : PyData} {as : List PyData} : idxD (.list (a0 :: a1 :: a2 :: a3 :: a4 :: a5 :: a6 :: a7 :: a8 :: as)) (.int 8) = .ok a8 := by
  simp [idxD, L2.atI, L2.ixN]; rw [if_pos (by omega)]; rfl
theorem q_lent0  : bltD .len [.tuple []] = .ok (.int 0) := rfl
theorem q_lenl0  : bltD .len [.list []] = .ok (.int 0) := rfl
theorem q_lent1 {a0 : PyData} : bltD .len [.tuple [a0]] = .ok (.int 1) := rfl
theorem q_lenl1 {a0 : PyData} : bltD .len [.list [a0]] = .ok (.int 1) := rfl
theorem q_lent2 {a0 a1 : PyData} : bltD .len [.tuple [a0, a1]] = .ok (.int 2) := rfl
theorem q_lenl2 {a0 a1 : PyData} : bltD .len [.list [a0, a1]] = .ok (.int 2) := rfl
theorem q_lent3 {a0 a1 a2 : PyData} : bltD .len [.tuple [a0, a1, a2]] = .ok (.int 3) := rfl
theorem q_lenl3 {a0 a1 a2 : PyData} : bltD .len [.list [a0, a1, a2]] = .ok (.int 3) := rfl
theorem q_lent4 {a0 a1 a2 a3 : PyData} : bltD .len [.tuple [a0, a1, a2, a3]] = .ok (.int 4) := rfl
theorem q_lenl4 {a0 a1 a2 a3 : PyData} : bltD .len [.list [a0, a1, a2, a3]] = .ok (.int 4) := rfl
theorem q_lent5 {a0 a1 a2 a3 a4 : PyData} : bltD .len [.tuple [a0, a1, a2, a3, a4]] = .ok (.int 5) := rfl
theorem q_lenl5 {a0 a1 a2 a3 a4 : PyData} : bltD .len [.list [a0, a1, a2, a3, a4]] = .ok (.int 5) := rfl
theorem q_lent6 {a0 a1 a2 a3 a4 a5 : PyData} : bltD .len [.tuple [a0, a1, a2, a3, a4, a5]] = .ok (.int 6) := rfl
theorem q_lenl6 {a0 a1 a2 a3 a4 a5 : PyData} : bltD .len [.list [a0, a1, a2, a3, a4, a5]] = .ok (.int 6) := rfl
theorem q_lent7 {a0 a1 a2 a3 a4 a5 a6 : PyData} : bltD .len [.tuple [a0, a1, a2, a3, a4, a5, a6]] = .ok (.int 7) := rfl
theorem q_lenl7 {a0 a1 a2 a3 a4 a5 a6 : PyData} : bltD .len [.list [a0, a1, a2, a3, a4, a5, a6]] = .ok (.int 7) := rfl
theorem q_lent8 {a0 a1 a2 a3 a4 a5 a6 a7 : PyData} : bltD .len [.tuple [a0, a1, a2, a3, a4, a5, a6, a7]] = .ok (.int 8) := rfl
theorem q_lenl8 {a0 a1 a2 a3 a4 a5 a6 a7 : PyData} : bltD .len [.list [a0, a1, a2, a3, a4, a5, a6, a7]] = .ok (.int 8) := rfl
theorem q_lenTm {β : Type} {f : β → PyData} {xs : List β} : bltD .len [.tuple (xs.map f)] = .ok (.int xs.length) := by simp [bltD, lenD]
theorem q_lenLm {β : Type} {f : β → PyData} {xs : List β} : bltD .len [.list (xs.map f)] = .ok (.int xs.length) := by simp [bltD, lenD]
theorem q_bint {i : Int} : bltD .int [.int i] = .ok (.int i) := rfl
theorem q_bintb {b : Bool} : bltD .int [.bool b] = .ok (.int (if b = true then 1 else 0)) := rfl
theorem q_babs {i : Int} : bltD .abs [.int i] = .ok (.int (if i < 0 then -i else i)) := rfl
theorem q_blst {xs : List PyData} : bltD .list [.list xs] = .ok (.list xs) := rfl
theorem q_blstT {xs : List PyData} : bltD .list [.tuple xs] = .ok (.list xs) := rfl
theorem q_btup {xs : List PyData} : bltD .tuple [.list xs] = .ok (.tuple xs) := rfl
theorem q_btupT {xs : List PyData} : bltD .tuple [.tuple xs] = .ok (.tuple xs) := rfl
theorem q_bmin {i j : Int} : bltD .min [.int i, .int j] = .ok (.int (if j < i then j else i)) := rfl
theorem q_bmax {i j : Int} : bltD .max [.int i, .int j] = .ok (.int (if j > i then j else i)) := rfl
theorem q_isi_int_int {i : Int} : isiV .int (.int i) = .ok (.bool true) := rfl
theorem q_isi_int_bool {i : Bool} : isiV .int (.bool i) = .ok (.bool true) := rfl
theorem q_isi_int_str {i : Str} : isiV .int (.str i) = .ok (.bool false) := rfl
theorem q_isi_int_tuple {xs : List PyData} : isiV .int (.tuple xs) = .ok (.bool false) := rfl
theorem q_isi_int_list {xs : List PyData} : isiV .int (.list xs) = .ok (.bool false) := rfl
theorem q_isi_int_none  : isiV .int .none = .ok (.bool false) := rfl
theorem q_isi_bool_int {i : Int} : isiV .bool (.int i) = .ok (.bool false) := rfl
theorem q_isi_bool_bool {i : Bool} : isiV .bool (.bool i) = .ok (.bool true) := rfl
theorem q_isi_bool_str {i : Str} : isiV .bool (.str i) = .ok (.bool false) := rfl
theorem q_isi_bool_tuple {xs : List PyData} : isiV .bool (.tuple xs) = .ok (.bool false) := rfl
theorem q_isi_bool_list {xs : List PyData} : isiV .bool (.list xs) = .ok (.bool false) := rfl
theorem q_isi_bool_none  : isiV .bool .none = .ok (.bool false) := rfl
theorem q_isi_str_int {i : Int} : isiV .str (.int i) = .ok (.bool false) := rfl
theorem q_isi_str_bool {i : Bool} : isiV .str (.bool i) = .ok (.bool false) := rfl
theorem q_isi_str_str {i : Str} : isiV .str (.str i) = .ok (.bool true) := rfl
theorem q_isi_str_tuple {xs : List PyData} : isiV .str (.tuple xs) = .ok (.bool false) := rfl
theorem q_isi_str_list {xs : List PyData} : isiV .str (.list xs) = .ok (.bool false) := rfl
theorem q_isi_str_none  : isiV .str .none = .ok (.bool false) := rfl
theorem q_isi_tuple_int {i : Int} : isiV .tuple (.int i) = .ok (.bool false) := rfl
theorem q_isi_tuple_bool {i : Bool} : isiV .tuple (.bool i) = .ok (.bool false) := rfl
theorem q_isi_tuple_str {i : Str} : isiV .tuple (.str i) = .ok (.bool false) := rfl
theorem q_isi_tuple_tuple {xs : List PyData} : isiV .tuple (.tuple xs) = .ok (.bool true) := rfl
theorem q_isi_tuple_list {xs : List PyData} : isiV .tuple (.list xs) = .ok (.bool false) := rfl
theorem q_isi_tuple_none  : isiV .tuple .none = .ok (.bool false) := rfl
theorem q_isi_list_int {i : Int} : isiV .list (.int i) = .ok (.bool false) := rfl
theorem q_isi_list_bool {i : Bool} : isiV .list (.bool i) = .ok (.bool false) := rfl
theorem q_isi_list_str {i : Str} : isiV .list (.str i) = .ok (.bool false) := rfl
theorem q_isi_list_tuple {xs : List PyData} : isiV .list (.tuple xs) = .ok (.bool false) := rfl
theorem q_isi_list_list {xs : List PyData} : isiV .list (.list xs) = .ok (.bool true) := rfl
theorem q_isi_list_none  : isiV .list .none = .ok (.bool false) := rfl
theorem q_itL {xs : List PyData} : itemsD (.list xs) = .ok xs := rfl
theorem q_itT {xs : List PyData} : itemsD (.tuple xs) = .ok xs := rfl
theorem q_rng0  : rngD (.int 0) = .ok [] := rfl
theorem q_rng1  : rngD (.int 1) = .ok [.int 0] := rfl
theorem q_rng2  : rngD (.int 2) = .ok [.int 0, .int 1] := rfl
theorem q_rng3  : rngD (.int 3) = .ok [.int 0, .int 1, .int 2] := rfl
theorem q_rng4  : rngD (.int 4) = .ok [.int 0, .int 1, .int 2, .int 3] := rfl
theorem q_revL {xs : List PyData} : revD (.list xs) = .ok (.list xs.reverse) := rfl
theorem q_revT {xs : List PyData} : revD (.tuple xs) = .ok (.tuple xs.reverse) := rfl
theorem q_rvL {xs : List PyData} : revIt (.list xs) = .ok xs.reverse := rfl
theorem q_rvT {xs : List PyData} : revIt (.tuple xs) = .ok xs.reverse := rfl
theorem q_slT {xs : List PyData} {l h : Option Int} : slcD (.tuple xs) l h = .ok (.tuple (cutL xs l h)) := rfl
theorem q_slL {xs : List PyData} {l h : Option Int} : slcD (.list xs) l h = .ok (.list (cutL xs l h)) := rfl
/- refusals go through -/
theorem q_xasg {i : Nat} {c : String} {d : PyData} : asgK i ρ (.exc c d) = .exc c d := rfl
theorem q_xret {c : String} {d : PyData} : retK (.exc c d) = .exc c d := rfl
theorem q_xb1 {f : PyData → Res α} {c : String} {d : PyData} : b1 f (.exc c d) = .exc c d := rfl
theorem q_xbL {f : List PyData → Res α} {c : String} {d : PyData} : bL f (.exc c d) = .exc c d := rfl
theorem q_xb2l {f : PyData → PyData → Res α} {r : Res PyData} {c : String} {d : PyData} : b2 f (.exc c d) r = .exc c d := rfl
theorem q_xb2r {f : PyData → PyData → Res α} {x : PyData} {c : String} {d : PyData} : b2 f (.ok x) (.exc c d) = .exc c d := rfl
theorem q_xc2l {r : Res (List PyData)} {c : String} {d : PyData} : cons2 (.exc c d) r = .exc c d := rfl
theorem q_xc2r {x : PyData} {c : String} {d : PyData} : cons2 (.ok x) (.exc c d) = .exc c d := rfl
theorem q_xmkT {c : String} {d : PyData} : mkT (.exc c d) = .exc c d := rfl
theorem q_xmkL {c : String} {d : PyData} : mkL (.exc c d) = .exc c d := rfl
theorem q_xexpr {c : String} {d : PyData} : exprK ρ (.exc c d) = .exc c d := rfl
theorem q_xunp {is : List Nat} {c : String} {d : PyData} : unpK is ρ (.exc c d) = .exc c d := rfl
theorem q_xite {a b : DSs} {c : String} {d : PyData} : iteK C a b ρ (.exc c d) = .exc c d := rfl
theorem q_xparl {i j : Nat} {r : Res PyData} {c : String} {d : PyData} : parK i j ρ (.exc c d) r = .exc c d := rfl
theorem q_xparr {i j : Nat} {x : PyData} {c : String} {d : PyData} : parK i j ρ (.ok x) (.exc c d) = .exc c d := rfl
theorem q_xnot {c : String} {d : PyData} : notK (.exc c d) = .exc c d := rfl
theorem q_xfor {tg : Tg} {ws : List Nat} {body : DSs} {c : String} {d : PyData} : forK C tg ws body ρ (.exc c d) = .exc c d := rfl
theorem q_xslc {l h : Res (Option Int)} {c : String} {d : PyData} : slcK (.exc c d) l h = .exc c d := rfl
theorem q_srais {c : String} {z : Str} : evalS C (.rais c (.cons (.str z) .nil)) ρ = .exc c .none := rfl
theorem q_emeth {o : DE} {mt : Str} {es : DEs} : evalE C (.meth o mt es) ρ = mthK mt (opd C o ρ) (evalBs C es ρ) := rfl
theorem q_mthi {xs ds : List PyData} : mthK "list.index" (.ok (.list xs)) (.ok ds) = indexD (.list xs) ds := rfl
theorem q_mthz {xs ys : List PyData} : mthK "list.zip" (.ok (.tuple xs)) (.ok [.tuple ys]) = zipLD (.tuple xs) [.tuple ys] := rfl
theorem q_mths {xs : List PyData} : mthK "set.len" (.ok (.list xs)) (.ok []) = lsetD (.list xs) [] := rfl
theorem q_mthj {a : Str} {ds : List PyData} : mthK "str.join" (.ok (.str a)) (.ok ds) = joinD (.str a) ds := rfl
theorem q_sel {b : Bool} {x : PyData} {xs : List PyData} : selK (.ok b) (.ok x) (.ok xs) = .ok (if b = true then x :: xs else xs) := by cases b <;> rfl
theorem q_seqnil {r : Res Flw} : seqK C .nil r = r := by
  cases r with
  | ok f => cases f <;> rfl
  | _ => rfl
theorem q_lpTn {ws : List Nat} {ρ' : DEnv} : lpT ws (.ok (.next ρ')) = .ok (.next (wipeE ρ' ws)) := rfl
theorem q_lpTr {ws : List Nat} {d : PyData} : lpT ws (.ok (.ret d)) = .ok (.ret d) := rfl
theorem q_lpTe {ws : List Nat} {c : String} {d : PyData} : lpT ws (.exc c d) = .exc c d := rfl
theorem q_lpTi {ws : List Nat} {p : Prop} [Decidable p] {a b : Res Flw} : lpT ws (if p then a else b) = if p then lpT ws a else lpT ws b := by split <;> rfl
/-- a loop's turns by a state -/
theorem lp_fold {β σ : Type} {enc : β → PyData} {tg : Tg} {ws : List Nat} {body : DSs} (St : σ → DEnv) (step : σ → β → σ) (Inv : σ → List β → Prop)
    (hs : ∀ s x xs, Inv s (x :: xs) → Inv (step s x) xs ∧ lpT ws (lpS C body (setTg tg (enc x) (St s))) = .ok (.next (St (step s x)))) :
    ∀ (xs : List β) (s : σ), Inv s xs → lpD C tg ws body (xs.map enc) (St s) = .ok (.next (St (xs.foldl step s)))
  | [], s, _ => rfl
  | x :: xs, s, h => by
    obtain ⟨h1, h2⟩ := hs s x xs h
    rw [List.map_cons, q_lp1, List.foldl_cons, ← lp_fold St step Inv hs xs (step s x) h1]
    cases z : lpS C body (setTg tg (enc x) (St s)) with
    | ok f =>
      rw [z] at h2
      cases f with
      | next ρ' =>
        simp only [lpT, Res.bind_ok, Res.ok.injEq, Flw.next.injEq] at h2
        rw [q_lpKn, h2]
      | ret d => cases h2
      | brk ρ => cases h2
      | cont ρ => cases h2
    | exc c d => rw [z] at h2; cases h2
    | stuck => rw [z] at h2; cases h2
/-- what a turn of a loop comes to -/
inductive Trn (σ : Type) where
  | nx (s : σ) | rt (d : PyData) | ex (c : String) (d : PyData)
def Trn.res {σ : Type} (St : σ → DEnv) : Trn σ → Res Flw
  | .nx s => .ok (.next (St s))
  | .rt d => .ok (.ret d)
  | .ex c d => .exc c d
def trns {σ β : Type} (step : σ → β → Trn σ) : List β → σ → Trn σ
  | [], s => .nx s
  | x :: xs, s => match step s x with
    | .nx s' => trns step xs s'
    | r => r
theorem lp_trn {β σ : Type} {enc : β → PyData} {tg : Tg} {ws : List Nat} {body : DSs} (St : σ → DEnv) (step : σ → β → Trn σ) (Inv : σ → List β → Prop)
    (hs : ∀ s x xs, Inv s (x :: xs) → (∀ s', step s x = .nx s' → Inv s' xs) ∧ lpT ws (lpS C body (setTg tg (enc x) (St s))) = (step s x).res St) :
    ∀ (xs : List β) (s : σ), Inv s xs → lpD C tg ws body (xs.map enc) (St s) = (trns step xs s).res St
  | [], s, _ => rfl
  | x :: xs, s, h => by
    obtain ⟨h1, h2⟩ := hs s x xs h
    rw [List.map_cons, q_lp1, trns]
    cases z : lpS C body (setTg tg (enc x) (St s)) with
    | ok f =>
      rw [z] at h2
      cases f with
      | next ρ' =>
        cases e : step s x with
        | nx s' =>
          rw [e] at h2
          simp only [lpT, Trn.res, Res.bind_ok, Res.ok.injEq, Flw.next.injEq] at h2
          rw [q_lpKn, h2]
          exact lp_trn St step Inv hs xs s' (h1 s' e)
        | rt d => rw [e] at h2; cases h2
        | ex c d => rw [e] at h2; cases h2
      | ret d =>
        cases e : step s x with
        | nx s' => rw [e] at h2; cases h2
        | rt d' => rw [e] at h2; cases h2; rfl
        | ex c d => rw [e] at h2; cases h2
      | brk ρ => cases e : step s x <;> (rw [e] at h2; cases h2)
      | cont ρ => cases e : step s x <;> (rw [e] at h2; cases h2)
    | exc c d =>
      cases e : step s x with
      | nx s' => rw [e, z] at h2; cases h2
      | rt d' => rw [e, z] at h2; cases h2
      | ex c d => rw [e, z] at h2; cases h2; rfl
    | stuck => cases e : step s x <;> (rw [e, z] at h2; cases h2)
theorem foldl_app {β γ : Type} (f : β → List γ) : ∀ (xs : List β) (a : List γ), xs.foldl (fun acc x => acc ++ f x) a = a ++ xs.flatMap f
  | [], a => by simp
  | x :: xs, a => by rw [List.foldl_cons, foldl_app f xs, List.flatMap_cons, List.append_assoc]
/-- a loop that appends -/
theorem lp_app {β γ : Type} {enc : β → PyData} {tg : Tg} {ws : List Nat} {body : DSs} (St : List γ → DEnv) (f : β → List γ) (B : Nat) (xs : List β) (hB : (xs.flatMap f).length ≤ B)
    (hs : ∀ acc x, x ∈ xs → acc.length + (f x).length ≤ B → lpT ws (lpS C body (setTg tg (enc x) (St acc))) = .ok (.next (St (acc ++ f x)))) :
    lpD C tg ws body (xs.map enc) (St []) = .ok (.next (St (xs.flatMap f))) := by
  have := lp_fold (C := C) (enc := enc) (tg := tg) (ws := ws) (body := body) St (fun acc x => acc ++ f x) (fun acc ys => (∀ y ∈ ys, y ∈ xs) ∧ acc.length + (ys.flatMap f).length ≤ B) (fun acc x ys h => by
    obtain ⟨h1, h2⟩ := h
    rw [List.flatMap_cons, List.length_append] at h2
    refine ⟨⟨fun y hy => h1 y (List.mem_cons_of_mem _ hy), by rw [List.length_append]; omega⟩, hs acc x (h1 x List.mem_cons_self) (by omega)⟩) xs [] ⟨fun y hy => hy, by simpa using hB⟩
  rw [foldl_app, List.nil_append] at this
  exact this
/-- a comprehension, item by item -/
theorem cmpl_map {β : Type} {enc : β → PyData} {cs : DEs} {elt : DE} {tg : Tg} (out : β → PyData) : ∀ (xs : List β), (∀ x ∈ xs, ∀ rs, cl1 C cs elt (setTg tg (enc x) ρ) (.ok rs) = .ok (out x :: rs)) → cmpl C cs elt tg ρ (xs.map enc) = .ok (xs.map out)
  | [], _ => rfl
  | x :: xs, h => by
    rw [List.map_cons, q_cl1, cmpl_map out xs fun y hy => h y (List.mem_cons_of_mem _ hy), h x List.mem_cons_self]; rfl
theorem cmpl_filter {β : Type} {enc : β → PyData} {cs : DEs} {elt : DE} {tg : Tg} (p : β → Bool) (out : β → PyData) : ∀ (xs : List β), (∀ x ∈ xs, ∀ rs, cl1 C cs elt (setTg tg (enc x) ρ) (.ok rs) = .ok (if p x = true then out x :: rs else rs)) → cmpl C cs elt tg ρ (xs.map enc) = .ok ((xs.filter p).map out)
  | [], _ => rfl
  | x :: xs, h => by
    rw [List.map_cons, q_cl1, cmpl_filter p out xs fun y hy => h y (List.mem_cons_of_mem _ hy), h x List.mem_cons_self]
    cases e : p x <;> simp [e, List.filter_cons]

theorem k_go {f : Str} {d : Def} {ds : List PyData} {r : Res PyData} (h : Has G f d) (hn : 1 ≤ n) (hl : ds.length = d.arity)
    (hr : outF (evalSs (ctxOf G (n - 1)) d.body (ds.map .val ++ List.replicate (d.names.length - ds.length) .un)) = r) : callD G n f ds = r := by
  obtain ⟨m, rfl⟩ : ∃ m, n = m + 1 := ⟨n - 1, by omega⟩
  obtain ⟨d', h1, h2, h3, h4⟩ := h
  subst hr
  simp [callD_succ, h1, h2, h3, h4, hl, ctxOf, entry]
end
theorem q_s_line_box : (("line" : Str) = "box") = False := eq_false (by decide)
theorem q_s_line_ring : (("line" : Str) = "ring") = False := eq_false (by decide)
theorem q_s_line_field : (("line" : Str) = "field") = False := eq_false (by decide)
theorem q_s_line_row : (("line" : Str) = "row") = False := eq_false (by decide)
theorem q_s_line_group : (("line" : Str) = "group") = False := eq_false (by decide)
theorem q_s_box_line : (("box" : Str) = "line") = False := eq_false (by decide)
theorem q_s_box_ring : (("box" : Str) = "ring") = False := eq_false (by decide)
theorem q_s_box_field : (("box" : Str) = "field") = False := eq_false (by decide)
theorem q_s_box_row : (("box" : Str) = "row") = False := eq_false (by decide)
theorem q_s_box_group : (("box" : Str) = "group") = False := eq_false (by decide)
theorem q_s_ring_line : (("ring" : Str) = "line") = False := eq_false (by decide)
theorem q_s_ring_box : (("ring" : Str) = "box") = False := eq_false (by decide)
theorem q_s_ring_field : (("ring" : Str) = "field") = False := eq_false (by decide)
theorem q_s_ring_row : (("ring" : Str) = "row") = False := eq_false (by decide)
theorem q_s_ring_group : (("ring" : Str) = "group") = False := eq_false (by decide)
theorem q_s_field_line : (("field" : Str) = "line") = False := eq_false (by decide)
theorem q_s_field_box : (("field" : Str) = "box") = False := eq_false (by decide)
theorem q_s_field_ring : (("field" : Str) = "ring") = False := eq_false (by decide)
theorem q_s_field_row : (("field" : Str) = "row") = False := eq_false (by decide)
theorem q_s_field_group : (("field" : Str) = "group") = False := eq_false (by decide)
theorem q_s_row_line : (("row" : Str) = "line") = False := eq_false (by decide)
theorem q_s_row_box : (("row" : Str) = "box") = False := eq_false (by decide)
theorem q_s_row_ring : (("row" : Str) = "ring") = False := eq_false (by decide)
theorem q_s_row_field : (("row" : Str) = "field") = False := eq_false (by decide)
theorem q_s_row_group : (("row" : Str) = "group") = False := eq_false (by decide)
theorem q_s_group_line : (("group" : Str) = "line") = False := eq_false (by decide)
theorem q_s_group_box : (("group" : Str) = "box") = False := eq_false (by decide)
theorem q_s_group_ring : (("group" : Str) = "ring") = False := eq_false (by decide)
theorem q_s_group_field : (("group" : Str) = "field") = False := eq_false (by decide)
theorem q_s_group_row : (("group" : Str) = "row") = False := eq_false (by decide)
end DP

/-! ## Gen -/
set_option Elab.async false
set_option linter.all false
set_option maxRecDepth 100000
set_option maxHeartbeats 4000000
set_option autoImplicit false
/-! What the drawing functions of the laws draw. -/
namespace DP
open PySem
local macro_rules | `(tactic| exists $es,*) => `(tactic| simp -implicitDefEqProofs (disch := first | assumption | omega | (simp only [List.length_map, List.length_append, List.length_cons, List.length_nil]; omega) | decide | (simp [nd, ndAll, PyData.depth, PyData.depthAll]; done)) only [q_b1, q_bL, q_b2, q_mkT, q_mkL, q_cons2, q_notK, q_andK, q_andKf, q_andKt, q_orK, q_orKt, q_orKf, q_chainK, q_slcK, q_tK, q_tKf, q_cmplK, q_cl0, q_cl1, q_cl1o, q_selt, q_self, q_seqn, q_seqr, q_seqe, q_seqi, q_asgK, q_asgOK, q_nxE, q_unpK, q_unpLK, q_parK, q_exprK, q_appK, q_extK, q_retK, q_retOK, q_iteK, q_forK, q_lp0, q_lp1, q_lpS, q_lpKn, q_lpKr, q_lpKe, q_lpKi, q_frzo, q_frzv, q_slotV, q_slotLv, q_slotLo, q_optV, q_outr, q_outn, q_oute, q_outi, q_w0, q_w1, q_sa0, q_sa1, q_stn, q_stt, q_tgn, q_tgt, q_eint, q_ebl, q_enon, q_estr, q_evar, q_eglob, q_etup, q_elst, q_ebin, q_eneg, q_enot, q_eand, q_eor, q_and1, q_and2, q_or1, q_or2, q_ecmp, q_echain, q_ecall, q_etold, q_told1, q_told2, q_told3, q_told4, q_low59, q_otold, q_eblt, q_eisi, q_eidx, q_eslc, q_erev, q_ecomp, q_es0, q_es1, q_bs0, q_bs1, q_t0, q_t1, q_iplain, q_irng, q_irng2, q_fplain, q_frng, q_frng2, q_ienum, q_izip, q_irev, q_fenum, q_fzip, q_frev, q_ovar, q_oint, q_obl, q_onon, q_ostr, q_oglob, q_otup, q_olst, q_obin, q_oneg, q_onot, q_oand, q_oor, q_ocmp, q_ochain, q_ochain3, q_ocall, q_oblt, q_oisi, q_oidx, q_oslc, q_orev, q_ometh, q_ocomp, q_odctget, q_odctidx, q_pint, q_pnon, q_pglob, q_pbin, q_pneg, q_pcall, q_pblt, q_pidx, q_pvar, q_ss0, q_ss1, q_sasg, q_sasgOlst, q_sasgOcomp, q_sasgObin, q_sasgOslc, q_sasgOrev, q_sasgOlist, q_sasgOsorted, q_sunp, q_sunpL, q_spar, q_sexpr, q_sapp, q_sext, q_sret, q_sretO, q_site, q_sfor, q_spass, q_zvar, q_zint, q_zbl, q_znon, q_zstr, q_zglob, q_ztup, q_zlst, q_zbin, q_zneg, q_znot, q_zand, q_zor, q_zcmp, q_zchain, q_zchain3, q_zcall, q_zblt, q_zisi, q_zidx, q_zslc, q_zrev, q_zmeth, q_zcomp, q_zdctget, q_zdctidx, q_zrng, q_zrng2, q_zenum, q_zzip, q_zirev, q_add, q_sub, q_mulR, q_mulL, q_fdiv, q_mod, q_neg, q_cI, q_cnI, q_cS, q_cnS, q_cB, q_cnB, q_clt, q_cle, q_cgt, q_cge, q_isN, q_isnN, q_ist, q_isnt, q_isl, q_isnl, q_isi, q_isni, q_iss, q_isns, q_isb, q_isnb, q_ixt0, q_ixl0, q_ixt1, q_ixl1, q_ixt2, q_ixl2, q_ixt3, q_ixl3, q_ixt4, q_ixl4, q_ixt5, q_ixl5, q_ixt6, q_ixl6, q_ixt7, q_ixl7, q_ixt8, q_ixl8, q_lent0, q_lenl0, q_lent1, q_lenl1, q_lent2, q_lenl2, q_lent3, q_lenl3, q_lent4, q_lenl4, q_lent5, q_lenl5, q_lent6, q_lenl6, q_lent7, q_lenl7, q_lent8, q_lenl8, q_lenTm, q_lenLm, q_bint, q_bintb, q_babs, q_blst, q_blstT, q_btup, q_btupT, q_bmin, q_bmax, q_isi_int_int, q_isi_int_bool, q_isi_int_str, q_isi_int_tuple, q_isi_int_list, q_isi_int_none, q_isi_bool_int, q_isi_bool_bool, q_isi_bool_str, q_isi_bool_tuple, q_isi_bool_list, q_isi_bool_none, q_isi_str_int, q_isi_str_bool, q_isi_str_str, q_isi_str_tuple, q_isi_str_list, q_isi_str_none, q_isi_tuple_int, q_isi_tuple_bool, q_isi_tuple_str, q_isi_tuple_tuple, q_isi_tuple_list, q_isi_tuple_none, q_isi_list_int, q_isi_list_bool, q_isi_list_str, q_isi_list_tuple, q_isi_list_list, q_isi_list_none, q_itL, q_itT, q_rng0, q_rng1, q_rng2, q_rng3, q_rng4, q_revL, q_revT, q_rvL, q_rvT, q_slT, q_slL, q_xasg, q_xret, q_xb1, q_xbL, q_xb2l, q_xb2r, q_xc2l, q_xc2r, q_xmkT, q_xmkL, q_xexpr, q_xunp, q_xite, q_xparl, q_xparr, q_xnot, q_xfor, q_xslc, q_srais, q_emeth, q_mthi, q_mthz, q_mthj, q_sel, q_seqnil, q_lpTn, q_lpTr, q_lpTe, q_lpTi, q_s_line_box, q_s_line_ring, q_s_line_field, q_s_line_row, q_s_line_group, q_s_box_line, q_s_box_ring, q_s_box_field, q_s_box_row, q_s_box_group, q_s_ring_line, q_s_ring_box, q_s_ring_field, q_s_ring_row, q_s_ring_group, q_s_field_line, q_s_field_box, q_s_field_ring, q_s_field_row, q_s_field_group, q_s_row_line, q_s_row_box, q_s_row_ring, q_s_row_field, q_s_row_group, q_s_group_line, q_s_group_box, q_s_group_ring, q_s_group_field, q_s_group_row, List.getD_cons_zero, List.getD_cons_succ, List.set_cons_zero, List.set_cons_succ, List.map_cons, List.map_nil, List.cons_append, List.nil_append, List.append_assoc, List.length_cons, List.length_nil, List.length_map, List.length_append, List.replicate_succ, List.replicate_zero, ↓reduceIte, decide_eq_true_eq, Bool.not_eq_true', Bool.not_true, Bool.not_false, Bool.true_and, Bool.false_and, Bool.and_true, Bool.and_false, Bool.or_true, Bool.or_false, Bool.true_or, Bool.false_or, Bool.and_eq_true, Bool.or_eq_true, Bool.not_not, decide_eq_false_iff_not, decide_true, decide_false, Bool.false_eq_true, eq_self, not_true_eq_false, not_false_eq_true, true_and, and_true, false_and, and_false, or_true, true_or, or_false, false_or, Int.reduceAdd, Int.reduceMul, Int.reduceSub, Int.reduceNeg, Int.reduceLT, Int.reduceLE, Int.reduceEq, Int.reduceMod, Int.reduceDiv, Nat.reduceAdd, Nat.reduceSub, Int.reduceNe, $[$es:term],*])

/-- the drawing functions, where they stand -/
structure GenOk (G : Prog) : Prop where
  cell : Has G "_law_cell_at" d_law_cell_at
  mixed : Has G "_law_mixed" d_law_mixed
  drawn : Has G "_law_drawn" d_law_drawn
  far : Has G "_law_far" d_law_far
  point : Has G "_law_point" d_law_point
  placing : Has G "_law_placing" d_law_placing
theorem q_Pteta (p : Int × Int) : (p.1, p.2) = p := rfl
abbrev encP (p : Int × Int) : PyData := .tuple [.int p.1, .int p.2]
structure Pl where
  t : Int
  f : Int
  s : Int
  x : Int
  y : Int
  deriving DecidableEq
theorem q_Pleta (p : Pl) : (⟨p.t, p.f, p.s, p.x, p.y⟩ : Pl) = p := rfl
abbrev encL (p : Pl) : PyData := .tuple [.int p.t, .int p.f, .int p.s, .int p.x, .int p.y]

def cellAt (ns : List Int) (k : Int) : Int := if k < (ns.length : Int) then ns.getD k.toNat 0 else 0
def mixed (ns : List Int) (k : Int) : Int :=
  let h := (cellAt ns k + 7919 * k + 1) * 48271 % 2147483647
  (h * h + 7 * h + k) % 2147483629
def drawn (n k : Int) : Int :=
  let h := (n + 104729 * k + 17) * 69621 % 2147483647
  (h * h + 3 * h + k) % 2147483629
def pick {α : Type} (xs : List α) (d : α) (i : Int) : α := xs.getD i.toNat d
def far (n : Int) : Int := n / 4 % pick [21, 1999, 7, 199] 1 (n % 4) - pick [10, 999, 3, 99] 1 (n % 4)
def point (n : Int) : Int × Int := (far (drawn n 1 / 4), far (drawn n 2 / 4))
def placing (n : Int) : Pl := if n % 5 = 0 then ⟨0, 0, 1, 0, 0⟩ else
  ⟨n / 5 % 4, n / 20 % 2, pick [1, 2, 1, 3, 1, 9, 5, 1] 1 (n / 40 % 8), (point (drawn n 3 / 4)).1, (point (drawn n 3 / 4)).2⟩

theorem atI_pick {α : Type} {xs : List α} {d : α} {i : Int} (h0 : 0 ≤ i) (h1 : i < xs.length) : L2.atI xs i = some (pick xs d i) := by
  have : i.toNat < xs.length := by omega
  simp [L2.atI, L2.ixN, h0, h1, pick, this]
theorem idx_T {xs : List PyData} {d : PyData} {i : Int} (h0 : 0 ≤ i) (h1 : i < xs.length) : idxD (.tuple xs) (.int i) = .ok (pick xs d i) := by
  simp [idxD, atI_pick (d := d) h0 h1]
theorem pick_map {α β : Type} (f : α → β) (xs : List α) (d : α) (i : Int) : pick (xs.map f) (f d) i = f (pick xs d i) := by
  simp only [pick, List.getD_eq_getElem?_getD, List.getElem?_map]
  cases xs[i.toNat]? <;> rfl
theorem idx_TI {xs : List Int} {d : Int} {i : Int} (h0 : 0 ≤ i) (h1 : i < xs.length) : idxD (.tuple (xs.map .int)) (.int i) = .ok (.int (pick xs d i)) := by
  rw [idx_T (d := .int d) h0 (by simpa using h1), pick_map]
theorem tab4 {a b c d i : Int} (h0 : 0 ≤ i) (h1 : i < 4) : idxD (.tuple [.int a, .int b, .int c, .int d]) (.int i) = .ok (.int (pick [a, b, c, d] 1 i)) := idx_TI (xs := [a, b, c, d]) h0 h1
theorem tab8 {a b c d e f g h i : Int} (h0 : 0 ≤ i) (h1 : i < 8) : idxD (.tuple [.int a, .int b, .int c, .int d, .int e, .int f, .int g, .int h]) (.int i) = .ok (.int (pick [a, b, c, d, e, f, g, h] 1 i)) := idx_TI (xs := [a, b, c, d, e, f, g, h]) h0 h1
theorem tab3 {a b c i : Int} (h0 : 0 ≤ i) (h1 : i < 3) : idxD (.tuple [.int a, .int b, .int c]) (.int i) = .ok (.int (pick [a, b, c] 1 i)) := idx_TI (xs := [a, b, c]) h0 h1
theorem pick_mem {α : Type} {xs : List α} {d : α} {i : Int} (h0 : 0 ≤ i) (h1 : i < xs.length) : pick xs d i ∈ xs := by
  have : i.toNat < xs.length := by omega
  simp [pick, this]
theorem far_pos (a : Int) : 0 < pick [21, 1999, 7, 199] (1 : Int) (a % 4) := by
  have h : a % 4 = 0 ∨ a % 4 = 1 ∨ a % 4 = 2 ∨ a % 4 = 3 := by omega
  rcases h with h | h | h | h <;> rw [h] <;> decide
theorem far_bd (a : Int) : -999 ≤ far a ∧ far a ≤ 999 := by
  have h : a % 4 = 0 ∨ a % 4 = 1 ∨ a % 4 = 2 ∨ a % 4 = 3 := by omega
  unfold far
  rcases h with h | h | h | h <;> rw [h] <;> simp [pick] <;> omega
theorem point_bd (a : Int) : -999 ≤ (point a).1 ∧ (point a).1 ≤ 999 ∧ -999 ≤ (point a).2 ∧ (point a).2 ≤ 999 := ⟨(far_bd _).1, (far_bd _).2, (far_bd _).1, (far_bd _).2⟩
/-- a placing as it is drawn -/
structure PlOk (p : Pl) : Prop where
  t0 : 0 ≤ p.t
  t3 : p.t ≤ 3
  f : p.f = 0 ∨ p.f = 1
  s1 : 1 ≤ p.s
  s9 : p.s ≤ 9
  x0 : -999 ≤ p.x
  x1 : p.x ≤ 999
  y0 : -999 ≤ p.y
  y1 : p.y ≤ 999
theorem placing_ok (a : Int) : PlOk (placing a) := by
  unfold placing
  split
  · constructor <;> simp
  · have hs : pick [1, 2, 1, 3, 1, 9, 5, 1] (1 : Int) (a / 40 % 8) ∈ [1, 2, 1, 3, 1, 9, 5, 1] := pick_mem (by omega) (by simp; omega)
    have hb := point_bd (drawn a 3 / 4)
    generalize pick [1, 2, 1, 3, 1, 9, 5, 1] (1 : Int) (a / 40 % 8) = s at hs
    simp at hs
    constructor <;> simp only [] <;> omega
section
variable {G : Prog} {n : Nat}
theorem idx_scr {ns : List Int} {k : Int} (h0 : 0 ≤ k) (h1' : k < (ns.length : Int)) : idxD (scrD ns) (.int k) = .ok (.int (cellAt ns k)) := by
  have : k.toNat < ns.length := by omega
  show (match L2.atI (ns.map fun n => (PyData.int n, PyData.none)) k with | some p => .ok p.1 | none => .stuck : Res PyData) = _
  simp [L2.atI, L2.ixN, h0, h1', this, cellAt]
theorem scr_len {ns : List Int} : bltD .len [scrD ns] = .ok (.int ns.length) := by simp [bltD, lenD, scrD]
theorem ev_cell (g : GenOk G) (hn : 1 ≤ n) {ns : List Int} {k : Int} (hk : 0 ≤ k) : callD G n "_law_cell_at" [scrD ns, .int k] = .ok (.int (cellAt ns k)) := by
  by_cases h : k < (ns.length : Int)
  · refine k_go g.cell (by omega) rfl ?_
    exists d_law_cell_at, scr_len, h, idx_scr hk h
  · refine k_go g.cell (by omega) rfl ?_
    exists d_law_cell_at, scr_len, h
    simp [cellAt, h]
theorem ev_mixed (g : GenOk G) (hn : 2 ≤ n) {ns : List Int} {k : Int} (hk : 0 ≤ k) : callD G n "_law_mixed" [scrD ns, .int k] = .ok (.int (mixed ns k)) := by
  refine k_go g.mixed (by omega) rfl ?_
  exists d_law_mixed, ev_cell g
  rfl
theorem ev_drawn (g : GenOk G) (hn : 1 ≤ n) {a k : Int} : callD G n "_law_drawn" [.int a, .int k] = .ok (.int (drawn a k)) := by
  refine k_go g.drawn (by omega) rfl ?_
  exists d_law_drawn
  rfl
theorem ev_far (g : GenOk G) (hn : 1 ≤ n) {a : Int} : callD G n "_law_far" [.int a] = .ok (.int (far a)) := by
  have hp : (0 : Int) < pick [21, 1999, 7, 199] 1 (a % 4) := far_pos a
  refine k_go g.far (by omega) rfl ?_
  exists d_law_far, tab4
  rfl
theorem ev_point (g : GenOk G) (hn : 2 ≤ n) {a : Int} : callD G n "_law_point" [.int a] = .ok (encP (point a)) := by
  refine k_go g.point (by omega) rfl ?_
  exists d_law_point, ev_far g, ev_drawn g
  rfl
theorem ev_placing (g : GenOk G) (hn : 3 ≤ n) {a : Int} : callD G n "_law_placing" [.int a] = .ok (encL (placing a)) := by
  by_cases h : a % 5 = 0
  · refine k_go g.placing (by omega) rfl ?_
    exists d_law_placing, h
    simp [placing, h]
  · refine k_go g.placing (by omega) rfl ?_
    exists d_law_placing, ev_point g, ev_drawn g, tab8, h
    simp [placing, h]
theorem ev_placing_eq (g : GenOk G) (hn : 3 ≤ n) {a : Int} {p : Pl} (h : placing a = p) : callD G n "_law_placing" [.int a] = .ok (encL p) := by
  rw [← h]; exact ev_placing g hn
theorem ev_mixed_eq (g : GenOk G) (hn : 2 ≤ n) {ns : List Int} {k m : Int} (hk : 0 ≤ k) (h : mixed ns k = m) : callD G n "_law_mixed" [scrD ns, .int k] = .ok (.int m) := by
  rw [← h]; exact ev_mixed g hn hk
theorem ev_point_eq (g : GenOk G) (hn : 2 ≤ n) {a : Int} {p : Int × Int} (h : point a = p) : callD G n "_law_point" [.int a] = .ok (encP p) := by
  rw [← h]; exact ev_point g hn
end
end DP

/-! ## Plc -/
set_option Elab.async false
set_option linter.all false
set_option maxRecDepth 100000
set_option maxHeartbeats 4000000
set_option autoImplicit false
/-! Placings: the program's functions, and the law's matrices. -/
namespace DP
open PySem
local macro_rules | `(tactic| exists $es,*) => `(tactic| simp -implicitDefEqProofs (disch := first | assumption | omega | (simp only [List.length_map, List.length_append, List.length_cons, List.length_nil]; omega) | decide | (simp [nd, ndAll, PyData.depth, PyData.depthAll]; done)) only [q_b1, q_bL, q_b2, q_mkT, q_mkL, q_cons2, q_notK, q_andK, q_andKf, q_andKt, q_orK, q_orKt, q_orKf, q_chainK, q_slcK, q_tK, q_tKf, q_cmplK, q_cl0, q_cl1, q_cl1o, q_selt, q_self, q_seqn, q_seqr, q_seqe, q_seqi, q_asgK, q_asgOK, q_nxE, q_unpK, q_unpLK, q_parK, q_exprK, q_appK, q_extK, q_retK, q_retOK, q_iteK, q_forK, q_lp0, q_lp1, q_lpS, q_lpKn, q_lpKr, q_lpKe, q_lpKi, q_frzo, q_frzv, q_slotV, q_slotLv, q_slotLo, q_optV, q_outr, q_outn, q_oute, q_outi, q_w0, q_w1, q_sa0, q_sa1, q_stn, q_stt, q_tgn, q_tgt, q_eint, q_ebl, q_enon, q_estr, q_evar, q_eglob, q_etup, q_elst, q_ebin, q_eneg, q_enot, q_eand, q_eor, q_and1, q_and2, q_or1, q_or2, q_ecmp, q_echain, q_ecall, q_etold, q_told1, q_told2, q_told3, q_told4, q_low59, q_otold, q_eblt, q_eisi, q_eidx, q_eslc, q_erev, q_ecomp, q_es0, q_es1, q_bs0, q_bs1, q_t0, q_t1, q_iplain, q_irng, q_irng2, q_fplain, q_frng, q_frng2, q_ienum, q_izip, q_irev, q_fenum, q_fzip, q_frev, q_ovar, q_oint, q_obl, q_onon, q_ostr, q_oglob, q_otup, q_olst, q_obin, q_oneg, q_onot, q_oand, q_oor, q_ocmp, q_ochain, q_ochain3, q_ocall, q_oblt, q_oisi, q_oidx, q_oslc, q_orev, q_ometh, q_ocomp, q_odctget, q_odctidx, q_pint, q_pnon, q_pglob, q_pbin, q_pneg, q_pcall, q_pblt, q_pidx, q_pvar, q_ss0, q_ss1, q_sasg, q_sasgOlst, q_sasgOcomp, q_sasgObin, q_sasgOslc, q_sasgOrev, q_sasgOlist, q_sasgOsorted, q_sunp, q_sunpL, q_spar, q_sexpr, q_sapp, q_sext, q_sret, q_sretO, q_site, q_sfor, q_spass, q_zvar, q_zint, q_zbl, q_znon, q_zstr, q_zglob, q_ztup, q_zlst, q_zbin, q_zneg, q_znot, q_zand, q_zor, q_zcmp, q_zchain, q_zchain3, q_zcall, q_zblt, q_zisi, q_zidx, q_zslc, q_zrev, q_zmeth, q_zcomp, q_zdctget, q_zdctidx, q_zrng, q_zrng2, q_zenum, q_zzip, q_zirev, q_add, q_sub, q_mulR, q_mulL, q_fdiv, q_mod, q_neg, q_cI, q_cnI, q_cS, q_cnS, q_cB, q_cnB, q_clt, q_cle, q_cgt, q_cge, q_isN, q_isnN, q_ist, q_isnt, q_isl, q_isnl, q_isi, q_isni, q_iss, q_isns, q_isb, q_isnb, q_ixt0, q_ixl0, q_ixt1, q_ixl1, q_ixt2, q_ixl2, q_ixt3, q_ixl3, q_ixt4, q_ixl4, q_ixt5, q_ixl5, q_ixt6, q_ixl6, q_ixt7, q_ixl7, q_ixt8, q_ixl8, q_lent0, q_lenl0, q_lent1, q_lenl1, q_lent2, q_lenl2, q_lent3, q_lenl3, q_lent4, q_lenl4, q_lent5, q_lenl5, q_lent6, q_lenl6, q_lent7, q_lenl7, q_lent8, q_lenl8, q_lenTm, q_lenLm, q_bint, q_bintb, q_babs, q_blst, q_blstT, q_btup, q_btupT, q_bmin, q_bmax, q_isi_int_int, q_isi_int_bool, q_isi_int_str, q_isi_int_tuple, q_isi_int_list, q_isi_int_none, q_isi_bool_int, q_isi_bool_bool, q_isi_bool_str, q_isi_bool_tuple, q_isi_bool_list, q_isi_bool_none, q_isi_str_int, q_isi_str_bool, q_isi_str_str, q_isi_str_tuple, q_isi_str_list, q_isi_str_none, q_isi_tuple_int, q_isi_tuple_bool, q_isi_tuple_str, q_isi_tuple_tuple, q_isi_tuple_list, q_isi_tuple_none, q_isi_list_int, q_isi_list_bool, q_isi_list_str, q_isi_list_tuple, q_isi_list_list, q_isi_list_none, q_itL, q_itT, q_rng0, q_rng1, q_rng2, q_rng3, q_rng4, q_revL, q_revT, q_rvL, q_rvT, q_slT, q_slL, q_xasg, q_xret, q_xb1, q_xbL, q_xb2l, q_xb2r, q_xc2l, q_xc2r, q_xmkT, q_xmkL, q_xexpr, q_xunp, q_xite, q_xparl, q_xparr, q_xnot, q_xfor, q_xslc, q_srais, q_emeth, q_mthi, q_mthz, q_mthj, q_sel, q_seqnil, q_lpTn, q_lpTr, q_lpTe, q_lpTi, q_s_line_box, q_s_line_ring, q_s_line_field, q_s_line_row, q_s_line_group, q_s_box_line, q_s_box_ring, q_s_box_field, q_s_box_row, q_s_box_group, q_s_ring_line, q_s_ring_box, q_s_ring_field, q_s_ring_row, q_s_ring_group, q_s_field_line, q_s_field_box, q_s_field_ring, q_s_field_row, q_s_field_group, q_s_row_line, q_s_row_box, q_s_row_ring, q_s_row_field, q_s_row_group, q_s_group_line, q_s_group_box, q_s_group_ring, q_s_group_field, q_s_group_row, q_Pteta, q_Pleta, List.getD_cons_zero, List.getD_cons_succ, List.set_cons_zero, List.set_cons_succ, List.map_cons, List.map_nil, List.cons_append, List.nil_append, List.append_assoc, List.length_cons, List.length_nil, List.length_map, List.length_append, List.replicate_succ, List.replicate_zero, ↓reduceIte, decide_eq_true_eq, Bool.not_eq_true', Bool.not_true, Bool.not_false, Bool.true_and, Bool.false_and, Bool.and_true, Bool.and_false, Bool.or_true, Bool.or_false, Bool.true_or, Bool.false_or, Bool.and_eq_true, Bool.or_eq_true, Bool.not_not, decide_eq_false_iff_not, decide_true, decide_false, Bool.false_eq_true, eq_self, not_true_eq_false, not_false_eq_true, true_and, and_true, false_and, and_false, or_true, true_or, or_false, false_or, Int.reduceAdd, Int.reduceMul, Int.reduceSub, Int.reduceNeg, Int.reduceLT, Int.reduceLE, Int.reduceEq, Int.reduceMod, Int.reduceDiv, Nat.reduceAdd, Nat.reduceSub, Int.reduceNe, $[$es:term],*])
structure PlcOk (G : Prog) : Prop where
  put : Has G "put" d_put
  together : Has G "together" d_together
structure MatOk (G : Prog) : Prop where
  mat : Has G "_law_matrix" d_law_matrix
  put : Has G "_law_put" d_law_put
  both : Has G "_law_both" d_law_both
structure Mt where
  a : Int
  b : Int
  c : Int
  d : Int
  x : Int
  y : Int
  deriving DecidableEq
theorem q_Mteta (m : Mt) : (⟨m.a, m.b, m.c, m.d, m.x, m.y⟩ : Mt) = m := rfl
abbrev encM (m : Mt) : PyData := .tuple [.int m.a, .int m.b, .int m.c, .int m.d, .int m.x, .int m.y]
def rot : Nat → Int × Int → Int × Int
  | 0, q => q
  | k + 1, q => rot k (-q.2, q.1)
def unrot : Nat → Int × Int → Int × Int
  | 0, q => q
  | k + 1, q => unrot k (q.2, -q.1)
def flp (f : Int) (q : Int × Int) : Int × Int := if f = 1 then (-q.1, q.2) else q
def put (p : Pl) (q : Int × Int) : Int × Int := ((rot p.t.toNat (flp p.f q)).1 * p.s + p.x, (rot p.t.toNat (flp p.f q)).2 * p.s + p.y)
def together (p q : Pl) : Pl := ⟨(p.t + q.t * (1 - 2 * p.f)) % 4, (p.f + q.f) % 2, p.s * q.s, (put p (q.x, q.y)).1, (put p (q.x, q.y)).2⟩
def back (p : Pl) (q : Int × Int) : Option (Int × Int) :=
  if (q.1 - p.x) % p.s ≠ 0 ∨ (q.2 - p.y) % p.s ≠ 0 then none
  else some (flp p.f (unrot p.t.toNat ((q.1 - p.x) / p.s, (q.2 - p.y) / p.s)))
def cosT (t : Int) : Int := if t = 0 then 1 else if t = 2 then -1 else 0
def sinT (t : Int) : Int := if t = 1 then 1 else if t = 3 then -1 else 0
def matrix (p : Pl) : Mt := ⟨cosT p.t * (1 - 2 * p.f) * p.s, -sinT p.t * p.s, sinT p.t * (1 - 2 * p.f) * p.s, cosT p.t * p.s, p.x, p.y⟩
def mput (m : Mt) (q : Int × Int) : Int × Int := (m.a * q.1 + m.b * q.2 + m.x, m.c * q.1 + m.d * q.2 + m.y)
def mboth (m n : Mt) : Mt := ⟨m.a * n.a + m.b * n.c, m.a * n.b + m.b * n.d, m.c * n.a + m.d * n.c, m.c * n.b + m.d * n.d, (mput m (n.x, n.y)).1, (mput m (n.x, n.y)).2⟩
/-- what the functions need of a placing -/
structure PlW (p : Pl) : Prop where
  t0 : 0 ≤ p.t
  t3 : p.t ≤ 3
  f : p.f = 0 ∨ p.f = 1
  s1 : 1 ≤ p.s
  s9 : p.s < 1073741824
structure PlT (p : Pl) : Prop where
  t0 : 0 ≤ p.t
  t3 : p.t ≤ 3
  f : p.f = 0 ∨ p.f = 1
theorem PlW.T {p : Pl} (h : PlW p) : PlT p := ⟨h.t0, h.t3, h.f⟩
theorem PlOk.w {p : Pl} (h : PlOk p) : PlW p := ⟨h.t0, h.t3, h.f, h.s1, by have := h.s9; omega⟩
def sm (i : Int) : Prop := -18446744073709551616 < i ∧ i < 18446744073709551616
structure MtW (m : Mt) : Prop where
  a : sm m.a
  b : sm m.b
  c : sm m.c
  d : sm m.d
theorem t_cases {t : Int} (h0 : 0 ≤ t) (h3 : t ≤ 3) : t = 0 ∨ t = 1 ∨ t = 2 ∨ t = 3 := by omega
theorem matrix_w {p : Pl} (h : PlW p) : MtW (matrix p) := by
  obtain ⟨t, f, s, x, y⟩ := p
  obtain ⟨h0, h3, hf, h1, h9⟩ := h
  simp only at h0 h3 hf h1 h9
  rcases t_cases h0 h3 with rfl | rfl | rfl | rfl <;> rcases hf with rfl | rfl <;> constructor <;> simp [matrix, cosT, sinT, sm] <;> omega
theorem put_matT {p : Pl} (h : PlT p) (q : Int × Int) : put p q = mput (matrix p) q := by
  obtain ⟨t, f, s, x, y⟩ := p
  obtain ⟨h0, h3, hf⟩ := h
  simp only at h0 h3 hf
  rcases t_cases h0 h3 with rfl | rfl | rfl | rfl <;> rcases hf with rfl | rfl <;> simp [put, mput, matrix, cosT, sinT, rot, flp] <;> grind
theorem put_mat {p : Pl} (h : PlW p) (q : Int × Int) : put p q = mput (matrix p) q := put_matT h.T q
theorem cos_add {t t' f : Int} (h0 : 0 ≤ t) (h3 : t ≤ 3) (h0' : 0 ≤ t') (h3' : t' ≤ 3) (hf : f = 0 ∨ f = 1) : cosT ((t + t' * (1 - 2 * f)) % 4) = cosT t * cosT t' - (1 - 2 * f) * (sinT t * sinT t') ∧ sinT ((t + t' * (1 - 2 * f)) % 4) = sinT t * cosT t' + (1 - 2 * f) * (cosT t * sinT t') := by
  rcases t_cases h0 h3 with rfl | rfl | rfl | rfl <;> rcases t_cases h0' h3' with rfl | rfl | rfl | rfl <;> rcases hf with rfl | rfl <;> decide
theorem together_matT {p q : Pl} (h : PlT p) (h' : PlT q) : matrix (together p q) = mboth (matrix p) (matrix q) := by
  have hm := put_matT h (q.x, q.y)
  obtain ⟨t, f, s, x, y⟩ := p
  obtain ⟨h0, h3, hf⟩ := h
  obtain ⟨t', f', s', x', y'⟩ := q
  obtain ⟨h0', h3', hf'⟩ := h'
  simp only at h0 h3 hf h0' h3' hf'
  obtain ⟨e1, e2⟩ := cos_add h0 h3 h0' h3' hf
  have e3 : 1 - 2 * ((f + f') % 2) = (1 - 2 * f) * (1 - 2 * f') := by rcases hf with rfl | rfl <;> rcases hf' with rfl | rfl <;> decide
  have e4 : (1 - 2 * f) * (1 - 2 * f) = 1 := by rcases hf with rfl | rfl <;> decide
  unfold together mboth
  rw [hm]
  simp only [mput, matrix, e1, e2, e3, Mt.mk.injEq, and_true]
  generalize cosT t = c at *
  generalize sinT t = d at *
  generalize cosT t' = c' at *
  generalize sinT t' = d' at *
  generalize 1 - 2 * f = g at *
  generalize 1 - 2 * f' = g' at *
  refine ⟨?_, ?_, ?_, ?_⟩ <;> grind
theorem together_mat {p q : Pl} (h : PlW p) (h' : PlW q) : matrix (together p q) = mboth (matrix p) (matrix q) := together_matT h.T h'.T
theorem together_T (p q : Pl) : PlT (together p q) := by
  constructor <;> simp only [together] <;> omega
theorem together_t {p q : Pl} (h : PlW p) (h' : PlW q) : 0 ≤ (together p q).t ∧ (together p q).t ≤ 3 ∧ ((together p q).f = 0 ∨ (together p q).f = 1) ∧ (together p q).s = p.s * q.s := by
  refine ⟨?_, ?_, ?_, rfl⟩ <;> simp only [together] <;> omega
theorem put_back {p : Pl} (h : PlW p) {q d : Int × Int} (hb : back p q = some d) : put p d = q := by
  obtain ⟨t, f, s, x, y⟩ := p
  obtain ⟨h0, h3, hf, h1, h9⟩ := h
  obtain ⟨a, b⟩ := q
  simp only at h0 h3 hf h1 h9
  unfold back at hb
  split at hb
  · cases hb
  · rename_i hc
    simp only [not_or, Decidable.not_not] at hc
    obtain ⟨c1, c2⟩ := hc
    have e1 := Int.ediv_mul_cancel (Int.dvd_of_emod_eq_zero c1)
    have e2 := Int.ediv_mul_cancel (Int.dvd_of_emod_eq_zero c2)
    simp only [Option.some.injEq] at hb
    subst hb
    rcases t_cases h0 h3 with rfl | rfl | rfl | rfl <;> rcases hf with rfl | rfl <;> simp [put, rot, unrot, flp] <;> constructor <;> omega
theorem back_put {p : Pl} (h : PlW p) (q : Int × Int) : back p (put p q) = some q := by
  obtain ⟨t, f, s, x, y⟩ := p
  obtain ⟨h0, h3, hf, h1, h9⟩ := h
  obtain ⟨a, b⟩ := q
  simp only at h0 h3 hf h1 h9
  have hs : s ≠ 0 := by omega
  rcases t_cases h0 h3 with rfl | rfl | rfl | rfl <;> rcases hf with rfl | rfl <;> simp [back, put, rot, unrot, flp, Int.add_sub_cancel, Int.mul_emod_left, Int.mul_ediv_cancel _ hs, ← Int.neg_mul]
section
variable {G : Prog} {n : Nat}
theorem ev_put (g : PlcOk G) (hn : 1 ≤ n) {t f s x y a b : Int} (h : PlW ⟨t, f, s, x, y⟩) : callD G n "put" [.tuple [.int t, .int f, .int s, .int x, .int y], .tuple [.int a, .int b]] = .ok (encP (put ⟨t, f, s, x, y⟩ (a, b))) := by
  obtain ⟨h0, h3, hf, h1, h9⟩ := h
  simp only at h0 h3 hf h1 h9
  rcases t_cases h0 h3 with rfl | rfl | rfl | rfl <;> rcases hf with rfl | rfl
  all_goals
    refine k_go g.put (by omega) rfl ?_
    exists d_put
    simp [put, rot, flp]
theorem slc_3 {d0 d1 d2 d3 d4 : PyData} : cutL [d0, d1, d2, d3, d4] (some 3) none = [d3, d4] := rfl
theorem slc_4 {d0 d1 d2 d3 d4 d5 : PyData} : cutL [d0, d1, d2, d3, d4, d5] (some 4) none = [d4, d5] := rfl
theorem ev_together (g : PlcOk G) (hn : 2 ≤ n) {t f s x y t' f' s' x' y' : Int} (h : PlW ⟨t, f, s, x, y⟩) :
    callD G n "together" [.tuple [.int t, .int f, .int s, .int x, .int y], .tuple [.int t', .int f', .int s', .int x', .int y']] = .ok (encL (together ⟨t, f, s, x, y⟩ ⟨t', f', s', x', y'⟩)) := by
  have ⟨h0, h3, hf, h1, h9⟩ := h
  simp only at h0 h3 hf h1 h9
  refine k_go g.together (by omega) rfl ?_
  exists d_together, slc_3, ev_put g _ h, o_addT
  rfl
theorem ev_back (g : Has G "back" d_back) (hn : 1 ≤ n) {t f s x y a b : Int} (h : PlW ⟨t, f, s, x, y⟩) : callD G n "back" [.tuple [.int t, .int f, .int s, .int x, .int y], .tuple [.int a, .int b]] = .ok ((back ⟨t, f, s, x, y⟩ (a, b)).elim .none encP) := by
  obtain ⟨h0, h3, hf, h1, h9⟩ := h
  simp only at h0 h3 hf h1 h9
  by_cases c1 : (a - x) % s = 0
  · by_cases c2 : (b - y) % s = 0
    · rcases t_cases h0 h3 with rfl | rfl | rfl | rfl <;> rcases hf with rfl | rfl
      all_goals
        refine k_go g (by omega) rfl ?_
        exists d_back, c1, c2
        simp [back, unrot, flp, c1, c2]
    · refine k_go g (by omega) rfl ?_
      exists d_back, c1, c2
      simp [back, c1, c2]
  · refine k_go g (by omega) rfl ?_
    exists d_back, c1
    simp [back, c1]
theorem ev_back_none (g : Has G "back" d_back) (hn : 1 ≤ n) {t f s x y a b : Int} (h : PlW ⟨t, f, s, x, y⟩) (hb : back ⟨t, f, s, x, y⟩ (a, b) = none) : callD G n "back" [.tuple [.int t, .int f, .int s, .int x, .int y], .tuple [.int a, .int b]] = .ok .none := by
  rw [ev_back g hn h, hb]; rfl
theorem ev_back_some (g : Has G "back" d_back) (hn : 1 ≤ n) {t f s x y a b : Int} {d : Int × Int} (h : PlW ⟨t, f, s, x, y⟩) (hb : back ⟨t, f, s, x, y⟩ (a, b) = some d) : callD G n "back" [.tuple [.int t, .int f, .int s, .int x, .int y], .tuple [.int a, .int b]] = .ok (encP d) := by
  rw [ev_back g hn h, hb]; rfl
theorem ev_matrix0 (g : Has G "_law_matrix" d_law_matrix) (hn : 1 ≤ n) {t f s x y : Int} (h : PlW ⟨t, f, s, x, y⟩) : callD G n "_law_matrix" [.tuple [.int t, .int f, .int s, .int x, .int y]] = .ok (encM (matrix ⟨t, f, s, x, y⟩)) := by
  obtain ⟨h0, h3, hf, h1, h9⟩ := h
  simp only at h0 h3 hf h1 h9
  rcases t_cases h0 h3 with rfl | rfl | rfl | rfl <;> rcases hf with rfl | rfl
  all_goals
    refine k_go g (by omega) rfl ?_
    exists d_law_matrix
    simp [matrix, cosT, sinT]
theorem ev_mput0 (g : Has G "_law_put" d_law_put) (hn : 1 ≤ n) {a b c d x y p q : Int} (h : MtW ⟨a, b, c, d, x, y⟩) : callD G n "_law_put" [.tuple [.int a, .int b, .int c, .int d, .int x, .int y], .tuple [.int p, .int q]] = .ok (encP (mput ⟨a, b, c, d, x, y⟩ (p, q))) := by
  obtain ⟨⟨_, _⟩, ⟨_, _⟩, ⟨_, _⟩, ⟨_, _⟩⟩ := h
  refine k_go g (by omega) rfl ?_
  exists d_law_put
  rfl
theorem ev_matrix (g : MatOk G) (hn : 1 ≤ n) {t f s x y : Int} (h : PlW ⟨t, f, s, x, y⟩) : callD G n "_law_matrix" [.tuple [.int t, .int f, .int s, .int x, .int y]] = .ok (encM (matrix ⟨t, f, s, x, y⟩)) := ev_matrix0 g.mat hn h
theorem ev_mput (g : MatOk G) (hn : 1 ≤ n) {a b c d x y p q : Int} (h : MtW ⟨a, b, c, d, x, y⟩) : callD G n "_law_put" [.tuple [.int a, .int b, .int c, .int d, .int x, .int y], .tuple [.int p, .int q]] = .ok (encP (mput ⟨a, b, c, d, x, y⟩ (p, q))) := ev_mput0 g.put hn h
theorem ev_mboth (g : MatOk G) (hn : 2 ≤ n) {a b c d x y a' b' c' d' x' y' : Int} (h : MtW ⟨a, b, c, d, x, y⟩) :
    callD G n "_law_both" [.tuple [.int a, .int b, .int c, .int d, .int x, .int y], .tuple [.int a', .int b', .int c', .int d', .int x', .int y']] = .ok (encM (mboth ⟨a, b, c, d, x, y⟩ ⟨a', b', c', d', x', y'⟩)) := by
  have ⟨⟨_, _⟩, ⟨_, _⟩, ⟨_, _⟩, ⟨_, _⟩⟩ := h
  refine k_go g.both (by omega) rfl ?_
  exists d_law_both, slc_4, ev_mput g _ h, o_addT
  rfl
end
end DP

/-! ## Cmp -/
set_option Elab.async false
set_option linter.all false
set_option maxRecDepth 100000
set_option maxHeartbeats 4000000
set_option autoImplicit false
/-! Equality of data by what it stands for. -/
namespace DP
open PySem
local macro_rules | `(tactic| exists $es,*) => `(tactic| simp -implicitDefEqProofs (disch := first | assumption | omega | (simp only [List.length_map, List.length_append, List.length_cons, List.length_nil]; omega) | decide | (simp [nd, ndAll, PyData.depth, PyData.depthAll]; done)) only [q_b1, q_bL, q_b2, q_mkT, q_mkL, q_cons2, q_notK, q_andK, q_andKf, q_andKt, q_orK, q_orKt, q_orKf, q_chainK, q_slcK, q_tK, q_tKf, q_cmplK, q_cl0, q_cl1, q_cl1o, q_selt, q_self, q_seqn, q_seqr, q_seqe, q_seqi, q_asgK, q_asgOK, q_nxE, q_unpK, q_unpLK, q_parK, q_exprK, q_appK, q_extK, q_retK, q_retOK, q_iteK, q_forK, q_lp0, q_lp1, q_lpS, q_lpKn, q_lpKr, q_lpKe, q_lpKi, q_frzo, q_frzv, q_slotV, q_slotLv, q_slotLo, q_optV, q_outr, q_outn, q_oute, q_outi, q_w0, q_w1, q_sa0, q_sa1, q_stn, q_stt, q_tgn, q_tgt, q_eint, q_ebl, q_enon, q_estr, q_evar, q_eglob, q_etup, q_elst, q_ebin, q_eneg, q_enot, q_eand, q_eor, q_and1, q_and2, q_or1, q_or2, q_ecmp, q_echain, q_ecall, q_etold, q_told1, q_told2, q_told3, q_told4, q_low59, q_otold, q_eblt, q_eisi, q_eidx, q_eslc, q_erev, q_ecomp, q_es0, q_es1, q_bs0, q_bs1, q_t0, q_t1, q_iplain, q_irng, q_irng2, q_fplain, q_frng, q_frng2, q_ienum, q_izip, q_irev, q_fenum, q_fzip, q_frev, q_ovar, q_oint, q_obl, q_onon, q_ostr, q_oglob, q_otup, q_olst, q_obin, q_oneg, q_onot, q_oand, q_oor, q_ocmp, q_ochain, q_ochain3, q_ocall, q_oblt, q_oisi, q_oidx, q_oslc, q_orev, q_ometh, q_ocomp, q_odctget, q_odctidx, q_pint, q_pnon, q_pglob, q_pbin, q_pneg, q_pcall, q_pblt, q_pidx, q_pvar, q_ss0, q_ss1, q_sasg, q_sasgOlst, q_sasgOcomp, q_sasgObin, q_sasgOslc, q_sasgOrev, q_sasgOlist, q_sasgOsorted, q_sunp, q_sunpL, q_spar, q_sexpr, q_sapp, q_sext, q_sret, q_sretO, q_site, q_sfor, q_spass, q_zvar, q_zint, q_zbl, q_znon, q_zstr, q_zglob, q_ztup, q_zlst, q_zbin, q_zneg, q_znot, q_zand, q_zor, q_zcmp, q_zchain, q_zchain3, q_zcall, q_zblt, q_zisi, q_zidx, q_zslc, q_zrev, q_zmeth, q_zcomp, q_zdctget, q_zdctidx, q_zrng, q_zrng2, q_zenum, q_zzip, q_zirev, q_add, q_sub, q_mulR, q_mulL, q_fdiv, q_mod, q_neg, q_cI, q_cnI, q_cS, q_cnS, q_cB, q_cnB, q_clt, q_cle, q_cgt, q_cge, q_isN, q_isnN, q_ist, q_isnt, q_isl, q_isnl, q_isi, q_isni, q_iss, q_isns, q_isb, q_isnb, q_ixt0, q_ixl0, q_ixt1, q_ixl1, q_ixt2, q_ixl2, q_ixt3, q_ixl3, q_ixt4, q_ixl4, q_ixt5, q_ixl5, q_ixt6, q_ixl6, q_ixt7, q_ixl7, q_ixt8, q_ixl8, q_lent0, q_lenl0, q_lent1, q_lenl1, q_lent2, q_lenl2, q_lent3, q_lenl3, q_lent4, q_lenl4, q_lent5, q_lenl5, q_lent6, q_lenl6, q_lent7, q_lenl7, q_lent8, q_lenl8, q_lenTm, q_lenLm, q_bint, q_bintb, q_babs, q_blst, q_blstT, q_btup, q_btupT, q_bmin, q_bmax, q_isi_int_int, q_isi_int_bool, q_isi_int_str, q_isi_int_tuple, q_isi_int_list, q_isi_int_none, q_isi_bool_int, q_isi_bool_bool, q_isi_bool_str, q_isi_bool_tuple, q_isi_bool_list, q_isi_bool_none, q_isi_str_int, q_isi_str_bool, q_isi_str_str, q_isi_str_tuple, q_isi_str_list, q_isi_str_none, q_isi_tuple_int, q_isi_tuple_bool, q_isi_tuple_str, q_isi_tuple_tuple, q_isi_tuple_list, q_isi_tuple_none, q_isi_list_int, q_isi_list_bool, q_isi_list_str, q_isi_list_tuple, q_isi_list_list, q_isi_list_none, q_itL, q_itT, q_rng0, q_rng1, q_rng2, q_rng3, q_rng4, q_revL, q_revT, q_rvL, q_rvT, q_slT, q_slL, q_xasg, q_xret, q_xb1, q_xbL, q_xb2l, q_xb2r, q_xc2l, q_xc2r, q_xmkT, q_xmkL, q_xexpr, q_xunp, q_xite, q_xparl, q_xparr, q_xnot, q_xfor, q_xslc, q_srais, q_emeth, q_mthi, q_mthz, q_mthj, q_sel, q_seqnil, q_lpTn, q_lpTr, q_lpTe, q_lpTi, q_s_line_box, q_s_line_ring, q_s_line_field, q_s_line_row, q_s_line_group, q_s_box_line, q_s_box_ring, q_s_box_field, q_s_box_row, q_s_box_group, q_s_ring_line, q_s_ring_box, q_s_ring_field, q_s_ring_row, q_s_ring_group, q_s_field_line, q_s_field_box, q_s_field_ring, q_s_field_row, q_s_field_group, q_s_row_line, q_s_row_box, q_s_row_ring, q_s_row_field, q_s_row_group, q_s_group_line, q_s_group_box, q_s_group_ring, q_s_group_field, q_s_group_row, q_Pteta, q_Pleta, q_Mteta, List.getD_cons_zero, List.getD_cons_succ, List.set_cons_zero, List.set_cons_succ, List.map_cons, List.map_nil, List.cons_append, List.nil_append, List.append_assoc, List.length_cons, List.length_nil, List.length_map, List.length_append, List.replicate_succ, List.replicate_zero, ↓reduceIte, decide_eq_true_eq, Bool.not_eq_true', Bool.not_true, Bool.not_false, Bool.true_and, Bool.false_and, Bool.and_true, Bool.and_false, Bool.or_true, Bool.or_false, Bool.true_or, Bool.false_or, Bool.and_eq_true, Bool.or_eq_true, Bool.not_not, decide_eq_false_iff_not, decide_true, decide_false, Bool.false_eq_true, eq_self, not_true_eq_false, not_false_eq_true, true_and, and_true, false_and, and_false, or_true, true_or, or_false, false_or, Int.reduceAdd, Int.reduceMul, Int.reduceSub, Int.reduceNeg, Int.reduceLT, Int.reduceLE, Int.reduceEq, Int.reduceMod, Int.reduceDiv, Nat.reduceAdd, Nat.reduceSub, Int.reduceNe, $[$es:term],*])
structure Enc {α : Type} (enc : α → PyData) (k : Nat) : Prop where
  nd : ∀ x, nd (enc x) = true
  dp : ∀ x, (enc x).depth ≤ k
  eq : ∀ x y, PyData.eqv (enc x) (enc y) = true ↔ x = y
theorem Enc.up {α : Type} {enc : α → PyData} {k l : Nat} (h : Enc enc k) (hl : k ≤ l) : Enc enc l := ⟨h.nd, fun x => Nat.le_trans (h.dp x) hl, h.eq⟩
theorem enc_int : Enc PyData.int 0 := ⟨fun _ => rfl, fun _ => by simp [PyData.depth], fun x y => by simp [PyData.eqv]⟩
theorem enc_str : Enc PyData.str 0 := ⟨fun _ => rfl, fun _ => by simp [PyData.depth], fun x y => by simp [PyData.eqv]⟩
section
variable {α β : Type} {enc : α → PyData} {enc' : β → PyData} {k l : Nat}
theorem Enc.ndAll (h : Enc enc k) : ∀ xs : List α, ndAll (xs.map enc) = true
  | [] => rfl
  | x :: xs => by simp [DP.ndAll, h.nd x, h.ndAll xs]
theorem Enc.dpAll (h : Enc enc k) : ∀ xs : List α, PyData.depthAll (xs.map enc) ≤ k
  | [] => by simp [PyData.depthAll]
  | x :: xs => by
    have := h.dp x
    have := h.dpAll xs
    simp only [List.map_cons, PyData.depthAll]; omega
theorem Enc.eqAll (h : Enc enc k) : ∀ xs ys : List α, PyData.eqvAll (xs.map enc) (ys.map enc) = true ↔ xs = ys
  | [], [] => by simp [PyData.eqvAll]
  | [], y :: ys => by simp [PyData.eqvAll]
  | x :: xs, [] => by simp [PyData.eqvAll]
  | x :: xs, y :: ys => by simp [PyData.eqvAll, h.eq x y, h.eqAll xs ys]
theorem Enc.tup (h : Enc enc k) : Enc (fun xs : List α => PyData.tuple (xs.map enc)) (k + 1) := ⟨fun xs => by simp only [DP.nd]; exact h.ndAll xs, fun xs => by have := h.dpAll xs; simp only [PyData.depth]; omega, fun xs ys => by simp only [PyData.eqv]; exact h.eqAll xs ys⟩
theorem Enc.lst (h : Enc enc k) : Enc (fun xs : List α => PyData.list (xs.map enc)) (k + 1) := ⟨fun xs => by simp only [DP.nd]; exact h.ndAll xs, fun xs => by have := h.dpAll xs; simp only [PyData.depth]; omega, fun xs ys => by simp only [PyData.eqv]; exact h.eqAll xs ys⟩
theorem Enc.two (h : Enc enc k) (h' : Enc enc' k) : Enc (fun p : α × β => PyData.tuple [enc p.1, enc' p.2]) (k + 1) := ⟨fun p => by simp [DP.nd, DP.ndAll, h.nd, h'.nd], fun p => by
  have := h.dp p.1
  have := h'.dp p.2
  simp only [PyData.depth, PyData.depthAll]; omega, fun p q => by simp [PyData.eqv, PyData.eqvAll, h.eq, h'.eq, Prod.ext_iff]⟩
theorem Enc.map {γ : Type} (h : Enc enc k) (f : γ → α) (hf : ∀ x y, f x = f y → x = y) : Enc (fun x => enc (f x)) k := ⟨fun x => h.nd _, fun x => h.dp _, fun x y => (h.eq _ _).trans ⟨hf x y, fun e => by rw [e]⟩⟩
theorem cmp_eqv {d e : PyData} (h : nd d = true) (h' : nd e = true) (hd : d.depth ≤ 64) : cmpD .eq d e = .ok (.bool (PyData.eqv d e)) := by
  simp only [cmpD, cmpB]
  rw [if_pos (by simp [eqok, h, h', hd])]; rfl
theorem cmp_neqv {d e : PyData} (h : nd d = true) (h' : nd e = true) (hd : d.depth ≤ 64) : cmpD .ne d e = .ok (.bool (!PyData.eqv d e)) := by
  simp only [cmpD, cmpB]
  rw [if_pos (by simp [eqok, h, h', hd])]; rfl
theorem Enc.dec (h : Enc enc k) (x y : α) [Decidable (x = y)] : PyData.eqv (enc x) (enc y) = decide (x = y) := by
  rw [Bool.eq_iff_iff, h.eq]; simp
theorem Enc.cmp (h : Enc enc k) (hk : k ≤ 64) {x y : α} [Decidable (x = y)] : cmpD .eq (enc x) (enc y) = .ok (.bool (decide (x = y))) := by
  rw [cmp_eqv (h.nd _) (h.nd _) (Nat.le_trans (h.dp _) hk), h.dec]
theorem Enc.cmpn (h : Enc enc k) (hk : k ≤ 64) {x y : α} [Decidable (x = y)] : cmpD .ne (enc x) (enc y) = .ok (.bool (!decide (x = y))) := by
  rw [cmp_neqv (h.nd _) (h.nd _) (Nat.le_trans (h.dp _) hk), h.dec]
theorem Enc.any (h : Enc enc k) (x : α) : ∀ xs : List α, ((xs.map enc).any fun y => PyData.eqv y (enc x)) = true ↔ x ∈ xs
  | [] => by simp
  | y :: ys => by
    rw [List.map_cons, List.any_cons, Bool.or_eq_true, h.any x ys, h.eq, List.mem_cons]
    constructor <;> (rintro (e | e); exact .inl e.symm; exact .inr e)
theorem Enc.anyD (h : Enc enc k) (x : α) (xs : List α) [Decidable (x ∈ xs)] : ((xs.map enc).any fun y => PyData.eqv y (enc x)) = decide (x ∈ xs) := by
  rw [Bool.eq_iff_iff, h.any]; simp
theorem Enc.inL (h : Enc enc k) (hk : k ≤ 63) {x : α} {xs : List α} [Decidable (x ∈ xs)] : cmpD .inn (enc x) (.list (xs.map enc)) = .ok (.bool (decide (x ∈ xs))) := by
  simp only [cmpD, cmpB, inD]
  rw [if_pos (by rw [h.nd, h.ndAll]; simp; exact Nat.le_trans (h.dp x) hk), h.anyD]; rfl
theorem Enc.inT (h : Enc enc k) (hk : k ≤ 63) {x : α} {xs : List α} [Decidable (x ∈ xs)] : cmpD .inn (enc x) (.tuple (xs.map enc)) = .ok (.bool (decide (x ∈ xs))) := by
  simp only [cmpD, cmpB, inD]
  rw [if_pos (by rw [h.nd, h.ndAll]; simp; exact Nat.le_trans (h.dp x) hk), h.anyD]; rfl
theorem cmp_nin {x y : PyData} {b : Bool} (h : cmpD .inn x y = .ok (.bool b)) : cmpD .nin x y = .ok (.bool (!b)) := by
  simp only [cmpD, cmpB] at h ⊢
  cases z : inD x y with
  | ok c => rw [z] at h; cases h; rfl
  | exc c d => rw [z] at h; cases h
  | stuck => rw [z] at h; cases h
theorem Enc.ninL (h : Enc enc k) (hk : k ≤ 63) {x : α} {xs : List α} [Decidable (x ∈ xs)] : cmpD .nin (enc x) (.list (xs.map enc)) = .ok (.bool (!decide (x ∈ xs))) := cmp_nin (h.inL hk)
theorem Enc.ninT (h : Enc enc k) (hk : k ≤ 63) {x : α} {xs : List α} [Decidable (x ∈ xs)] : cmpD .nin (enc x) (.tuple (xs.map enc)) = .ok (.bool (!decide (x ∈ xs))) := cmp_nin (h.inT hk)
end
/-- data of unlike kinds, or shapes -/
theorem cmp_TT0 {xs : List PyData} (h : ndAll xs = true) : cmpD .eq (.tuple xs) (.tuple []) = .ok (.bool (decide (xs = []))) := by
  simp only [cmpD, cmpB]
  rw [if_pos (by simp [eqok, nd, ndAll, h, PyData.depth, PyData.depthAll])]
  cases xs <;> simp [PyData.eqv, PyData.eqvAll]
theorem cmp_LL0 {xs : List PyData} (h : ndAll xs = true) : cmpD .eq (.list xs) (.list []) = .ok (.bool (decide (xs = []))) := by
  simp only [cmpD, cmpB]
  rw [if_pos (by simp [eqok, nd, ndAll, h, PyData.depth, PyData.depthAll])]
  cases xs <;> simp [PyData.eqv, PyData.eqvAll]
theorem cmp_nLL0 {xs : List PyData} (h : ndAll xs = true) : cmpD .ne (.list xs) (.list []) = .ok (.bool (!decide (xs = []))) := by
  simp only [cmpD, cmpB]
  rw [if_pos (by simp [eqok, nd, ndAll, h, PyData.depth, PyData.depthAll])]
  cases xs <;> simp [PyData.eqv, PyData.eqvAll]
theorem cmp_nTT0 {xs : List PyData} (h : ndAll xs = true) : cmpD .ne (.tuple xs) (.tuple []) = .ok (.bool (!decide (xs = []))) := by
  simp only [cmpD, cmpB]
  rw [if_pos (by simp [eqok, nd, ndAll, h, PyData.depth, PyData.depthAll])]
  cases xs <;> simp [PyData.eqv, PyData.eqvAll]
mutual
theorem eqv_same : ∀ d : PyData, nd d = true → PyData.eqv d d = true
  | .none, _ => rfl
  | .bool b, _ => by simp [PyData.eqv]
  | .int i, _ => by simp [PyData.eqv]
  | .str s, _ => by simp [PyData.eqv]
  | .list xs, h => by simp only [PyData.eqv]; exact eqvAll_same xs (by simpa only [nd] using h)
  | .tuple xs, h => by simp only [PyData.eqv]; exact eqvAll_same xs (by simpa only [nd] using h)
  | .dict _, h => by simp [nd] at h
theorem eqvAll_same : ∀ ds : List PyData, ndAll ds = true → PyData.eqvAll ds ds = true
  | [], _ => rfl
  | d :: ds, h => by
    simp only [ndAll, Bool.and_eq_true] at h
    simp only [PyData.eqvAll, eqv_same d h.1, eqvAll_same ds h.2, Bool.and_self]
end
/-- data and itself; the two sides are closed by reduction where the form is written -/
theorem cmp_same {d : PyData} (h : nd d = true) (h' : decide (d.depth ≤ 64) = true) : cmpD .eq d d = .ok (.bool true) := by
  rw [cmp_eqv h h (by simpa using h'), eqv_same d h]
theorem cmp_nsame {d : PyData} (h : nd d = true) (h' : decide (d.depth ≤ 64) = true) : cmpD .ne d d = .ok (.bool false) := by
  rw [cmp_neqv h h (by simpa using h'), eqv_same d h]; rfl
theorem q_cLL0 : cmpD .eq (.list []) (.list []) = .ok (.bool true) := cmp_same rfl rfl
theorem q_cTT0 : cmpD .eq (.tuple []) (.tuple []) = .ok (.bool true) := cmp_same rfl rfl
theorem q_cnLL0 : cmpD .ne (.list []) (.list []) = .ok (.bool false) := cmp_nsame rfl rfl
theorem q_cnTT0 : cmpD .ne (.tuple []) (.tuple []) = .ok (.bool false) := cmp_nsame rfl rfl
theorem cmp_LLc {x : PyData} {xs : List PyData} (h : ndAll (x :: xs) = true) : cmpD .eq (.list (x :: xs)) (.list []) = .ok (.bool false) := by rw [cmp_LL0 h]; simp
theorem cmp_nLLc {x : PyData} {xs : List PyData} (h : ndAll (x :: xs) = true) : cmpD .ne (.list (x :: xs)) (.list []) = .ok (.bool true) := by rw [cmp_nLL0 h]; simp
theorem enc_P : Enc encP 1 := ⟨fun _ => rfl, fun _ => by simp [PyData.depth, PyData.depthAll], fun x y => by simp [PyData.eqv, PyData.eqvAll, Prod.ext_iff]⟩
theorem enc_L : Enc encL 1 := ⟨fun _ => rfl, fun _ => by simp [PyData.depth, PyData.depthAll], fun x y => by cases x; cases y; simp [PyData.eqv, PyData.eqvAll]⟩
theorem enc_M : Enc encM 1 := ⟨fun _ => rfl, fun _ => by simp [PyData.depth, PyData.depthAll], fun x y => by cases x; cases y; simp [PyData.eqv, PyData.eqvAll]⟩
theorem cmp_P {a b c d : Int} : cmpD .eq (.tuple [.int a, .int b]) (.tuple [.int c, .int d]) = .ok (.bool (decide ((a, b) = (c, d)))) := enc_P.cmp (x := (a, b)) (y := (c, d)) (by decide)
theorem cmp_nP {a b c d : Int} : cmpD .ne (.tuple [.int a, .int b]) (.tuple [.int c, .int d]) = .ok (.bool (!decide ((a, b) = (c, d)))) := enc_P.cmpn (x := (a, b)) (y := (c, d)) (by decide)
theorem cmp_nM {a b c d x y a' b' c' d' x' y' : Int} : cmpD .ne (.tuple [.int a, .int b, .int c, .int d, .int x, .int y]) (.tuple [.int a', .int b', .int c', .int d', .int x', .int y']) = .ok (.bool (!decide ((⟨a, b, c, d, x, y⟩ : Mt) = ⟨a', b', c', d', x', y'⟩))) := enc_M.cmpn (x := ⟨a, b, c, d, x, y⟩) (y := ⟨a', b', c', d', x', y'⟩) (by decide)
theorem cmp_M {a b c d x y a' b' c' d' x' y' : Int} : cmpD .eq (.tuple [.int a, .int b, .int c, .int d, .int x, .int y]) (.tuple [.int a', .int b', .int c', .int d', .int x', .int y']) = .ok (.bool (decide ((⟨a, b, c, d, x, y⟩ : Mt) = ⟨a', b', c', d', x', y'⟩))) := enc_M.cmp (x := ⟨a, b, c, d, x, y⟩) (y := ⟨a', b', c', d', x', y'⟩) (by decide)
theorem cmp_nL {a b c d x a' b' c' d' x' : Int} : cmpD .ne (.tuple [.int a, .int b, .int c, .int d, .int x]) (.tuple [.int a', .int b', .int c', .int d', .int x']) = .ok (.bool (!decide ((⟨a, b, c, d, x⟩ : Pl) = ⟨a', b', c', d', x'⟩))) := enc_L.cmpn (x := ⟨a, b, c, d, x⟩) (y := ⟨a', b', c', d', x'⟩) (by decide)
theorem cmp_L {a b c d x a' b' c' d' x' : Int} : cmpD .eq (.tuple [.int a, .int b, .int c, .int d, .int x]) (.tuple [.int a', .int b', .int c', .int d', .int x']) = .ok (.bool (decide ((⟨a, b, c, d, x⟩ : Pl) = ⟨a', b', c', d', x'⟩))) := enc_L.cmp (x := ⟨a, b, c, d, x⟩) (y := ⟨a', b', c', d', x'⟩) (by decide)
theorem in_2S {x a b : Str} : cmpD .inn (.str x) (.tuple [.str a, .str b]) = .ok (.bool (decide (x = a ∨ x = b))) := by
  rw [show PyData.tuple [.str a, .str b] = .tuple ([a, b].map .str) from rfl, enc_str.inT (by decide)]; simp
theorem nin_2S {x a b : Str} : cmpD .nin (.str x) (.tuple [.str a, .str b]) = .ok (.bool (!decide (x = a ∨ x = b))) := cmp_nin in_2S
theorem in_2I {x a b : Int} : cmpD .inn (.int x) (.tuple [.int a, .int b]) = .ok (.bool (decide (x = a ∨ x = b))) := by
  rw [show PyData.tuple [.int a, .int b] = .tuple ([a, b].map .int) from rfl, enc_int.inT (by decide)]; simp
theorem nin_2I {x a b : Int} : cmpD .nin (.int x) (.tuple [.int a, .int b]) = .ok (.bool (!decide (x = a ∨ x = b))) := cmp_nin in_2I
end DP

/-! ## Plc2 -/
set_option Elab.async false
set_option linter.all false
set_option maxRecDepth 100000
set_option maxHeartbeats 4000000
set_option autoImplicit false
/-! Placings put together: as one behind the other. -/
namespace DP
open PySem
local macro_rules | `(tactic| exists $es,*) => `(tactic| simp -implicitDefEqProofs (disch := first | assumption | omega | (simp only [List.length_map, List.length_append, List.length_cons, List.length_nil]; omega) | decide | (simp [nd, ndAll, PyData.depth, PyData.depthAll]; done)) only [q_b1, q_bL, q_b2, q_mkT, q_mkL, q_cons2, q_notK, q_andK, q_andKf, q_andKt, q_orK, q_orKt, q_orKf, q_chainK, q_slcK, q_tK, q_tKf, q_cmplK, q_cl0, q_cl1, q_cl1o, q_selt, q_self, q_seqn, q_seqr, q_seqe, q_seqi, q_asgK, q_asgOK, q_nxE, q_unpK, q_unpLK, q_parK, q_exprK, q_appK, q_extK, q_retK, q_retOK, q_iteK, q_forK, q_lp0, q_lp1, q_lpS, q_lpKn, q_lpKr, q_lpKe, q_lpKi, q_frzo, q_frzv, q_slotV, q_slotLv, q_slotLo, q_optV, q_outr, q_outn, q_oute, q_outi, q_w0, q_w1, q_sa0, q_sa1, q_stn, q_stt, q_tgn, q_tgt, q_eint, q_ebl, q_enon, q_estr, q_evar, q_eglob, q_etup, q_elst, q_ebin, q_eneg, q_enot, q_eand, q_eor, q_and1, q_and2, q_or1, q_or2, q_ecmp, q_echain, q_ecall, q_etold, q_told1, q_told2, q_told3, q_told4, q_low59, q_otold, q_eblt, q_eisi, q_eidx, q_eslc, q_erev, q_ecomp, q_es0, q_es1, q_bs0, q_bs1, q_t0, q_t1, q_iplain, q_irng, q_irng2, q_fplain, q_frng, q_frng2, q_ienum, q_izip, q_irev, q_fenum, q_fzip, q_frev, q_ovar, q_oint, q_obl, q_onon, q_ostr, q_oglob, q_otup, q_olst, q_obin, q_oneg, q_onot, q_oand, q_oor, q_ocmp, q_ochain, q_ochain3, q_ocall, q_oblt, q_oisi, q_oidx, q_oslc, q_orev, q_ometh, q_ocomp, q_odctget, q_odctidx, q_pint, q_pnon, q_pglob, q_pbin, q_pneg, q_pcall, q_pblt, q_pidx, q_pvar, q_ss0, q_ss1, q_sasg, q_sasgOlst, q_sasgOcomp, q_sasgObin, q_sasgOslc, q_sasgOrev, q_sasgOlist, q_sasgOsorted, q_sunp, q_sunpL, q_spar, q_sexpr, q_sapp, q_sext, q_sret, q_sretO, q_site, q_sfor, q_spass, q_zvar, q_zint, q_zbl, q_znon, q_zstr, q_zglob, q_ztup, q_zlst, q_zbin, q_zneg, q_znot, q_zand, q_zor, q_zcmp, q_zchain, q_zchain3, q_zcall, q_zblt, q_zisi, q_zidx, q_zslc, q_zrev, q_zmeth, q_zcomp, q_zdctget, q_zdctidx, q_zrng, q_zrng2, q_zenum, q_zzip, q_zirev, q_add, q_sub, q_mulR, q_mulL, q_fdiv, q_mod, q_neg, q_cI, q_cnI, q_cS, q_cnS, q_cB, q_cnB, q_clt, q_cle, q_cgt, q_cge, q_isN, q_isnN, q_ist, q_isnt, q_isl, q_isnl, q_isi, q_isni, q_iss, q_isns, q_isb, q_isnb, q_ixt0, q_ixl0, q_ixt1, q_ixl1, q_ixt2, q_ixl2, q_ixt3, q_ixl3, q_ixt4, q_ixl4, q_ixt5, q_ixl5, q_ixt6, q_ixl6, q_ixt7, q_ixl7, q_ixt8, q_ixl8, q_lent0, q_lenl0, q_lent1, q_lenl1, q_lent2, q_lenl2, q_lent3, q_lenl3, q_lent4, q_lenl4, q_lent5, q_lenl5, q_lent6, q_lenl6, q_lent7, q_lenl7, q_lent8, q_lenl8, q_lenTm, q_lenLm, q_bint, q_bintb, q_babs, q_blst, q_blstT, q_btup, q_btupT, q_bmin, q_bmax, q_isi_int_int, q_isi_int_bool, q_isi_int_str, q_isi_int_tuple, q_isi_int_list, q_isi_int_none, q_isi_bool_int, q_isi_bool_bool, q_isi_bool_str, q_isi_bool_tuple, q_isi_bool_list, q_isi_bool_none, q_isi_str_int, q_isi_str_bool, q_isi_str_str, q_isi_str_tuple, q_isi_str_list, q_isi_str_none, q_isi_tuple_int, q_isi_tuple_bool, q_isi_tuple_str, q_isi_tuple_tuple, q_isi_tuple_list, q_isi_tuple_none, q_isi_list_int, q_isi_list_bool, q_isi_list_str, q_isi_list_tuple, q_isi_list_list, q_isi_list_none, q_itL, q_itT, q_rng0, q_rng1, q_rng2, q_rng3, q_rng4, q_revL, q_revT, q_rvL, q_rvT, q_slT, q_slL, q_xasg, q_xret, q_xb1, q_xbL, q_xb2l, q_xb2r, q_xc2l, q_xc2r, q_xmkT, q_xmkL, q_xexpr, q_xunp, q_xite, q_xparl, q_xparr, q_xnot, q_xfor, q_xslc, q_srais, q_emeth, q_mthi, q_mthz, q_mthj, q_sel, q_seqnil, q_lpTn, q_lpTr, q_lpTe, q_lpTi, q_s_line_box, q_s_line_ring, q_s_line_field, q_s_line_row, q_s_line_group, q_s_box_line, q_s_box_ring, q_s_box_field, q_s_box_row, q_s_box_group, q_s_ring_line, q_s_ring_box, q_s_ring_field, q_s_ring_row, q_s_ring_group, q_s_field_line, q_s_field_box, q_s_field_ring, q_s_field_row, q_s_field_group, q_s_row_line, q_s_row_box, q_s_row_ring, q_s_row_field, q_s_row_group, q_s_group_line, q_s_group_box, q_s_group_ring, q_s_group_field, q_s_group_row, q_Pteta, q_Pleta, q_Mteta, q_cLL0, q_cTT0, q_cnLL0, q_cnTT0, List.getD_cons_zero, List.getD_cons_succ, List.set_cons_zero, List.set_cons_succ, List.map_cons, List.map_nil, List.cons_append, List.nil_append, List.append_assoc, List.length_cons, List.length_nil, List.length_map, List.length_append, List.replicate_succ, List.replicate_zero, ↓reduceIte, decide_eq_true_eq, Bool.not_eq_true', Bool.not_true, Bool.not_false, Bool.true_and, Bool.false_and, Bool.and_true, Bool.and_false, Bool.or_true, Bool.or_false, Bool.true_or, Bool.false_or, Bool.and_eq_true, Bool.or_eq_true, Bool.not_not, decide_eq_false_iff_not, decide_true, decide_false, Bool.false_eq_true, eq_self, not_true_eq_false, not_false_eq_true, true_and, and_true, false_and, and_false, or_true, true_or, or_false, false_or, Int.reduceAdd, Int.reduceMul, Int.reduceSub, Int.reduceNeg, Int.reduceLT, Int.reduceLE, Int.reduceEq, Int.reduceMod, Int.reduceDiv, Nat.reduceAdd, Nat.reduceSub, Int.reduceNe, $[$es:term],*])
theorem mput_both (m n : Mt) (q : Int × Int) : mput (mboth m n) q = mput m (mput n q) := by
  simp only [mput, mboth, Prod.mk.injEq]
  constructor <;> grind
theorem put_tog {p q : Pl} (h : PlT p) (h' : PlT q) (z : Int × Int) : put (together p q) z = put p (put q z) := by
  rw [put_matT (together_T p q), together_matT h h', mput_both, ← put_matT h', ← put_matT h]
theorem Pl.ext {p q : Pl} (a : p.t = q.t) (b : p.f = q.f) (c : p.s = q.s) (d : p.x = q.x) (e : p.y = q.y) : p = q := by
  cases p; cases q; simp at a b c d e; simp [a, b, c, d, e]
theorem tog_assoc {p q : Pl} (r : Pl) (h : PlT p) (h' : PlT q) : together (together p q) r = together p (together q r) := by
  have e := put_tog h h' (r.x, r.y)
  refine Pl.ext ?_ ?_ ?_ ?_ ?_
  · have hf := h.f
    have hf' := h'.f
    simp only [together]
    rcases hf with e1 | e1 <;> rcases hf' with e2 | e2 <;> rw [e1, e2] <;> simp <;> omega
  · simp only [together]; omega
  · exact Int.mul_assoc _ _ _
  · exact congrArg Prod.fst e
  · exact congrArg Prod.snd e
abbrev plain : Pl := ⟨0, 0, 1, 0, 0⟩
theorem rot0 : ∀ k, rot k (0, 0) = (0, 0)
  | 0 => rfl
  | k + 1 => by show rot k (-0, 0) = _; rw [Int.neg_zero]; exact rot0 k
theorem put00 (p : Pl) : put p (0, 0) = (p.x, p.y) := by
  have : flp p.f (0, 0) = (0, 0) := by unfold flp; split <;> simp
  simp [put, this, rot0]
theorem tog_plain {p : Pl} (h : PlT p) : together p plain = p := by
  have e : put p (plain.x, plain.y) = (p.x, p.y) := put00 p
  have := h.t0; have := h.t3; have := h.f
  refine Pl.ext ?_ ?_ ?_ ?_ ?_
  · simp [together]; omega
  · simp [together]; omega
  · simp [together]
  · exact congrArg Prod.fst e
  · exact congrArg Prod.snd e
theorem plain_tog {p : Pl} (h : PlT p) : together plain p = p := by
  have := h.t0; have := h.t3; have := h.f
  refine Pl.ext ?_ ?_ ?_ ?_ ?_
  · simp [together]; omega
  · simp [together]; omega
  · simp [together]
  · simp [together, put, rot, flp]
  · simp [together, put, rot, flp]
abbrev quarter : Pl := ⟨1, 0, 1, 0, 0⟩
abbrev flipped : Pl := ⟨0, 1, 1, 0, 0⟩
theorem four_turns {p : Pl} (h : PlT p) : together (together (together (together p quarter) quarter) quarter) quarter = p := by
  have q : PlT quarter := ⟨by decide, by decide, .inl rfl⟩
  rw [tog_assoc _ (together_T _ _) q, tog_assoc _ (together_T _ _) q, tog_assoc _ h q]
  rw [show together quarter (together quarter (together quarter quarter)) = plain by decide +kernel]
  exact tog_plain h
theorem two_flips {p : Pl} (h : PlT p) : together (together p flipped) flipped = p := by
  have q : PlT flipped := ⟨by decide, by decide, .inr rfl⟩
  rw [tog_assoc _ h q, show together flipped flipped = plain by decide +kernel]
  exact tog_plain h
theorem PlW.tog {p q : Pl} (h : PlW p) (h' : PlW q) (b : p.s * q.s < 1073741824) : PlW (together p q) := by
  have T := together_T p q
  refine ⟨T.t0, T.t3, T.f, ?_, b⟩
  have := Int.mul_le_mul h.s1 h'.s1 (by decide) (by have := h.s1; omega)
  show 1 ≤ p.s * q.s
  omega
end DP

/-! ## Thg -/
set_option Elab.async false
set_option linter.all false
set_option maxRecDepth 100000
set_option maxHeartbeats 4000000
set_option autoImplicit false
/-! Things, and as the laws draw them. -/
namespace DP
open PySem
local macro_rules | `(tactic| exists $es,*) => `(tactic| simp -implicitDefEqProofs (disch := first | assumption | omega | (simp only [List.length_map, List.length_append, List.length_cons, List.length_nil]; omega) | decide | (simp [nd, ndAll, PyData.depth, PyData.depthAll]; done)) only [q_b1, q_bL, q_b2, q_mkT, q_mkL, q_cons2, q_notK, q_andK, q_andKf, q_andKt, q_orK, q_orKt, q_orKf, q_chainK, q_slcK, q_tK, q_tKf, q_cmplK, q_cl0, q_cl1, q_cl1o, q_selt, q_self, q_seqn, q_seqr, q_seqe, q_seqi, q_asgK, q_asgOK, q_nxE, q_unpK, q_unpLK, q_parK, q_exprK, q_appK, q_extK, q_retK, q_retOK, q_iteK, q_forK, q_lp0, q_lp1, q_lpS, q_lpKn, q_lpKr, q_lpKe, q_lpKi, q_frzo, q_frzv, q_slotV, q_slotLv, q_slotLo, q_optV, q_outr, q_outn, q_oute, q_outi, q_w0, q_w1, q_sa0, q_sa1, q_stn, q_stt, q_tgn, q_tgt, q_eint, q_ebl, q_enon, q_estr, q_evar, q_eglob, q_etup, q_elst, q_ebin, q_eneg, q_enot, q_eand, q_eor, q_and1, q_and2, q_or1, q_or2, q_ecmp, q_echain, q_ecall, q_etold, q_told1, q_told2, q_told3, q_told4, q_low59, q_otold, q_eblt, q_eisi, q_eidx, q_eslc, q_erev, q_ecomp, q_es0, q_es1, q_bs0, q_bs1, q_t0, q_t1, q_iplain, q_irng, q_irng2, q_fplain, q_frng, q_frng2, q_ienum, q_izip, q_irev, q_fenum, q_fzip, q_frev, q_ovar, q_oint, q_obl, q_onon, q_ostr, q_oglob, q_otup, q_olst, q_obin, q_oneg, q_onot, q_oand, q_oor, q_ocmp, q_ochain, q_ochain3, q_ocall, q_oblt, q_oisi, q_oidx, q_oslc, q_orev, q_ometh, q_ocomp, q_odctget, q_odctidx, q_pint, q_pnon, q_pglob, q_pbin, q_pneg, q_pcall, q_pblt, q_pidx, q_pvar, q_ss0, q_ss1, q_sasg, q_sasgOlst, q_sasgOcomp, q_sasgObin, q_sasgOslc, q_sasgOrev, q_sasgOlist, q_sasgOsorted, q_sunp, q_sunpL, q_spar, q_sexpr, q_sapp, q_sext, q_sret, q_sretO, q_site, q_sfor, q_spass, q_zvar, q_zint, q_zbl, q_znon, q_zstr, q_zglob, q_ztup, q_zlst, q_zbin, q_zneg, q_znot, q_zand, q_zor, q_zcmp, q_zchain, q_zchain3, q_zcall, q_zblt, q_zisi, q_zidx, q_zslc, q_zrev, q_zmeth, q_zcomp, q_zdctget, q_zdctidx, q_zrng, q_zrng2, q_zenum, q_zzip, q_zirev, q_add, q_sub, q_mulR, q_mulL, q_fdiv, q_mod, q_neg, q_cI, q_cnI, q_cS, q_cnS, q_cB, q_cnB, q_clt, q_cle, q_cgt, q_cge, q_isN, q_isnN, q_ist, q_isnt, q_isl, q_isnl, q_isi, q_isni, q_iss, q_isns, q_isb, q_isnb, q_ixt0, q_ixl0, q_ixt1, q_ixl1, q_ixt2, q_ixl2, q_ixt3, q_ixl3, q_ixt4, q_ixl4, q_ixt5, q_ixl5, q_ixt6, q_ixl6, q_ixt7, q_ixl7, q_ixt8, q_ixl8, q_lent0, q_lenl0, q_lent1, q_lenl1, q_lent2, q_lenl2, q_lent3, q_lenl3, q_lent4, q_lenl4, q_lent5, q_lenl5, q_lent6, q_lenl6, q_lent7, q_lenl7, q_lent8, q_lenl8, q_lenTm, q_lenLm, q_bint, q_bintb, q_babs, q_blst, q_blstT, q_btup, q_btupT, q_bmin, q_bmax, q_isi_int_int, q_isi_int_bool, q_isi_int_str, q_isi_int_tuple, q_isi_int_list, q_isi_int_none, q_isi_bool_int, q_isi_bool_bool, q_isi_bool_str, q_isi_bool_tuple, q_isi_bool_list, q_isi_bool_none, q_isi_str_int, q_isi_str_bool, q_isi_str_str, q_isi_str_tuple, q_isi_str_list, q_isi_str_none, q_isi_tuple_int, q_isi_tuple_bool, q_isi_tuple_str, q_isi_tuple_tuple, q_isi_tuple_list, q_isi_tuple_none, q_isi_list_int, q_isi_list_bool, q_isi_list_str, q_isi_list_tuple, q_isi_list_list, q_isi_list_none, q_itL, q_itT, q_rng0, q_rng1, q_rng2, q_rng3, q_rng4, q_revL, q_revT, q_rvL, q_rvT, q_slT, q_slL, q_xasg, q_xret, q_xb1, q_xbL, q_xb2l, q_xb2r, q_xc2l, q_xc2r, q_xmkT, q_xmkL, q_xexpr, q_xunp, q_xite, q_xparl, q_xparr, q_xnot, q_xfor, q_xslc, q_srais, q_emeth, q_mthi, q_mthz, q_mthj, q_sel, q_seqnil, q_lpTn, q_lpTr, q_lpTe, q_lpTi, q_s_line_box, q_s_line_ring, q_s_line_field, q_s_line_row, q_s_line_group, q_s_box_line, q_s_box_ring, q_s_box_field, q_s_box_row, q_s_box_group, q_s_ring_line, q_s_ring_box, q_s_ring_field, q_s_ring_row, q_s_ring_group, q_s_field_line, q_s_field_box, q_s_field_ring, q_s_field_row, q_s_field_group, q_s_row_line, q_s_row_box, q_s_row_ring, q_s_row_field, q_s_row_group, q_s_group_line, q_s_group_box, q_s_group_ring, q_s_group_field, q_s_group_row, q_Pteta, q_Pleta, q_Mteta, q_cLL0, q_cTT0, q_cnLL0, q_cnTT0, List.getD_cons_zero, List.getD_cons_succ, List.set_cons_zero, List.set_cons_succ, List.map_cons, List.map_nil, List.cons_append, List.nil_append, List.append_assoc, List.length_cons, List.length_nil, List.length_map, List.length_append, List.replicate_succ, List.replicate_zero, ↓reduceIte, decide_eq_true_eq, Bool.not_eq_true', Bool.not_true, Bool.not_false, Bool.true_and, Bool.false_and, Bool.and_true, Bool.and_false, Bool.or_true, Bool.or_false, Bool.true_or, Bool.false_or, Bool.and_eq_true, Bool.or_eq_true, Bool.not_not, decide_eq_false_iff_not, decide_true, decide_false, Bool.false_eq_true, eq_self, not_true_eq_false, not_false_eq_true, true_and, and_true, false_and, and_false, or_true, true_or, or_false, false_or, Int.reduceAdd, Int.reduceMul, Int.reduceSub, Int.reduceNeg, Int.reduceLT, Int.reduceLE, Int.reduceEq, Int.reduceMod, Int.reduceDiv, Nat.reduceAdd, Nat.reduceSub, Int.reduceNe, $[$es:term],*])
abbrev Pt := Int × Int
inductive Th where
  | line (x y : Int) | box (x y : Int) | ring (r : Int) | field (ps : List (Int × Int)) | row (n x y : Int) (t : Th) | group (ps : List (Str × Pl × Th))
abbrev Pa := Str × Pl × Th
mutual
def encT : Th → PyData
  | .line x y => .tuple [.str "line", .int x, .int y]
  | .box x y => .tuple [.str "box", .int x, .int y]
  | .ring r => .tuple [.str "ring", .int r]
  | .field ps => .tuple [.str "field", .tuple (ps.map encP)]
  | .row n x y t => .tuple [.str "row", .int n, .int x, .int y, encT t]
  | .group ps => .tuple [.str "group", .tuple (encTs ps)]
def encTs : List (Str × Pl × Th) → List PyData
  | [] => []
  | (nm, p, t) :: r => .tuple [.str nm, encL p, encT t] :: encTs r
end
abbrev encPa (q : Pa) : PyData := .tuple [.str q.1, encL q.2.1, encT q.2.2]
theorem encTs_map : ∀ ps : List Pa, encTs ps = ps.map encPa
  | [] => rfl
  | (nm, p, t) :: r => by rw [encTs, encTs_map r]; rfl
theorem encT_group (ps : List Pa) : encT (.group ps) = .tuple [.str "group", .tuple (ps.map encPa)] := by rw [encT, encTs_map]
section
variable {P : Th → Prop} (hl : ∀ x y, P (.line x y)) (hb : ∀ x y, P (.box x y)) (hr : ∀ r, P (.ring r)) (hf : ∀ ps, P (.field ps)) (hw : ∀ n x y t, P t → P (.row n x y t)) (hg : ∀ ps : List Pa, (∀ q ∈ ps, P q.2.2) → P (.group ps))
include hl hb hr hf hw hg
mutual
theorem Th.ind' : ∀ t : Th, P t
  | .line x y => hl x y
  | .box x y => hb x y
  | .ring r => hr r
  | .field ps => hf ps
  | .row n x y t => hw n x y t (Th.ind' t)
  | .group ps => hg ps (Th.indL ps)
theorem Th.indL : ∀ ps : List (Str × Pl × Th), ∀ q ∈ ps, P q.2.2
  | [], q, h => by cases h
  | (nm, p, t) :: r, q, h => by
    rcases List.mem_cons.mp h with h | h
    · rw [h]; exact Th.ind' t
    · exact Th.indL r q h
end
end
@[elab_as_elim] theorem Th.ind {P : Th → Prop} (t : Th) (line : ∀ x y, P (.line x y)) (box : ∀ x y, P (.box x y)) (ring : ∀ r, P (.ring r)) (field : ∀ ps, P (.field ps)) (row : ∀ n x y t, P t → P (.row n x y t)) (group : ∀ ps : List Pa, (∀ q ∈ ps, P q.2.2) → P (.group ps)) : P t :=
  Th.ind' line box ring field row group t
/-! measures: how deep, the greatest scale within, how many things -/
mutual
def dep : Th → Nat
  | .row _ _ _ t => dep t + 1
  | .group ps => depL ps + 1
  | _ => 0
def depL : List (Str × Pl × Th) → Nat
  | [] => 0
  | (_, _, t) :: r => max (dep t) (depL r)
end
mutual
def scl : Th → Int
  | .row _ _ _ t => scl t
  | .group ps => sclL ps
  | _ => 1
def sclL : List (Str × Pl × Th) → Int
  | [] => 1
  | (_, p, t) :: r => max (p.s * scl t) (sclL r)
end
mutual
def cnt : Th → Nat
  | .row n _ _ t => n.toNat * cnt t + 1
  | .group ps => cntL ps + 1
  | .field ps => ps.length + 2
  | _ => 2
def cntL : List (Str × Pl × Th) → Nat
  | [] => 0
  | (_, _, t) :: r => cnt t + cntL r
end
mutual
/-- placings that turn, flip and scale; rows of a few -/
def wf : Th → Prop
  | .row n _ _ t => 0 ≤ n ∧ n ≤ 6 ∧ wf t
  | .group ps => wfL ps
  | _ => True
def wfL : List (Str × Pl × Th) → Prop
  | [] => True
  | (_, p, t) :: r => (PlT p ∧ 1 ≤ p.s) ∧ wf t ∧ wfL r
end
theorem wfL_iff : ∀ ps : List Pa, wfL ps ↔ ∀ q ∈ ps, PlT q.2.1 ∧ 1 ≤ q.2.1.s ∧ wf q.2.2
  | [] => by simp [wfL]
  | (nm, p, t) :: r => by
    rw [wfL, wfL_iff r]
    constructor
    · rintro ⟨a, b, c⟩ q hq
      rcases List.mem_cons.mp hq with h | h
      · rw [h]; exact ⟨a.1, a.2, b⟩
      · exact c q h
    · intro h
      have := h _ List.mem_cons_self
      exact ⟨⟨this.1, this.2.1⟩, this.2.2, fun q hq => h q (List.mem_cons_of_mem _ hq)⟩
theorem wf_group {ps : List Pa} : wf (.group ps) ↔ ∀ q ∈ ps, PlT q.2.1 ∧ 1 ≤ q.2.1.s ∧ wf q.2.2 := by rw [wf, wfL_iff]
theorem dep_mem : ∀ {ps : List Pa} {q : Pa}, q ∈ ps → dep q.2.2 ≤ depL ps
  | (nm, p, t) :: r, q, h => by
    rw [depL]
    rcases List.mem_cons.mp h with h | h
    · rw [h]; exact Nat.le_max_left _ _
    · exact Nat.le_trans (dep_mem h) (Nat.le_max_right _ _)
theorem scl_mem : ∀ {ps : List Pa} {q : Pa}, q ∈ ps → q.2.1.s * scl q.2.2 ≤ sclL ps
  | (nm, p, t) :: r, q, h => by
    rw [sclL]
    rcases List.mem_cons.mp h with h | h
    · rw [h]; exact Int.le_max_left _ _
    · exact Int.le_trans (scl_mem h) (Int.le_max_right _ _)
theorem cnt_mem : ∀ {ps : List Pa} {q : Pa}, q ∈ ps → cnt q.2.2 ≤ cntL ps
  | (nm, p, t) :: r, q, h => by
    rw [cntL]
    rcases List.mem_cons.mp h with h | h
    · rw [h]; exact Nat.le_add_right _ _
    · have := cnt_mem h; omega
theorem sclL_pos : ∀ ps : List Pa, 1 ≤ sclL ps
  | [] => by simp [sclL]
  | (nm, p, t) :: r => by rw [sclL]; exact Int.le_trans (sclL_pos r) (Int.le_max_right _ _)
theorem scl_pos (t : Th) : 1 ≤ scl t := by
  induction t using Th.ind with
  | row n x y t ih => rw [scl]; exact ih
  | group ps _ => rw [scl]; exact sclL_pos ps
  | _ => simp [scl]
theorem cnt_pos (t : Th) : 1 ≤ cnt t := by
  cases t <;> simp [cnt]
theorem cntL_sum : ∀ ps : List Pa, cntL ps = (ps.map fun q => cnt q.2.2).sum
  | [] => rfl
  | (nm, p, t) :: r => by rw [cntL, cntL_sum r]; rfl
theorem cntL_len : ∀ ps : List Pa, ps.length ≤ cntL ps
  | [] => Nat.le_refl _
  | (nm, p, t) :: r => by
    rw [cntL, List.length_cons]
    have := cnt_pos t
    have := cntL_len r
    omega
theorem depL_le {ps : List Pa} {k : Nat} (h : ∀ q ∈ ps, dep q.2.2 ≤ k) : depL ps ≤ k := by
  induction ps with
  | nil => simp [depL]
  | cons q r ih =>
    obtain ⟨nm, p, t⟩ := q
    rw [depL]
    exact Nat.max_le.mpr ⟨h _ List.mem_cons_self, ih fun q hq => h q (List.mem_cons_of_mem _ hq)⟩
theorem sclL_le {ps : List Pa} {k : Int} (hk : 1 ≤ k) (h : ∀ q ∈ ps, q.2.1.s * scl q.2.2 ≤ k) : sclL ps ≤ k := by
  induction ps with
  | nil => simpa [sclL] using hk
  | cons q r ih =>
    obtain ⟨nm, p, t⟩ := q
    rw [sclL]
    exact Int.max_le.mpr ⟨h _ List.mem_cons_self, ih fun q hq => h q (List.mem_cons_of_mem _ hq)⟩
theorem cntL_le {ps : List Pa} {k : Nat} (h : ∀ q ∈ ps, cnt q.2.2 ≤ k) : cntL ps ≤ ps.length * k := by
  induction ps with
  | nil => simp [cntL]
  | cons q r ih =>
    obtain ⟨nm, p, t⟩ := q
    rw [cntL, List.length_cons, Nat.add_mul]
    have := h _ List.mem_cons_self
    have := ih fun q hq => h q (List.mem_cons_of_mem _ hq)
    simp only at *
    omega

def nmOf (n : Int) : Str := pick ["a", "b", "c", "d", "e", "legs", "roof", "x", "door", "z"] "a" (n % 10)
def addPt (n : Int) (acc : List (Int × Int)) (k : Nat) : List (Int × Int) :=
  let p := point (drawn n (20 + (k : Int)) / 4)
  let q := if n / 4 % 2 = 0 then (p.1 % 9, p.2 % 9) else p
  if q ∈ acc then acc else acc ++ [q]
def ptsOf (n : Int) : List (Int × Int) := (List.range 12).foldl (addPt n) []
def simple (n : Int) : Th :=
  let p := point n
  if n % 4 = 0 then .line (p.1 + if p.1 = 0 ∧ p.2 = 0 then 1 else 0) p.2
  else if n % 4 = 1 then .box ((if p.1 < 0 then -p.1 else p.1) + if p.1 = 0 then 1 else 0) ((if p.2 < 0 then -p.2 else p.2) + if p.2 = 0 then 1 else 0)
  else if n % 4 = 2 then .ring ((if p.1 < 0 then -p.1 else p.1) + if p.1 = 0 then 1 else 0)
  else if ((ptsOf n).length : Int) < 3 + n / 8 % 4 then .ring 7 else .field (cutL (ptsOf n) none (some (3 + n / 8 % 4)))
def addPart (sub : Int → Th) (deep : Bool) (n : Int) (acc : List Pa) (k : Nat) : List Pa :=
  let d := drawn n (8 + (k : Int)) / 4
  if nmOf d ∉ acc.map (·.1) ∧ deep = true then acc ++ [(nmOf d, placing (d / 16), sub (drawn d 9 / 4))] else acc
def many (n : Int) : Int := pick [2, 3, 1, 4, 0, 3, 2, 4] 1 (n % 8)
def groupOf (sub : Int → Th) (deep : Bool) (n : Int) : Th := .group ((List.range (many n).toNat).foldl (addPart sub deep n) [])
def rowMany (n : Int) : Int := 1 + n / 32 % pick [3, 6, 2] 1 (n / 256 % 3)
def thing : Nat → Int → Th
  | 0, n => simple (drawn n 4 / 4)
  | d + 1, n => if d = 0 ∨ n / 4 % 8 < 4 then simple (drawn n 4 / 4)
    else if n / 4 % 8 = 4 then .row (rowMany n) (point (drawn n 5 / 4)).1 (point (drawn n 5 / 4)).2 (thing d (drawn n 6 / 4))
    else groupOf (thing d) (decide (0 < d)) (drawn n 7 / 4)
def group (d : Nat) (n : Int) : Th := groupOf (thing (d - 1)) (decide (1 < d)) n

mutual
/-- a thing within the document's bounds, but its depth and its names -/
def drw : Th → Prop
  | .line x y => -999 ≤ x ∧ x ≤ 999 ∧ -999 ≤ y ∧ y ≤ 999 ∧ ¬ (x = 0 ∧ y = 0)
  | .box x y => 1 ≤ x ∧ x ≤ 999 ∧ 1 ≤ y ∧ y ≤ 999
  | .ring r => 1 ≤ r ∧ r ≤ 999
  | .field ps => 3 ≤ ps.length ∧ ps.length ≤ 6 ∧ ps.Nodup ∧ ∀ p ∈ ps, -999 ≤ p.1 ∧ p.1 ≤ 999 ∧ -999 ≤ p.2 ∧ p.2 ≤ 999
  | .row n x y t => (1 ≤ n ∧ n ≤ 6 ∧ -999 ≤ x ∧ x ≤ 999 ∧ -999 ≤ y ∧ y ≤ 999) ∧ drw t
  | .group ps => ((ps.map (·.1)).Nodup ∧ ps.length ≤ 4) ∧ drwL ps
def drwL : List (Str × Pl × Th) → Prop
  | [] => True
  | (nm, p, t) :: r => ((∃ a, nm = nmOf a) ∧ PlOk p) ∧ drw t ∧ drwL r
end
theorem drwL_iff : ∀ ps : List Pa, drwL ps ↔ ∀ q ∈ ps, (∃ a, q.1 = nmOf a) ∧ PlOk q.2.1 ∧ drw q.2.2
  | [] => by simp [drwL]
  | (nm, p, t) :: r => by
    rw [drwL, drwL_iff r]
    constructor
    · rintro ⟨a, b, c⟩ q hq
      rcases List.mem_cons.mp hq with h | h
      · rw [h]; exact ⟨a.1, a.2, b⟩
      · exact c q h
    · intro h
      have := h _ List.mem_cons_self
      exact ⟨⟨this.1, this.2.1⟩, this.2.2, fun q hq => h q (List.mem_cons_of_mem _ hq)⟩
theorem addPt_mem {n : Int} {acc : List (Int × Int)} {k : Nat} (h : acc.Nodup ∧ ∀ p ∈ acc, -999 ≤ p.1 ∧ p.1 ≤ 999 ∧ -999 ≤ p.2 ∧ p.2 ≤ 999) : (addPt n acc k).Nodup ∧ (∀ p ∈ addPt n acc k, -999 ≤ p.1 ∧ p.1 ≤ 999 ∧ -999 ≤ p.2 ∧ p.2 ≤ 999) ∧ (addPt n acc k).length ≤ acc.length + 1 := by
  unfold addPt
  simp only []
  have hb := point_bd (drawn n (20 + (k : Int)) / 4)
  generalize point (drawn n (20 + (k : Int)) / 4) = p at hb
  have hq : -999 ≤ (if n / 4 % 2 = 0 then (p.1 % 9, p.2 % 9) else p).1 ∧ (if n / 4 % 2 = 0 then (p.1 % 9, p.2 % 9) else p).1 ≤ 999 ∧ -999 ≤ (if n / 4 % 2 = 0 then (p.1 % 9, p.2 % 9) else p).2 ∧ (if n / 4 % 2 = 0 then (p.1 % 9, p.2 % 9) else p).2 ≤ 999 := by
    split
    · simp only []; omega
    · exact hb
  generalize (if n / 4 % 2 = 0 then (p.1 % 9, p.2 % 9) else p) = q at hq
  by_cases hm : q ∈ acc
  · rw [if_pos hm]; exact ⟨h.1, h.2, by omega⟩
  · rw [if_neg hm]
    refine ⟨?_, fun r hr => ?_, by simp⟩
    · rw [List.nodup_append]
      refine ⟨h.1, by simp, fun a ha b hb e => ?_⟩
      simp only [List.mem_singleton] at hb
      subst hb; subst e
      exact hm ha
    · rcases List.mem_append.mp hr with hr | hr
      · exact h.2 r hr
      · simp only [List.mem_singleton] at hr
        subst hr; exact hq
theorem pts_ok (n : Int) : (ptsOf n).Nodup ∧ ∀ p ∈ ptsOf n, -999 ≤ p.1 ∧ p.1 ≤ 999 ∧ -999 ≤ p.2 ∧ p.2 ≤ 999 := by
  have key : ∀ (ks : List Nat) (acc : List (Int × Int)), (acc.Nodup ∧ ∀ p ∈ acc, -999 ≤ p.1 ∧ p.1 ≤ 999 ∧ -999 ≤ p.2 ∧ p.2 ≤ 999) → (ks.foldl (addPt n) acc).Nodup ∧ ∀ p ∈ ks.foldl (addPt n) acc, -999 ≤ p.1 ∧ p.1 ≤ 999 ∧ -999 ≤ p.2 ∧ p.2 ≤ 999 := by
    intro ks
    induction ks with
    | nil => exact fun acc h => h
    | cons k ks ih => exact fun acc h => ih _ ⟨(addPt_mem h).1, (addPt_mem h).2.1⟩
  exact key _ [] ⟨List.nodup_nil, by simp⟩
theorem cutL_to {α : Type} {xs : List α} {k : Int} (h : 0 ≤ k) (hk : k ≤ xs.length) : cutL xs none (some k) = xs.take k.toNat := by
  have hn : ¬ k < 0 := by omega
  simp only [cutL, HT.sIx]
  simp only [hn, if_false]
  have : min k (xs.length : Int) = k := by omega
  simp [this]
theorem drw_simple (n : Int) : drw (simple n) := by
  unfold simple
  simp only []
  have hb := point_bd n
  generalize point n = p at hb
  split
  · rw [drw]; split <;> omega
  · split
    · rw [drw]; (repeat' split) <;> omega
    · split
      · rw [drw]; (repeat' split) <;> omega
      · split
        · rw [drw]; omega
        · rename_i hl
          have h := pts_ok n
          rw [drw, cutL_to (by omega) (by omega)]
          refine ⟨?_, ?_, ?_, fun p hp => h.2 p (List.take_subset _ _ hp)⟩
          · rw [List.length_take]; omega
          · rw [List.length_take]; omega
          · exact h.1.sublist (List.take_sublist _ _)
theorem many_bd (n : Int) : 0 ≤ many n ∧ many n ≤ 4 := by
  have h : many n ∈ [2, 3, 1, 4, 0, 3, 2, 4] := pick_mem (by omega) (by simp; omega)
  simp at h
  omega
theorem rowMany_bd (n : Int) : 1 ≤ rowMany n ∧ rowMany n ≤ 6 ∧ 0 < pick [3, 6, 2] (1 : Int) (n / 256 % 3) := by
  have h : pick [3, 6, 2] (1 : Int) (n / 256 % 3) ∈ [3, 6, 2] := pick_mem (by omega) (by simp; omega)
  simp at h
  unfold rowMany
  rcases h with h | h | h <;> rw [h] <;> omega
theorem fold_part {sub : Int → Th} {deep : Bool} {n : Int} {Q : Th → Prop} (hs : deep = true → ∀ m, Q (sub m)) : ∀ (ks : List Nat) (acc : List Pa), ((∀ q ∈ acc, (∃ a, q.1 = nmOf a) ∧ PlOk q.2.1 ∧ Q q.2.2) ∧ (acc.map (·.1)).Nodup) →
    ((∀ q ∈ ks.foldl (addPart sub deep n) acc, (∃ a, q.1 = nmOf a) ∧ PlOk q.2.1 ∧ Q q.2.2) ∧ ((ks.foldl (addPart sub deep n) acc).map (·.1)).Nodup) ∧ (ks.foldl (addPart sub deep n) acc).length ≤ acc.length + ks.length
  | [], acc, h => ⟨h, by simp⟩
  | k :: ks, acc, h => by
    have st : ((∀ q ∈ addPart sub deep n acc k, (∃ a, q.1 = nmOf a) ∧ PlOk q.2.1 ∧ Q q.2.2) ∧ ((addPart sub deep n acc k).map (·.1)).Nodup) ∧ (addPart sub deep n acc k).length ≤ acc.length + 1 := by
      unfold addPart
      simp only []
      split
      · rename_i hh
        refine ⟨⟨fun q hq => ?_, ?_⟩, by simp⟩
        · rcases List.mem_append.mp hq with hq | hq
          · exact h.1 q hq
          · simp only [List.mem_singleton] at hq
            subst hq
            exact ⟨⟨_, rfl⟩, placing_ok _, hs hh.2 _⟩
        · rw [List.map_append, List.nodup_append]
          refine ⟨h.2, by simp, fun a ha b hb e => ?_⟩
          simp only [List.map_cons, List.map_nil, List.mem_singleton] at hb
          subst hb; subst e
          exact hh.1 ha
      · exact ⟨h, by omega⟩
    obtain ⟨a, b⟩ := fold_part hs ks (addPart sub deep n acc k) st.1
    exact ⟨a, by simp only [List.foldl_cons, List.length_cons]; omega⟩
theorem groupOf_ok {sub : Int → Th} {deep : Bool} {n : Int} {Q : Th → Prop} (hs : deep = true → ∀ m, Q (sub m)) : ∃ ps : List Pa, groupOf sub deep n = .group ps ∧ (∀ q ∈ ps, (∃ a, q.1 = nmOf a) ∧ PlOk q.2.1 ∧ Q q.2.2) ∧ (ps.map (·.1)).Nodup ∧ ps.length ≤ 4 := by
  obtain ⟨a, b⟩ := fold_part (n := n) hs (List.range (many n).toNat) [] ⟨by simp, by simp⟩
  have := many_bd n
  refine ⟨_, rfl, a.1, a.2, ?_⟩
  simp at b
  omega
/-- what is drawn d deep -/
structure Dr (d : Nat) (t : Th) : Prop where
  drw : drw t
  dep : dep t ≤ d
theorem dr_group {d : Nat} {ps : List Pa} (h : ∀ q ∈ ps, (∃ a, q.1 = nmOf a) ∧ PlOk q.2.1 ∧ Dr d q.2.2) (nd : (ps.map (·.1)).Nodup) (hl : ps.length ≤ 4) : Dr (d + 1) (.group ps) := by
  refine ⟨?_, ?_⟩
  · rw [drw, drwL_iff]
    exact ⟨⟨nd, hl⟩, fun q hq => ⟨(h q hq).1, (h q hq).2.1, (h q hq).2.2.drw⟩⟩
  · rw [dep]
    have := depL_le (ps := ps) (k := d) fun q hq => (h q hq).2.2.dep
    omega
theorem dr_simple (d : Nat) (n : Int) : Dr d (simple n) := ⟨drw_simple n, by unfold simple; simp only []; (repeat' split) <;> simp [dep]⟩
theorem dr_thing : ∀ (d : Nat) (n : Int), Dr (d - 1) (thing d n)
  | 0, n => by rw [thing]; exact dr_simple _ _
  | d + 1, n => by
    rw [thing]
    split
    · exact dr_simple _ _
    · rename_i hd
      obtain ⟨e, rfl⟩ : ∃ e, d = e + 1 := ⟨d - 1, by omega⟩
      split
      · have h := dr_thing (e + 1) (drawn n 6 / 4)
        have := rowMany_bd n
        have := point_bd (drawn n 5 / 4)
        refine ⟨?_, ?_⟩
        · rw [drw]; exact ⟨by omega, h.drw⟩
        · rw [dep]; have := h.dep; simp only [Nat.add_sub_cancel] at *; omega
      · obtain ⟨ps, e1, h, nd, hl⟩ := groupOf_ok (sub := thing (e + 1)) (deep := decide (0 < e + 1)) (n := drawn n 7 / 4) (Q := Dr e) fun _ m => dr_thing (e + 1) m
        rw [e1]
        exact dr_group h nd hl
theorem dr_group_of (d : Nat) (n : Int) (hd : 2 ≤ d) : Dr (d - 1) (group d n) ∧ ∃ ps, group d n = .group ps := by
  obtain ⟨f, rfl⟩ : ∃ f, d = f + 1 + 1 := ⟨d - 2, by omega⟩
  obtain ⟨ps, e1, h, nd, hl⟩ := groupOf_ok (sub := thing (f + 1)) (deep := decide (1 < f + 1 + 1)) (n := n) (Q := Dr f) fun _ m => dr_thing (f + 1) m
  exact ⟨(show group (f + 1 + 1) n = .group ps from e1) ▸ dr_group h nd hl, ps, e1⟩
/-- what is drawn is well formed, and small -/
theorem drw_wf (t : Th) : drw t → wf t := by
  induction t using Th.ind with
  | row n x y t ih => rw [drw, wf]; exact fun h => ⟨by omega, by omega, ih h.2⟩
  | group ps ih =>
    rw [drw, drwL_iff, wf_group]
    exact fun h q hq => ⟨(h.2 q hq).2.1.w.T, (h.2 q hq).2.1.s1, ih q hq (h.2 q hq).2.2⟩
  | _ => intro _; trivial
theorem drw_scl (t : Th) : drw t → scl t ≤ 9 ^ dep t := by
  induction t using Th.ind with
  | row n x y t ih =>
    rw [drw, scl, dep, Int.pow_succ]
    intro h
    have := ih h.2
    have := scl_pos t
    omega
  | group ps ih =>
    rw [drw, drwL_iff, scl, dep, Int.pow_succ]
    intro h
    have p9 : (1 : Int) ≤ 9 ^ depL ps := Int.pow_pos (by decide)
    refine sclL_le (by omega) fun q hq => ?_
    have h1 := ih q hq (h.2 q hq).2.2
    have h2 := (h.2 q hq).2.1
    have h3 : (9 : Int) ^ dep q.2.2 ≤ 9 ^ depL ps := by
      have := Nat.pow_le_pow_right (n := 9) (by decide) (dep_mem hq)
      exact_mod_cast this
    have h4 := scl_pos q.2.2
    have h5 : q.2.1.s * scl q.2.2 ≤ 9 * 9 ^ depL ps := Int.mul_le_mul h2.s9 (Int.le_trans h1 h3) (by omega) (by omega)
    rw [Int.mul_comm (9 ^ depL ps)]; exact h5
  | _ => intro _; simp [scl, dep]
theorem drw_cnt (t : Th) : drw t → cnt t ≤ 8 * 8 ^ dep t := by
  induction t using Th.ind with
  | row n x y t ih =>
    rw [drw, cnt, dep, Nat.pow_succ]
    intro h
    have h1 := ih h.2
    have h2 : n.toNat ≤ 6 := by omega
    have h3 : n.toNat * cnt t ≤ 6 * (8 * 8 ^ dep t) := Nat.mul_le_mul h2 h1
    have := cnt_pos t
    omega
  | group ps ih =>
    rw [drw, drwL_iff, cnt, dep, Nat.pow_succ]
    intro h
    have p7 : 1 ≤ 8 ^ depL ps := Nat.pos_of_ne_zero (by simp)
    have h1 : cntL ps ≤ ps.length * (8 * 8 ^ depL ps) := cntL_le fun q hq => Nat.le_trans (ih q hq (h.2 q hq).2.2) (Nat.mul_le_mul_left _ (Nat.pow_le_pow_right (by decide) (dep_mem hq)))
    have h2 : ps.length * (8 * 8 ^ depL ps) ≤ 4 * (8 * 8 ^ depL ps) := Nat.mul_le_mul_right _ h.1.2
    omega
  | field ps => rw [drw]; intro h; simp [cnt, dep]; omega
  | _ => intro _; simp [cnt, dep]
end DP

/-! ## Thg2 -/
set_option Elab.async false
set_option linter.all false
set_option maxRecDepth 100000
set_option maxHeartbeats 4000000
set_option autoImplicit false
/-! What the drawing functions draw. -/
namespace DP
open PySem
local macro_rules | `(tactic| exists $es,*) => `(tactic| simp -implicitDefEqProofs (disch := first | assumption | omega | (simp only [List.length_map, List.length_append, List.length_cons, List.length_nil]; omega) | decide | (simp [nd, ndAll, PyData.depth, PyData.depthAll]; done)) only [q_b1, q_bL, q_b2, q_mkT, q_mkL, q_cons2, q_notK, q_andK, q_andKf, q_andKt, q_orK, q_orKt, q_orKf, q_chainK, q_slcK, q_tK, q_tKf, q_cmplK, q_cl0, q_cl1, q_cl1o, q_selt, q_self, q_seqn, q_seqr, q_seqe, q_seqi, q_asgK, q_asgOK, q_nxE, q_unpK, q_unpLK, q_parK, q_exprK, q_appK, q_extK, q_retK, q_retOK, q_iteK, q_forK, q_lp0, q_lp1, q_lpS, q_lpKn, q_lpKr, q_lpKe, q_lpKi, q_frzo, q_frzv, q_slotV, q_slotLv, q_slotLo, q_optV, q_outr, q_outn, q_oute, q_outi, q_w0, q_w1, q_sa0, q_sa1, q_stn, q_stt, q_tgn, q_tgt, q_eint, q_ebl, q_enon, q_estr, q_evar, q_eglob, q_etup, q_elst, q_ebin, q_eneg, q_enot, q_eand, q_eor, q_and1, q_and2, q_or1, q_or2, q_ecmp, q_echain, q_ecall, q_etold, q_told1, q_told2, q_told3, q_told4, q_low59, q_otold, q_eblt, q_eisi, q_eidx, q_eslc, q_erev, q_ecomp, q_es0, q_es1, q_bs0, q_bs1, q_t0, q_t1, q_iplain, q_irng, q_irng2, q_fplain, q_frng, q_frng2, q_ienum, q_izip, q_irev, q_fenum, q_fzip, q_frev, q_ovar, q_oint, q_obl, q_onon, q_ostr, q_oglob, q_otup, q_olst, q_obin, q_oneg, q_onot, q_oand, q_oor, q_ocmp, q_ochain, q_ochain3, q_ocall, q_oblt, q_oisi, q_oidx, q_oslc, q_orev, q_ometh, q_ocomp, q_odctget, q_odctidx, q_pint, q_pnon, q_pglob, q_pbin, q_pneg, q_pcall, q_pblt, q_pidx, q_pvar, q_ss0, q_ss1, q_sasg, q_sasgOlst, q_sasgOcomp, q_sasgObin, q_sasgOslc, q_sasgOrev, q_sasgOlist, q_sasgOsorted, q_sunp, q_sunpL, q_spar, q_sexpr, q_sapp, q_sext, q_sret, q_sretO, q_site, q_sfor, q_spass, q_zvar, q_zint, q_zbl, q_znon, q_zstr, q_zglob, q_ztup, q_zlst, q_zbin, q_zneg, q_znot, q_zand, q_zor, q_zcmp, q_zchain, q_zchain3, q_zcall, q_zblt, q_zisi, q_zidx, q_zslc, q_zrev, q_zmeth, q_zcomp, q_zdctget, q_zdctidx, q_zrng, q_zrng2, q_zenum, q_zzip, q_zirev, q_add, q_sub, q_mulR, q_mulL, q_fdiv, q_mod, q_neg, q_cI, q_cnI, q_cS, q_cnS, q_cB, q_cnB, q_clt, q_cle, q_cgt, q_cge, q_isN, q_isnN, q_ist, q_isnt, q_isl, q_isnl, q_isi, q_isni, q_iss, q_isns, q_isb, q_isnb, q_ixt0, q_ixl0, q_ixt1, q_ixl1, q_ixt2, q_ixl2, q_ixt3, q_ixl3, q_ixt4, q_ixl4, q_ixt5, q_ixl5, q_ixt6, q_ixl6, q_ixt7, q_ixl7, q_ixt8, q_ixl8, q_lent0, q_lenl0, q_lent1, q_lenl1, q_lent2, q_lenl2, q_lent3, q_lenl3, q_lent4, q_lenl4, q_lent5, q_lenl5, q_lent6, q_lenl6, q_lent7, q_lenl7, q_lent8, q_lenl8, q_lenTm, q_lenLm, q_bint, q_bintb, q_babs, q_blst, q_blstT, q_btup, q_btupT, q_bmin, q_bmax, q_isi_int_int, q_isi_int_bool, q_isi_int_str, q_isi_int_tuple, q_isi_int_list, q_isi_int_none, q_isi_bool_int, q_isi_bool_bool, q_isi_bool_str, q_isi_bool_tuple, q_isi_bool_list, q_isi_bool_none, q_isi_str_int, q_isi_str_bool, q_isi_str_str, q_isi_str_tuple, q_isi_str_list, q_isi_str_none, q_isi_tuple_int, q_isi_tuple_bool, q_isi_tuple_str, q_isi_tuple_tuple, q_isi_tuple_list, q_isi_tuple_none, q_isi_list_int, q_isi_list_bool, q_isi_list_str, q_isi_list_tuple, q_isi_list_list, q_isi_list_none, q_itL, q_itT, q_rng0, q_rng1, q_rng2, q_rng3, q_rng4, q_revL, q_revT, q_rvL, q_rvT, q_slT, q_slL, q_xasg, q_xret, q_xb1, q_xbL, q_xb2l, q_xb2r, q_xc2l, q_xc2r, q_xmkT, q_xmkL, q_xexpr, q_xunp, q_xite, q_xparl, q_xparr, q_xnot, q_xfor, q_xslc, q_srais, q_emeth, q_mthi, q_mthz, q_mthj, q_sel, q_seqnil, q_lpTn, q_lpTr, q_lpTe, q_lpTi, q_s_line_box, q_s_line_ring, q_s_line_field, q_s_line_row, q_s_line_group, q_s_box_line, q_s_box_ring, q_s_box_field, q_s_box_row, q_s_box_group, q_s_ring_line, q_s_ring_box, q_s_ring_field, q_s_ring_row, q_s_ring_group, q_s_field_line, q_s_field_box, q_s_field_ring, q_s_field_row, q_s_field_group, q_s_row_line, q_s_row_box, q_s_row_ring, q_s_row_field, q_s_row_group, q_s_group_line, q_s_group_box, q_s_group_ring, q_s_group_field, q_s_group_row, q_Pteta, q_Pleta, q_Mteta, q_cLL0, q_cTT0, q_cnLL0, q_cnTT0, List.getD_cons_zero, List.getD_cons_succ, List.set_cons_zero, List.set_cons_succ, List.map_cons, List.map_nil, List.cons_append, List.nil_append, List.append_assoc, List.length_cons, List.length_nil, List.length_map, List.length_append, List.replicate_succ, List.replicate_zero, ↓reduceIte, decide_eq_true_eq, Bool.not_eq_true', Bool.not_true, Bool.not_false, Bool.true_and, Bool.false_and, Bool.and_true, Bool.and_false, Bool.or_true, Bool.or_false, Bool.true_or, Bool.false_or, Bool.and_eq_true, Bool.or_eq_true, Bool.not_not, decide_eq_false_iff_not, decide_true, decide_false, Bool.false_eq_true, eq_self, not_true_eq_false, not_false_eq_true, true_and, and_true, false_and, and_false, or_true, true_or, or_false, false_or, Int.reduceAdd, Int.reduceMul, Int.reduceSub, Int.reduceNeg, Int.reduceLT, Int.reduceLE, Int.reduceEq, Int.reduceMod, Int.reduceDiv, Nat.reduceAdd, Nat.reduceSub, Int.reduceNe, $[$es:term],*])
structure ThgOk (G : Prog) : Prop extends GenOk G where
  name : Has G "_law_name" d_law_name
  simple : Has G "_law_simple" d_law_simple
  thing : Has G "_law_thing" d_law_thing
  group : Has G "_law_group" d_law_group
theorem idx_LS {xs : List Str} {d : Str} {i : Int} (h0 : 0 ≤ i) (h1 : i < xs.length) : idxD (.list (xs.map .str)) (.int i) = .ok (.str (pick xs d i)) := by
  rw [← pick_map PyData.str]
  simp [idxD, atI_pick (xs := xs.map PyData.str) (d := .str d) h0 (by simpa using h1)]
theorem tab10 {a0 a1 a2 a3 a4 a5 a6 a7 a8 a9 : Str} {i : Int} (h0 : 0 ≤ i) (h1 : i < 10) : idxD (.list [.str a0, .str a1, .str a2, .str a3, .str a4, .str a5, .str a6, .str a7, .str a8, .str a9]) (.int i) = .ok (.str (pick [a0, a1, a2, a3, a4, a5, a6, a7, a8, a9] "a" i)) :=
  idx_LS (xs := [a0, a1, a2, a3, a4, a5, a6, a7, a8, a9]) h0 h1
theorem nin_P {a b : Int} {ps : List (Int × Int)} : cmpD .nin (.tuple [.int a, .int b]) (.list (ps.map encP)) = .ok (.bool (!decide ((a, b) ∈ ps))) := enc_P.ninL (x := (a, b)) (by decide)
theorem nin_S {p : Str} {ps : List Str} : cmpD .nin (.str p) (.list (ps.map .str)) = .ok (.bool (!decide (p ∈ ps))) := enc_str.ninL (by decide)
theorem cutL_map {α β : Type} (f : α → β) (xs : List α) (lo hi : Option Int) : cutL (xs.map f) lo hi = (cutL xs lo hi).map f := by
  simp [cutL, List.map_take, List.map_drop]
theorem rng_n {n : Int} (h0 : -4611686018427387904 ≤ n) (h1 : n ≤ 1000000) : rngD (.int n) = .ok ((List.range n.toNat).map fun k : Nat => .int (k : Int)) := by
  simp only [rngD]
  rw [if_pos (by omega)]
  simp [rangeD]
theorem addPt_len (n : Int) (acc : List (Int × Int)) (k : Nat) : (addPt n acc k).length ≤ acc.length + 1 := by
  unfold addPt
  simp only []
  split <;> split <;> simp
theorem getD_set {ρ : DEnv} {i : Nat} {x : Slot} (h : i < ρ.length) : (ρ.set i x).getD i .un = x := by
  simp [List.getD_eq_getElem?_getD, h]
/-- the names of parts -/
theorem cmpl_fst {C : Ctx} {ρ : DEnv} {i : Nat} {ps : List Pa} (h : i < ρ.length) : cmpl C .nil (.idx (.var i) (.int 0)) (.name i) ρ (ps.map encPa) = .ok ((ps.map (·.1)).map .str) := by
  rw [List.map_map, cmpl_map (fun q : Pa => .str q.1) ps fun q _ rs => ?_]; rfl
  exists getD_set h
/-- the second of pairs -/
theorem cmpl_snd {C : Ctx} {ρ : DEnv} {i j : Nat} {α : Type} {f g : α → PyData} {xs : List α} (h : j < ρ.length) : cmpl C .nil (.var j) (.tup [i, j]) ρ (xs.map fun x => .tuple [f x, g x]) = .ok (xs.map g) := by
  refine cmpl_map g xs fun q _ rs => ?_
  have h' : ∀ a, j < (ρ.set i a).length := fun a => by simpa using h
  exists getD_set (h' _)
theorem k_seq {C : Ctx} {ss : DSs} {r r' : Res Flw} {R : Res PyData} (h : r = r') (h2 : outF (seqK C ss r') = R) : outF (seqK C ss r) = R := by rw [h]; exact h2
theorem k_seq2 {C C' : Ctx} {ss ss' : DSs} {r r' : Res Flw} {R : Res PyData} (h : r = r') (h2 : outF (seqK C ss (seqK C' ss' r')) = R) : outF (seqK C ss (seqK C' ss' r)) = R := by rw [h]; exact h2
theorem k_end {r r' : Res Flw} {R : Res PyData} (h : r = r') (h2 : outF r' = R) : outF r = R := by rw [h]; exact h2
section
variable {G : Prog} {n : Nat}
theorem ev_name (g : ThgOk G) (hn : 1 ≤ n) {a : Int} : callD G n "_law_name" [.int a] = .ok (.str (nmOf a)) := by
  refine k_go g.name (by omega) rfl ?_
  exists d_law_name, tab10
  rfl
theorem ev_simple0 (gg : GenOk G) (gs : Has G "_law_simple" d_law_simple) (hn : 4 ≤ n) {a : Int} : callD G n "_law_simple" [.int a] = .ok (encT (simple a)) := by
  have h : a % 4 = 0 ∨ a % 4 = 1 ∨ a % 4 = 2 ∨ a % 4 = 3 := by omega
  rcases h with h | h | h | h
  · refine k_go gs (by omega) rfl ?_
    exists d_law_simple, ev_point gg, h
    simp [simple, encT, h]
  · refine k_go gs (by omega) rfl ?_
    exists d_law_simple, ev_point gg, h
    simp [simple, encT, h]
  · refine k_go gs (by omega) rfl ?_
    exists d_law_simple, ev_point gg, h
    simp [simple, encT, h]
  · refine k_go gs (by omega) rfl ?_
    exists d_law_simple, ev_point gg, h, rng_n
    refine k_seq (lp_fold (fun acc : List (Int × Int) => [.val (.int a), .own (.list (acc.map encP)), .un, .un, .val (.int (point a).1), .val (.int (point a).2), .un]) (addPt a) (fun acc xs => acc.length + xs.length ≤ 12) (fun acc x xs hI => ?_) (List.range 12) [] (by simp)) ?_
    · have hl := addPt_len a acc x
      simp only [List.length_cons] at hI
      refine ⟨by omega, ?_⟩
      by_cases hc : a / 4 % 2 = 0
      · by_cases hm : ((point (drawn a (20 + (x : Int)) / 4)).1 % 9, (point (drawn a (20 + (x : Int)) / 4)).2 % 9) ∈ acc
        · rw [show addPt a acc x = acc by simp only [addPt, if_pos hc, if_pos hm]]
          exists ev_point gg, ev_drawn gg, nin_P, hc, hm
        · rw [show addPt a acc x = acc ++ [((point (drawn a (20 + (x : Int)) / 4)).1 % 9, (point (drawn a (20 + (x : Int)) / 4)).2 % 9)] by simp only [addPt, if_pos hc, if_neg hm], List.map_append]
          exists ev_point gg, ev_drawn gg, nin_P, hc, hm, LIM
      · by_cases hm : point (drawn a (20 + (x : Int)) / 4) ∈ acc
        · rw [show addPt a acc x = acc by simp only [addPt, if_neg hc, if_pos hm]]
          exists ev_point gg, ev_drawn gg, nin_P, hc, hm
        · rw [show addPt a acc x = acc ++ [point (drawn a (20 + (x : Int)) / 4)] by simp only [addPt, if_neg hc, if_neg hm], List.map_append]
          exists ev_point gg, ev_drawn gg, nin_P, hc, hm, LIM
    · rw [show (List.range 12).foldl (addPt a) [] = ptsOf a from rfl]
      have hS : simple a = if ((ptsOf a).length : Int) < 3 + a / 8 % 4 then .ring 7 else .field (cutL (ptsOf a) none (some (3 + a / 8 % 4))) := by
        simp [simple, h]
      rw [hS]
      by_cases hc : ((ptsOf a).length : Int) < 3 + a / 8 % 4
      · exists cutL_map, hc, encT
      · exists cutL_map, hc, encT
theorem ev_simple (g : ThgOk G) (hn : 4 ≤ n) {a : Int} : callD G n "_law_simple" [.int a] = .ok (encT (simple a)) := ev_simple0 g.toGenOk g.simple hn
theorem addPart_len (sub : Int → Th) (deep : Bool) (n : Int) (acc : List Pa) (k : Nat) : (addPart sub deep n acc k).length ≤ acc.length + 1 := by
  unfold addPart
  simp only []
  split <;> simp
/-- a group, given what it does for a part -/
theorem ev_group_body (g : ThgOk G) (hn : 5 ≤ n) {a : Int} {d : Nat} {sub : Int → Th} (hsub : 1 < d → ∀ m : Int, callD G (n - 1) "_law_thing" [.int m, .int ((d : Int) - 1)] = .ok (encT (sub m))) :
    callD G n "_law_group" [.int a, .int (d : Int)] = .ok (encT (groupOf sub (decide (1 < d)) a)) := by
  have gg := g.toGenOk
  have mb := many_bd a
  refine k_go g.group (by omega) rfl ?_
  exists d_law_group, tab8
  rw [show pick [2, 3, 1, 4, 0, 3, 2, 4] 1 (a % 8) = many a from rfl]
  exists rng_n
  refine k_seq (lp_fold (fun acc : List Pa => [.val (.int a), .val (.int d), .own (.list (acc.map encPa)), .un, .un, .un, .un]) (addPart sub (decide (1 < d)) a) (fun acc xs => acc.length + xs.length ≤ 100) (fun acc x xs hI => ?_) (List.range (many a).toNat) [] (by simp; omega)) ?_
  · have hl := addPart_len sub (decide (1 < d)) a acc x
    simp only [List.length_cons] at hI
    refine ⟨by omega, ?_⟩
    by_cases hd : 1 < d
    · have hs := hsub hd
      have hd' : (1 : Int) < d := by omega
      by_cases hm : nmOf (drawn a (8 + (x : Int)) / 4) ∈ acc.map (·.1)
      · rw [show addPart sub (decide (1 < d)) a acc x = acc by simp only [addPart, hm, not_true, false_and, if_false]]
        exists ev_drawn gg, ev_name g, hs, cmpl_fst, nin_S, hm
      · rw [show addPart sub (decide (1 < d)) a acc x = acc ++ [(nmOf (drawn a (8 + (x : Int)) / 4), placing (drawn a (8 + (x : Int)) / 4 / 16), sub (drawn (drawn a (8 + (x : Int)) / 4) 9 / 4))] by simp only [addPart, hm, hd, decide_true, not_false_eq_true, and_self, if_true], List.map_append]
        exists ev_drawn gg, ev_name g, ev_placing gg, hs, cmpl_fst, nin_S, hm, hd', LIM
    · have hd' : ¬ (1 : Int) < d := by omega
      rw [show addPart sub (decide (1 < d)) a acc x = acc by simp only [addPart, hd, decide_false, and_false, Bool.false_eq_true, if_false]]
      exists ev_drawn gg, ev_name g, cmpl_fst, nin_S, hd'
  · exists groupOf, encT_group
theorem ev_thing (g : ThgOk G) : ∀ (d : Nat) {n : Nat} (hn : 2 * d + 8 ≤ n) {a : Int}, 1 ≤ d → callD G n "_law_thing" [.int a, .int (d : Int)] = .ok (encT (thing d a))
  | 0, _, _, _, h => absurd h (by decide)
  | 1, n, hn, a, _ => by
    have gg := g.toGenOk
    rw [show thing 1 a = simple (drawn a 4 / 4) by rw [thing]; simp]
    refine k_go g.thing (by omega) rfl ?_
    exists d_law_thing, ev_drawn gg, ev_simple g, show ((1 : Nat) : Int) = 1 from rfl
  | d + 2, n, hn, a, _ => by
    have gg := g.toGenOk
    have d2 : ¬ (((d + 2 : Nat) : Int) = 1) := by omega
    have e1 : ((d + 2 : Nat) : Int) - 1 = ((d + 1 : Nat) : Int) := by omega
    have ih := fun {n : Nat} (hn : 2 * (d + 1) + 8 ≤ n) {a : Int} => ev_thing g (d + 1) (n := n) hn (a := a) (by omega)
    have ih1 : ∀ {n : Nat} (hn : 2 * (d + 1) + 8 ≤ n) {a : Int}, callD G n "_law_thing" [.int a, .int (((d + 2 : Nat) : Int) - 1)] = .ok (encT (thing (d + 1) a)) := fun hn a => by rw [e1]; exact ih hn
    have rb := rowMany_bd a
    obtain ⟨rb1, rb2, rb3⟩ := rb
    rw [thing]
    generalize hD : (((d + 2 : Nat) : Int)) = D at d2 ih1
    by_cases k1 : a / 4 % 8 < 4
    · rw [if_pos (.inr k1)]
      refine k_go g.thing (by omega) rfl ?_
      exists d_law_thing, ev_drawn gg, ev_simple g, k1
    · by_cases k2 : a / 4 % 8 = 4
      · rw [if_neg (by omega), if_pos k2]
        refine k_go g.thing (by omega) rfl ?_
        exists d_law_thing, ev_drawn gg, ev_point gg, ih1, tab3, k1, k2, d2
        rfl
      · rw [if_neg (by omega), if_neg k2]
        have hgb : ∀ {n : Nat}, 2 * d + 11 ≤ n → ∀ {a : Int}, callD G n "_law_group" [.int a, .int D] = .ok (encT (groupOf (thing (d + 1)) (decide (0 < d + 1)) a)) := fun {n} hn {a} => by
          have := ev_group_body g (n := n) (by omega) (a := a) (d := d + 2) (sub := thing (d + 1)) (fun _ m => by rw [hD]; exact ih1 (by omega))
          rw [← hD, this]
          rfl
        refine k_go g.thing (by omega) rfl ?_
        exists d_law_thing, ev_drawn gg, hgb, k1, k2, d2
theorem ev_group (g : ThgOk G) {d : Nat} (hn : 2 * d + 10 ≤ n) {a : Int} : callD G n "_law_group" [.int a, .int (d : Int)] = .ok (encT (group d a)) := by
  refine ev_group_body g (by omega) fun hd m => ?_
  obtain ⟨e, rfl⟩ : ∃ e, d = e + 1 := ⟨d - 1, by omega⟩
  rw [show ((e + 1 : Nat) : Int) - 1 = (e : Int) by omega]
  exact ev_thing g e (by omega) (by omega)
theorem ev_group_int (g : ThgOk G) {a k : Int} (hk : 0 ≤ k) (h6 : k ≤ 6) (hn : 30 ≤ n) : callD G n "_law_group" [.int a, .int k] = .ok (encT (group k.toNat a)) := by
  have := ev_group (n := n) g (d := k.toNat) (by omega) (a := a)
  rw [show ((k.toNat : Nat) : Int) = k by omega] at this
  exact this
theorem ev_thing_int (g : ThgOk G) {a k : Int} (hk : 1 ≤ k) (h6 : k ≤ 6) (hn : 30 ≤ n) : callD G n "_law_thing" [.int a, .int k] = .ok (encT (thing k.toNat a)) := by
  have := ev_thing (n := n) g k.toNat (by omega) (a := a) (by omega)
  rw [show ((k.toNat : Nat) : Int) = k by omega] at this
  exact this
end
end DP

/-! ## Fla -/
set_option Elab.async false
set_option linter.all false
set_option maxRecDepth 100000
set_option maxHeartbeats 4000000
set_option autoImplicit false
/-! What a sheet shows: by placings, by matrices. -/
namespace DP
open PySem
local macro_rules | `(tactic| exists $es,*) => `(tactic| simp -implicitDefEqProofs (disch := first | assumption | omega | (simp only [List.length_map, List.length_append, List.length_cons, List.length_nil]; omega) | decide | (simp [nd, ndAll, PyData.depth, PyData.depthAll]; done)) only [q_b1, q_bL, q_b2, q_mkT, q_mkL, q_cons2, q_notK, q_andK, q_andKf, q_andKt, q_orK, q_orKt, q_orKf, q_chainK, q_slcK, q_tK, q_tKf, q_cmplK, q_cl0, q_cl1, q_cl1o, q_selt, q_self, q_seqn, q_seqr, q_seqe, q_seqi, q_asgK, q_asgOK, q_nxE, q_unpK, q_unpLK, q_parK, q_exprK, q_appK, q_extK, q_retK, q_retOK, q_iteK, q_forK, q_lp0, q_lp1, q_lpS, q_lpKn, q_lpKr, q_lpKe, q_lpKi, q_frzo, q_frzv, q_slotV, q_slotLv, q_slotLo, q_optV, q_outr, q_outn, q_oute, q_outi, q_w0, q_w1, q_sa0, q_sa1, q_stn, q_stt, q_tgn, q_tgt, q_eint, q_ebl, q_enon, q_estr, q_evar, q_eglob, q_etup, q_elst, q_ebin, q_eneg, q_enot, q_eand, q_eor, q_and1, q_and2, q_or1, q_or2, q_ecmp, q_echain, q_ecall, q_etold, q_told1, q_told2, q_told3, q_told4, q_low59, q_otold, q_eblt, q_eisi, q_eidx, q_eslc, q_erev, q_ecomp, q_es0, q_es1, q_bs0, q_bs1, q_t0, q_t1, q_iplain, q_irng, q_irng2, q_fplain, q_frng, q_frng2, q_ienum, q_izip, q_irev, q_fenum, q_fzip, q_frev, q_ovar, q_oint, q_obl, q_onon, q_ostr, q_oglob, q_otup, q_olst, q_obin, q_oneg, q_onot, q_oand, q_oor, q_ocmp, q_ochain, q_ochain3, q_ocall, q_oblt, q_oisi, q_oidx, q_oslc, q_orev, q_ometh, q_ocomp, q_odctget, q_odctidx, q_pint, q_pnon, q_pglob, q_pbin, q_pneg, q_pcall, q_pblt, q_pidx, q_pvar, q_ss0, q_ss1, q_sasg, q_sasgOlst, q_sasgOcomp, q_sasgObin, q_sasgOslc, q_sasgOrev, q_sasgOlist, q_sasgOsorted, q_sunp, q_sunpL, q_spar, q_sexpr, q_sapp, q_sext, q_sret, q_sretO, q_site, q_sfor, q_spass, q_zvar, q_zint, q_zbl, q_znon, q_zstr, q_zglob, q_ztup, q_zlst, q_zbin, q_zneg, q_znot, q_zand, q_zor, q_zcmp, q_zchain, q_zchain3, q_zcall, q_zblt, q_zisi, q_zidx, q_zslc, q_zrev, q_zmeth, q_zcomp, q_zdctget, q_zdctidx, q_zrng, q_zrng2, q_zenum, q_zzip, q_zirev, q_add, q_sub, q_mulR, q_mulL, q_fdiv, q_mod, q_neg, q_cI, q_cnI, q_cS, q_cnS, q_cB, q_cnB, q_clt, q_cle, q_cgt, q_cge, q_isN, q_isnN, q_ist, q_isnt, q_isl, q_isnl, q_isi, q_isni, q_iss, q_isns, q_isb, q_isnb, q_ixt0, q_ixl0, q_ixt1, q_ixl1, q_ixt2, q_ixl2, q_ixt3, q_ixl3, q_ixt4, q_ixl4, q_ixt5, q_ixl5, q_ixt6, q_ixl6, q_ixt7, q_ixl7, q_ixt8, q_ixl8, q_lent0, q_lenl0, q_lent1, q_lenl1, q_lent2, q_lenl2, q_lent3, q_lenl3, q_lent4, q_lenl4, q_lent5, q_lenl5, q_lent6, q_lenl6, q_lent7, q_lenl7, q_lent8, q_lenl8, q_lenTm, q_lenLm, q_bint, q_bintb, q_babs, q_blst, q_blstT, q_btup, q_btupT, q_bmin, q_bmax, q_isi_int_int, q_isi_int_bool, q_isi_int_str, q_isi_int_tuple, q_isi_int_list, q_isi_int_none, q_isi_bool_int, q_isi_bool_bool, q_isi_bool_str, q_isi_bool_tuple, q_isi_bool_list, q_isi_bool_none, q_isi_str_int, q_isi_str_bool, q_isi_str_str, q_isi_str_tuple, q_isi_str_list, q_isi_str_none, q_isi_tuple_int, q_isi_tuple_bool, q_isi_tuple_str, q_isi_tuple_tuple, q_isi_tuple_list, q_isi_tuple_none, q_isi_list_int, q_isi_list_bool, q_isi_list_str, q_isi_list_tuple, q_isi_list_list, q_isi_list_none, q_itL, q_itT, q_rng0, q_rng1, q_rng2, q_rng3, q_rng4, q_revL, q_revT, q_rvL, q_rvT, q_slT, q_slL, q_xasg, q_xret, q_xb1, q_xbL, q_xb2l, q_xb2r, q_xc2l, q_xc2r, q_xmkT, q_xmkL, q_xexpr, q_xunp, q_xite, q_xparl, q_xparr, q_xnot, q_xfor, q_xslc, q_srais, q_emeth, q_mthi, q_mthz, q_mthj, q_sel, q_seqnil, q_lpTn, q_lpTr, q_lpTe, q_lpTi, q_s_line_box, q_s_line_ring, q_s_line_field, q_s_line_row, q_s_line_group, q_s_box_line, q_s_box_ring, q_s_box_field, q_s_box_row, q_s_box_group, q_s_ring_line, q_s_ring_box, q_s_ring_field, q_s_ring_row, q_s_ring_group, q_s_field_line, q_s_field_box, q_s_field_ring, q_s_field_row, q_s_field_group, q_s_row_line, q_s_row_box, q_s_row_ring, q_s_row_field, q_s_row_group, q_s_group_line, q_s_group_box, q_s_group_ring, q_s_group_field, q_s_group_row, q_Pteta, q_Pleta, q_Mteta, q_cLL0, q_cTT0, q_cnLL0, q_cnTT0, List.getD_cons_zero, List.getD_cons_succ, List.set_cons_zero, List.set_cons_succ, List.map_cons, List.map_nil, List.cons_append, List.nil_append, List.append_assoc, List.length_cons, List.length_nil, List.length_map, List.length_append, List.replicate_succ, List.replicate_zero, ↓reduceIte, decide_eq_true_eq, Bool.not_eq_true', Bool.not_true, Bool.not_false, Bool.true_and, Bool.false_and, Bool.and_true, Bool.and_false, Bool.or_true, Bool.or_false, Bool.true_or, Bool.false_or, Bool.and_eq_true, Bool.or_eq_true, Bool.not_not, decide_eq_false_iff_not, decide_true, decide_false, Bool.false_eq_true, eq_self, not_true_eq_false, not_false_eq_true, true_and, and_true, false_and, and_false, or_true, true_or, or_false, false_or, Int.reduceAdd, Int.reduceMul, Int.reduceSub, Int.reduceNeg, Int.reduceLT, Int.reduceLE, Int.reduceEq, Int.reduceMod, Int.reduceDiv, Nat.reduceAdd, Nat.reduceSub, Int.reduceNe, $[$es:term],*])
inductive Sh where
  | line (p q : Pt) | ring (c : Pt) (r : Int) | field (ps : List Pt) | box (lo hi : Pt)
  deriving DecidableEq
inductive Stp where
  | nm (s : Str) | ix (i : Int)
  deriving DecidableEq
abbrev Path := List Stp
def encStp : Stp → PyData
  | .nm s => .str s
  | .ix i => .int i
abbrev encPath (p : Path) : PyData := .tuple (p.map encStp)
def encS : Sh → PyData
  | .line p q => .tuple [.str "line", encP p, encP q]
  | .ring c r => .tuple [.str "ring", encP c, .int r]
  | .field ps => .tuple [.str "field", .tuple (ps.map encP)]
  | .box p q => .tuple [.str "box", encP p, encP q]
abbrev Rw := Path × Sh
abbrev encRw (r : Rw) : PyData := .tuple [encPath r.1, encS r.2]
abbrev mn (i j : Int) : Int := if j < i then j else i
abbrev mx (i j : Int) : Int := if j > i then j else i
abbrev absI (i : Int) : Int := if i < 0 then -i else i
abbrev ltPt (p q : Pt) : Bool := ltP2 p.1 p.2 q.1 q.2
def lineOf (a b : Pt) : Sh := if ltPt b a then .line b a else .line a b
def boxOf (a b : Pt) : Sh := .box (mn a.1 b.1, mn a.2 b.2) (mx a.1 b.1, mx a.2 b.2)
def shapeOf : Th → Pl → Sh
  | .line x y, p => lineOf (put p (0, 0)) (put p (x, y))
  | .box x y, p => boxOf (put p (0, 0)) (put p (x, y))
  | .ring r, p => .ring (put p (0, 0)) (r * p.s)
  | .field ps, p => .field (ps.map (put p))
  | _, _ => .field []
def lshape : Th → Mt → Sh
  | .line x y, m => lineOf (mput m (0, 0)) (mput m (x, y))
  | .box x y, m => boxOf (mput m (0, 0)) (mput m (x, y))
  | .ring r, m => .ring (mput m (0, 0)) (r * (absI m.a + absI m.b))
  | .field ps, m => .field (ps.map (mput m))
  | _, _ => .field []
abbrev stepPl (k x y : Int) : Pl := ⟨0, 0, 1, k * x, k * y⟩
abbrev stepMt (k x y : Int) : Mt := ⟨1, 0, 0, 1, k * x, k * y⟩
def smp : Th → Bool
  | .row _ _ _ _ => false
  | .group _ => false
  | _ => true
mutual
def flat : Th → Pl → Path → List Rw
  | .group ps, p, path => flats ps p path
  | .row n x y t, p, path => (List.range n.toNat).flatMap fun k : Nat => flat t (together p (stepPl k x y)) (path ++ [.ix k])
  | .line x y, p, path => [(path, shapeOf (.line x y) p)]
  | .box x y, p, path => [(path, shapeOf (.box x y) p)]
  | .ring r, p, path => [(path, shapeOf (.ring r) p)]
  | .field ps, p, path => [(path, shapeOf (.field ps) p)]
def flats : List (Str × Pl × Th) → Pl → Path → List Rw
  | [], _, _ => []
  | (nm, q, t) :: r, p, path => flat t (together p q) (path ++ [.nm nm]) ++ flats r p path
end
theorem flats_eq (p : Pl) (path : Path) : ∀ ps : List Pa, flats ps p path = ps.flatMap fun q => flat q.2.2 (together p q.2.1) (path ++ [.nm q.1])
  | [] => rfl
  | (nm, q, t) :: r => by rw [flats, flats_eq p path r]; rfl
theorem flat_group (ps : List Pa) (p : Pl) (path : Path) : flat (.group ps) p path = ps.flatMap fun q => flat q.2.2 (together p q.2.1) (path ++ [.nm q.1]) := by rw [flat, flats_eq]
theorem flat_row (n x y : Int) (t : Th) (p : Pl) (path : Path) : flat (.row n x y t) p path = (List.range n.toNat).flatMap fun k : Nat => flat t (together p (stepPl k x y)) (path ++ [.ix k]) := by rw [flat]
theorem flat_smp {t : Th} (h : smp t = true) (p : Pl) (path : Path) : flat t p path = [(path, shapeOf t p)] := by
  cases t <;> first | (cases h; done) | rfl
mutual
def lflat : Th → Mt → Path → List Rw
  | .group ps, m, path => lflats ps m path
  | .row n x y t, m, path => (List.range n.toNat).flatMap fun k : Nat => lflat t (mboth m (stepMt k x y)) (path ++ [.ix k])
  | .line x y, m, path => [(path, lshape (.line x y) m)]
  | .box x y, m, path => [(path, lshape (.box x y) m)]
  | .ring r, m, path => [(path, lshape (.ring r) m)]
  | .field ps, m, path => [(path, lshape (.field ps) m)]
def lflats : List (Str × Pl × Th) → Mt → Path → List Rw
  | [], _, _ => []
  | (nm, q, t) :: r, m, path => lflat t (mboth m (matrix q)) (path ++ [.nm nm]) ++ lflats r m path
end
theorem lflats_eq (m : Mt) (path : Path) : ∀ ps : List Pa, lflats ps m path = ps.flatMap fun q => lflat q.2.2 (mboth m (matrix q.2.1)) (path ++ [.nm q.1])
  | [] => rfl
  | (nm, q, t) :: r => by rw [lflats, lflats_eq m path r]; rfl
theorem lflat_group (ps : List Pa) (m : Mt) (path : Path) : lflat (.group ps) m path = ps.flatMap fun q => lflat q.2.2 (mboth m (matrix q.2.1)) (path ++ [.nm q.1]) := by rw [lflat, lflats_eq]
theorem lflat_row (n x y : Int) (t : Th) (m : Mt) (path : Path) : lflat (.row n x y t) m path = (List.range n.toNat).flatMap fun k : Nat => lflat t (mboth m (stepMt k x y)) (path ++ [.ix k]) := by rw [lflat]
theorem lflat_smp {t : Th} (h : smp t = true) (m : Mt) (path : Path) : lflat t m path = [(path, lshape t m)] := by
  cases t <;> first | (cases h; done) | rfl
theorem abs_mat {p : Pl} (h : PlT p) (hs : 0 ≤ p.s) : absI (matrix p).a + absI (matrix p).b = p.s := by
  obtain ⟨t, f, s, x, y⟩ := p
  obtain ⟨h0, h3, hf⟩ := h
  simp only at h0 h3 hf hs
  rcases t_cases h0 h3 with rfl | rfl | rfl | rfl <;> rcases hf with rfl | rfl <;> simp [matrix, cosT, sinT, absI] <;> (repeat' split) <;> omega
theorem lshape_eq {t : Th} {p : Pl} (h : PlT p) (hs : 0 ≤ p.s) : lshape t (matrix p) = shapeOf t p := by
  have e := fun q => (put_matT h q).symm
  cases t <;> simp only [lshape, shapeOf, e]
  · rw [abs_mat h hs]
  · have : mput (matrix p) = put p := funext e
    rw [this]
theorem stepMt_eq (k x y : Int) : stepMt k x y = matrix (stepPl k x y) := by simp [matrix, cosT, sinT]
theorem stepT (k x y : Int) : PlT (stepPl k x y) := ⟨Int.le_refl 0, (by decide : (0 : Int) ≤ 3), .inl rfl⟩
theorem flatMap_congr {α β : Type} {f g : α → List β} : ∀ {l : List α}, (∀ x ∈ l, f x = g x) → l.flatMap f = l.flatMap g
  | [], _ => rfl
  | x :: l, h => by rw [List.flatMap_cons, List.flatMap_cons, h x List.mem_cons_self, flatMap_congr fun y hy => h y (List.mem_cons_of_mem _ hy)]
theorem PlOk.T {p : Pl} (h : PlOk p) : PlT p := h.w.T
theorem tog_s {p q : Pl} (h : 0 ≤ p.s) (h' : 0 ≤ q.s) : 0 ≤ (together p q).s := Int.mul_nonneg h h'
theorem lflat_eq (t : Th) : ∀ (p : Pl) (path : Path), wf t → PlT p → 0 ≤ p.s → lflat t (matrix p) path = flat t p path := by
  induction t using Th.ind with
  | group ps ih =>
    intro p path g h hs
    rw [lflat_group, flat_group]
    rw [wf_group] at g
    refine flatMap_congr fun q hq => ?_
    have gq := g q hq
    rw [← together_matT h gq.1]
    exact ih q hq _ _ gq.2.2 (together_T _ _) (tog_s hs (by have := gq.2.1; omega))
  | row n x y t ih =>
    intro p path g h hs
    rw [lflat_row, flat_row]
    refine flatMap_congr fun k hk => ?_
    rw [stepMt_eq, ← together_matT h (stepT _ _ _)]
    exact ih _ _ g.2.2 (together_T _ _) (tog_s hs (show (0 : Int) ≤ 1 by decide))
  | _ => intro p path g h hs; rw [lflat_smp rfl, flat_smp rfl, lshape_eq h hs]
theorem flatMap_len {α β : Type} {f : α → List β} {g : α → Nat} : ∀ {l : List α}, (∀ x ∈ l, (f x).length ≤ g x) → (l.flatMap f).length ≤ (l.map g).sum
  | [], _ => by simp
  | x :: l, h => by
    have a := h x List.mem_cons_self
    have b := flatMap_len (l := l) fun y hy => h y (List.mem_cons_of_mem _ hy)
    rw [List.flatMap_cons, List.length_append, List.map_cons, List.sum_cons]
    omega
theorem map_const_sum (c : Nat) {α : Type} : ∀ l : List α, (l.map fun _ => c).sum = l.length * c
  | [] => by simp
  | x :: l => by rw [List.map_cons, List.sum_cons, map_const_sum c l, List.length_cons, Nat.add_mul]; omega
theorem flat_len (t : Th) : ∀ (p : Pl) (path : Path), (flat t p path).length ≤ cnt t := by
  induction t using Th.ind with
  | group ps ih =>
    intro p path
    rw [flat_group, cnt, cntL_sum]
    have := flatMap_len (l := ps) (f := fun q => flat q.2.2 (together p q.2.1) (path ++ [.nm q.1])) (g := fun q => cnt q.2.2) fun q hq => ih q hq _ _
    omega
  | row n x y t ih =>
    intro p path
    rw [flat_row, cnt]
    have := flatMap_len (l := List.range n.toNat) (f := fun k : Nat => flat t (together p (stepPl k x y)) (path ++ [.ix k])) (g := fun _ => cnt t) fun q hq => ih _ _
    rw [map_const_sum, List.length_range] at this
    omega
  | _ => intro p path; rw [flat_smp rfl]; exact cnt_pos _
theorem cnt_row {n x y : Int} {t : Th} : cnt (.row n x y t) = n.toNat * cnt t + 1 := by rw [cnt]
theorem cnt_group {ps : List Pa} : cnt (.group ps) = cntL ps + 1 := by rw [cnt]
theorem dep_row {n x y : Int} {t : Th} : dep (.row n x y t) = dep t + 1 := by rw [dep]
theorem dep_group {ps : List Pa} : dep (.group ps) = depL ps + 1 := by rw [dep]
theorem scl_row {n x y : Int} {t : Th} : scl (.row n x y t) = scl t := by rw [scl]
theorem scl_group {ps : List Pa} : scl (.group ps) = sclL ps := by rw [scl]
theorem enc_Stp : Enc encStp 0 := ⟨fun s => by cases s <;> rfl, fun s => by cases s <;> simp [encStp, PyData.depth], fun s t => by cases s <;> cases t <;> simp [encStp, PyData.eqv]⟩
theorem enc_Path : Enc encPath 1 := enc_Stp.tup
theorem enc_Ps : Enc (fun ps : List Pt => PyData.tuple (ps.map encP)) 2 := enc_P.tup
theorem enc_S : Enc encS 3 := by
  refine ⟨fun s => ?_, fun s => ?_, fun s t => ?_⟩
  · cases s <;> simp [encS, nd, ndAll, enc_P.ndAll]
  · cases s with
    | field ps =>
      have := enc_P.dpAll ps
      simp only [encS, PyData.depth, PyData.depthAll]; omega
    | _ => simp [encS, PyData.depth, PyData.depthAll]
  · cases s <;> cases t <;> simp only [encS, PyData.eqv, PyData.eqvAll, enc_P.eq, Bool.and_true, Bool.and_eq_true, Bool.and_false] <;> simp [PyData.eqv, enc_P.eqAll, Prod.ext_iff]
    all_goals first
      | decide
      | exact fun h => absurd h (by decide)
theorem enc_Rw : Enc encRw 4 := (enc_Path.up (by decide)).two enc_S
theorem enc_rows : Enc (fun R : List Rw => PyData.tuple (R.map encRw)) 5 := enc_Rw.tup
theorem enc_rowsL : Enc (fun R : List Rw => PyData.list (R.map encRw)) 5 := enc_Rw.lst
theorem enc_shapes : Enc (fun R : List Sh => PyData.tuple (R.map encS)) 4 := enc_S.tup
end DP

/-! ## Fla2 -/
set_option Elab.async false
set_option linter.all false
set_option maxRecDepth 100000
set_option maxHeartbeats 4000000
set_option autoImplicit false
/-! What a sheet shows: the functions. -/
namespace DP
open PySem
local macro_rules | `(tactic| exists $es,*) => `(tactic| simp -implicitDefEqProofs (disch := first | assumption | omega | (simp only [List.length_map, List.length_append, List.length_cons, List.length_nil]; omega) | decide | (simp [nd, ndAll, PyData.depth, PyData.depthAll]; done)) only [q_b1, q_bL, q_b2, q_mkT, q_mkL, q_cons2, q_notK, q_andK, q_andKf, q_andKt, q_orK, q_orKt, q_orKf, q_chainK, q_slcK, q_tK, q_tKf, q_cmplK, q_cl0, q_cl1, q_cl1o, q_selt, q_self, q_seqn, q_seqr, q_seqe, q_seqi, q_asgK, q_asgOK, q_nxE, q_unpK, q_unpLK, q_parK, q_exprK, q_appK, q_extK, q_retK, q_retOK, q_iteK, q_forK, q_lp0, q_lp1, q_lpS, q_lpKn, q_lpKr, q_lpKe, q_lpKi, q_frzo, q_frzv, q_slotV, q_slotLv, q_slotLo, q_optV, q_outr, q_outn, q_oute, q_outi, q_w0, q_w1, q_sa0, q_sa1, q_stn, q_stt, q_tgn, q_tgt, q_eint, q_ebl, q_enon, q_estr, q_evar, q_eglob, q_etup, q_elst, q_ebin, q_eneg, q_enot, q_eand, q_eor, q_and1, q_and2, q_or1, q_or2, q_ecmp, q_echain, q_ecall, q_etold, q_told1, q_told2, q_told3, q_told4, q_low59, q_otold, q_eblt, q_eisi, q_eidx, q_eslc, q_erev, q_ecomp, q_es0, q_es1, q_bs0, q_bs1, q_t0, q_t1, q_iplain, q_irng, q_irng2, q_fplain, q_frng, q_frng2, q_ienum, q_izip, q_irev, q_fenum, q_fzip, q_frev, q_ovar, q_oint, q_obl, q_onon, q_ostr, q_oglob, q_otup, q_olst, q_obin, q_oneg, q_onot, q_oand, q_oor, q_ocmp, q_ochain, q_ochain3, q_ocall, q_oblt, q_oisi, q_oidx, q_oslc, q_orev, q_ometh, q_ocomp, q_odctget, q_odctidx, q_pint, q_pnon, q_pglob, q_pbin, q_pneg, q_pcall, q_pblt, q_pidx, q_pvar, q_ss0, q_ss1, q_sasg, q_sasgOlst, q_sasgOcomp, q_sasgObin, q_sasgOslc, q_sasgOrev, q_sasgOlist, q_sasgOsorted, q_sunp, q_sunpL, q_spar, q_sexpr, q_sapp, q_sext, q_sret, q_sretO, q_site, q_sfor, q_spass, q_zvar, q_zint, q_zbl, q_znon, q_zstr, q_zglob, q_ztup, q_zlst, q_zbin, q_zneg, q_znot, q_zand, q_zor, q_zcmp, q_zchain, q_zchain3, q_zcall, q_zblt, q_zisi, q_zidx, q_zslc, q_zrev, q_zmeth, q_zcomp, q_zdctget, q_zdctidx, q_zrng, q_zrng2, q_zenum, q_zzip, q_zirev, q_add, q_sub, q_mulR, q_mulL, q_fdiv, q_mod, q_neg, q_cI, q_cnI, q_cS, q_cnS, q_cB, q_cnB, q_clt, q_cle, q_cgt, q_cge, q_isN, q_isnN, q_ist, q_isnt, q_isl, q_isnl, q_isi, q_isni, q_iss, q_isns, q_isb, q_isnb, q_ixt0, q_ixl0, q_ixt1, q_ixl1, q_ixt2, q_ixl2, q_ixt3, q_ixl3, q_ixt4, q_ixl4, q_ixt5, q_ixl5, q_ixt6, q_ixl6, q_ixt7, q_ixl7, q_ixt8, q_ixl8, q_lent0, q_lenl0, q_lent1, q_lenl1, q_lent2, q_lenl2, q_lent3, q_lenl3, q_lent4, q_lenl4, q_lent5, q_lenl5, q_lent6, q_lenl6, q_lent7, q_lenl7, q_lent8, q_lenl8, q_lenTm, q_lenLm, q_bint, q_bintb, q_babs, q_blst, q_blstT, q_btup, q_btupT, q_bmin, q_bmax, q_isi_int_int, q_isi_int_bool, q_isi_int_str, q_isi_int_tuple, q_isi_int_list, q_isi_int_none, q_isi_bool_int, q_isi_bool_bool, q_isi_bool_str, q_isi_bool_tuple, q_isi_bool_list, q_isi_bool_none, q_isi_str_int, q_isi_str_bool, q_isi_str_str, q_isi_str_tuple, q_isi_str_list, q_isi_str_none, q_isi_tuple_int, q_isi_tuple_bool, q_isi_tuple_str, q_isi_tuple_tuple, q_isi_tuple_list, q_isi_tuple_none, q_isi_list_int, q_isi_list_bool, q_isi_list_str, q_isi_list_tuple, q_isi_list_list, q_isi_list_none, q_itL, q_itT, q_rng0, q_rng1, q_rng2, q_rng3, q_rng4, q_revL, q_revT, q_rvL, q_rvT, q_slT, q_slL, q_xasg, q_xret, q_xb1, q_xbL, q_xb2l, q_xb2r, q_xc2l, q_xc2r, q_xmkT, q_xmkL, q_xexpr, q_xunp, q_xite, q_xparl, q_xparr, q_xnot, q_xfor, q_xslc, q_srais, q_emeth, q_mthi, q_mthz, q_mthj, q_sel, q_seqnil, q_lpTn, q_lpTr, q_lpTe, q_lpTi, q_s_line_box, q_s_line_ring, q_s_line_field, q_s_line_row, q_s_line_group, q_s_box_line, q_s_box_ring, q_s_box_field, q_s_box_row, q_s_box_group, q_s_ring_line, q_s_ring_box, q_s_ring_field, q_s_ring_row, q_s_ring_group, q_s_field_line, q_s_field_box, q_s_field_ring, q_s_field_row, q_s_field_group, q_s_row_line, q_s_row_box, q_s_row_ring, q_s_row_field, q_s_row_group, q_s_group_line, q_s_group_box, q_s_group_ring, q_s_group_field, q_s_group_row, q_Pteta, q_Pleta, q_Mteta, q_cLL0, q_cTT0, q_cnLL0, q_cnTT0, List.getD_cons_zero, List.getD_cons_succ, List.set_cons_zero, List.set_cons_succ, List.map_cons, List.map_nil, List.cons_append, List.nil_append, List.append_assoc, List.length_cons, List.length_nil, List.length_map, List.length_append, List.replicate_succ, List.replicate_zero, ↓reduceIte, decide_eq_true_eq, Bool.not_eq_true', Bool.not_true, Bool.not_false, Bool.true_and, Bool.false_and, Bool.and_true, Bool.and_false, Bool.or_true, Bool.or_false, Bool.true_or, Bool.false_or, Bool.and_eq_true, Bool.or_eq_true, Bool.not_not, decide_eq_false_iff_not, decide_true, decide_false, Bool.false_eq_true, eq_self, not_true_eq_false, not_false_eq_true, true_and, and_true, false_and, and_false, or_true, true_or, or_false, false_or, Int.reduceAdd, Int.reduceMul, Int.reduceSub, Int.reduceNeg, Int.reduceLT, Int.reduceLE, Int.reduceEq, Int.reduceMod, Int.reduceDiv, Nat.reduceAdd, Nat.reduceSub, Int.reduceNe, $[$es:term],*])
structure FltOk (G : Prog) : Prop extends PlcOk G where
  shape : Has G "shape_of" d_shape_of
  copy : Has G "copy_placing" d_copy_placing
  from_ : Has G "flat_from" d_flat_from
  flat : Has G "flat" d_flat
  plain : G.consts.lookup (Str.ofString "PLAIN") = some (encL plain)
structure LftOk (G : Prog) : Prop extends MatOk G where
  shape : Has G "_law_shape" d_law_shape
  flat : Has G "_law_flat" d_law_flat
theorem slc_1 {a b c : PyData} : cutL [a, b, c] (some 1) none = [b, c] := rfl
theorem sort_2 {a b c d : Int} : bltD .sorted [.list [.tuple [.int a, .int b], .tuple [.int c, .int d]]] = .ok (.list (if ltP2 c d a b = true then [.tuple [.int c, .int d], .tuple [.int a, .int b]] else [.tuple [.int a, .int b], .tuple [.int c, .int d]])) := rfl
theorem min_2 {a b c d : Int} : bltD .min [.tuple [.int a, .int b], .tuple [.int c, .int d]] = .ok (if ltP2 c d a b = true then .tuple [.int c, .int d] else .tuple [.int a, .int b]) := rfl
theorem max_2 {a b c d : Int} : bltD .max [.tuple [.int a, .int b], .tuple [.int c, .int d]] = .ok (if ltP2 a b c d = true then .tuple [.int c, .int d] else .tuple [.int a, .int b]) := rfl
theorem lt_anti {a b c d : Int} (h : ltP2 a b c d = true) : ltP2 c d a b = false := by
  unfold ltP2 at *
  split at h <;> split <;> simp at * <;> omega
theorem lt_eq {a b c d : Int} (h : ltP2 a b c d = false) (h' : ltP2 c d a b = false) : a = c ∧ b = d := by
  unfold ltP2 at *
  split at h <;> split at h' <;> simp at * <;> omega
theorem add_PN {path : Path} {nm : Str} (h : path.length ≤ 1000) : binD .add (.tuple (path.map encStp)) (.tuple [.str nm]) = .ok (.tuple ((path ++ [Stp.nm nm]).map encStp)) := by
  simp [binD, addD, LIM, encStp]; omega
theorem add_PI {path : Path} {k : Int} (h : path.length ≤ 1000) : binD .add (.tuple (path.map encStp)) (.tuple [.int k]) = .ok (.tuple ((path ++ [Stp.ix k]).map encStp)) := by
  simp [binD, addD, LIM, encStp]; omega
theorem add_Rw {xs ys : List Rw} (h : xs.length + ys.length ≤ 1000000) : binD .add (.list (xs.map encRw)) (.list (ys.map encRw)) = .ok (.list ((xs ++ ys).map encRw)) := by
  simp [binD, addD, LIM, h]
theorem smp_tag {t : Th} (h : smp t = true) : ∃ (tag : Str) (r : List PyData), encT t = .tuple (.str tag :: r) ∧ (tag = "group") = False ∧ (tag = "row") = False ∧ (tag = "line" ∨ tag = "box" ∨ tag = "ring" ∨ tag = "field") := by
  cases t <;> first | (cases h; done) | skip
  · exact ⟨"line", _, by rw [encT], q_s_line_group, q_s_line_row, .inl rfl⟩
  · exact ⟨"box", _, by rw [encT], q_s_box_group, q_s_box_row, .inr (.inl rfl)⟩
  · exact ⟨"ring", _, by rw [encT], q_s_ring_group, q_s_ring_row, .inr (.inr (.inl rfl))⟩
  · exact ⟨"field", _, by rw [encT], q_s_field_group, q_s_field_row, .inr (.inr (.inr rfl))⟩
/-- the shapes of rows -/
theorem cmpl_shapes {C : Ctx} {ρ : DEnv} {i j : Nat} {R : List Rw} (h : j < ρ.length) : cmpl C .nil (.var j) (.tup [i, j]) ρ (R.map encRw) = .ok ((R.map (·.2)).map encS) := by
  rw [cmpl_snd h, List.map_map]; rfl
section
variable {G : Prog} {n : Nat}
theorem ev_shape (g : FltOk G) (hn : 2 ≤ n) {th : Th} {t f s x y : Int} (h : PlW ⟨t, f, s, x, y⟩) (ht : smp th = true) : callD G n "shape_of" [encT th, .tuple [.int t, .int f, .int s, .int x, .int y]] = .ok (encS (shapeOf th ⟨t, f, s, x, y⟩)) := by
  have gp := g.toPlcOk
  have h1 := h.s1
  have h9 := h.s9
  simp only at h1 h9
  cases th with
  | line a b =>
    rw [encT]
    cases hl : ltPt (put ⟨t, f, s, x, y⟩ (a, b)) (put ⟨t, f, s, x, y⟩ (0, 0)) with
    | true =>
      refine k_go g.shape (by omega) rfl ?_
      exists d_shape_of, ev_put gp _ h, slc_1, sort_2, hl
      simp [shapeOf, lineOf, hl, encS]
    | false =>
      refine k_go g.shape (by omega) rfl ?_
      exists d_shape_of, ev_put gp _ h, slc_1, sort_2, hl
      simp [shapeOf, lineOf, hl, encS]
  | box a b =>
    rw [encT]
    refine k_go g.shape (by omega) rfl ?_
    exists d_shape_of, ev_put gp _ h, slc_1
    rfl
  | ring r =>
    rw [encT]
    refine k_go g.shape (by omega) rfl ?_
    exists d_shape_of, ev_put gp _ h, slc_1
    rfl
  | field ps =>
    rw [encT]
    refine k_go g.shape (by omega) rfl ?_
    exists d_shape_of, ev_put gp _ h, slc_1
    rw [cmpl_map (fun q => encP (put ⟨t, f, s, x, y⟩ q)) ps fun q _ rs => by exists ev_put gp _ h]
    exists shapeOf, encS, List.map_map
    rfl
  | row _ _ _ _ => cases ht
  | group _ => cases ht
theorem ev_copy (g : FltOk G) (hn : 1 ≤ n) {m x y k : Int} {d : PyData} (hk : sm k) : callD G n "copy_placing" [.tuple [.str "row", .int m, .int x, .int y, d], .int k] = .ok (encL (stepPl k x y)) := by
  obtain ⟨_, _⟩ := hk
  refine k_go g.copy (by omega) rfl ?_
  exists d_copy_placing
theorem PlW.of {p : Pl} (h : PlT p) (h1 : 1 ≤ p.s) (h9 : p.s < 1073741824) : PlW p := ⟨h.t0, h.t3, h.f, h1, h9⟩
theorem step_w (k x y : Int) : PlW (stepPl k x y) := ⟨Int.le_refl 0, (by decide : (0 : Int) ≤ 3), .inl rfl, Int.le_refl 1, (by decide : (1 : Int) < 1073741824)⟩
theorem plain_w : PlW plain := ⟨Int.le_refl 0, (by decide : (0 : Int) ≤ 3), .inl rfl, Int.le_refl 1, (by decide : (1 : Int) < 1073741824)⟩
/-- the budget of scales, on the way down -/
theorem bud_in {p q : Pl} {c c' : Int} (h : PlW p) (hq : PlT q) (q1 : 1 ≤ q.s) (hc : 1 ≤ c) (hs : q.s * c ≤ c') (b : p.s * c' < 1073741824) : (together p q).s * c < 1073741824 ∧ PlW (together p q) := by
  have s1 := h.s1
  have e : (together p q).s = p.s * q.s := rfl
  have l1 : p.s * (q.s * c) ≤ p.s * c' := Int.mul_le_mul_of_nonneg_left hs (by omega)
  have l2 : p.s * q.s * 1 ≤ p.s * q.s * c := Int.mul_le_mul_of_nonneg_left hc (Int.mul_nonneg (by omega) (by omega))
  have l3 : 1 * 1 ≤ p.s * q.s := Int.mul_le_mul s1 q1 (by decide) (by omega)
  rw [← Int.mul_assoc] at l1
  have T := together_T p q
  refine ⟨by rw [e]; omega, T.t0, T.t3, T.f, by rw [e]; omega, by rw [e]; omega⟩
theorem bud_step {p : Pl} {k x y c : Int} (h : PlW p) (hc : 1 ≤ c) (b : p.s * c < 1073741824) : (together p (stepPl k x y)).s * c < 1073741824 ∧ PlW (together p (stepPl k x y)) :=
  bud_in h (stepT k x y) (by show (1 : Int) ≤ 1; decide) hc (by show (1 : Int) * c ≤ c; omega) b
theorem ev_ff0 (g : FltOk G) (hn : 4 ≤ n) {th : Th} {t f s x y : Int} {path : Path} (hg : smp th = true) (hp : PlW ⟨t, f, s, x, y⟩) :
    callD G n "flat_from" [encT th, .tuple [.int t, .int f, .int s, .int x, .int y], .tuple (path.map encStp)] = .ok (.list ((flat th ⟨t, f, s, x, y⟩ path).map encRw)) := by
  have hs : ∀ {n : Nat}, 2 ≤ n → callD G n "shape_of" [encT th, .tuple [.int t, .int f, .int s, .int x, .int y]] = .ok (encS (shapeOf th ⟨t, f, s, x, y⟩)) := fun hn => ev_shape g hn hp hg
  rw [flat_smp hg]
  obtain ⟨tag, r, e, h1, h2, h3⟩ := smp_tag hg
  rw [e] at hs ⊢
  refine k_go g.from_ (by omega) rfl ?_
  exists d_flat_from, hs, h1, h2
theorem ev_ff (g : FltOk G) (th : Th) : ∀ {n : Nat} (hn : dep th + 4 ≤ n) {t f s x y : Int} {path : Path}, wf th → cnt th ≤ 1000000 → PlW ⟨t, f, s, x, y⟩ → s * scl th < 1073741824 → path.length + dep th ≤ 1000 →
    callD G n "flat_from" [encT th, .tuple [.int t, .int f, .int s, .int x, .int y], .tuple (path.map encStp)] = .ok (.list ((flat th ⟨t, f, s, x, y⟩ path).map encRw)) := by
  have gp := g.toPlcOk
  induction th using Th.ind with
  | group ps ih =>
    intro n hn t f s x y path hw hc hp hb hl
    have fl := flat_len (.group ps) ⟨t, f, s, x, y⟩ path
    rw [flat_group] at fl ⊢
    rw [wf_group] at hw
    rw [cnt_group] at hc fl
    rw [dep_group] at hn hl
    rw [scl_group] at hb
    rw [encT_group]
    refine k_go g.from_ (by omega) rfl ?_
    exists d_flat_from
    refine k_seq (lp_app (fun acc : List Rw => [.val (.tuple [.str "group", .tuple (ps.map encPa)]), .val (.tuple [.int t, .int f, .int s, .int x, .int y]), .val (.tuple (path.map encStp)), .own (.list (acc.map encRw)), .un, .un, .un, .un]) _ 1000000 ps (Nat.le_trans fl hc) fun acc q hq hB => ?_) ?_
    · obtain ⟨q1, q2, q3⟩ := hw q hq
      have d1 := dep_mem hq
      have c1 := cnt_mem hq
      obtain ⟨b1, b2⟩ := bud_in hp q1 q2 (scl_pos q.2.2) (scl_mem hq) hb
      have e : callD G (n - 1) "flat_from" [encT q.2.2, encL (together ⟨t, f, s, x, y⟩ q.2.1), .tuple ((path ++ [Stp.nm q.1]).map encStp)] = _ := ih q hq (by omega) q3 (by omega) b2 b1 (by simp; omega)
      simp only [List.map_append]
      exists ev_together gp _ hp, add_PN, e
    · exists True.intro
  | row m a b th ih =>
    intro n hn t f s x y path hw hc hp hb hl
    have fl := flat_len (.row m a b th) ⟨t, f, s, x, y⟩ path
    rw [flat_row] at fl ⊢
    obtain ⟨m0, m6, hw⟩ := hw
    rw [cnt_row] at hc fl
    rw [dep_row] at hn hl
    rw [scl_row] at hb
    rw [encT]
    refine k_go g.from_ (by omega) rfl ?_
    exists d_flat_from, rng_n
    refine k_seq (lp_app (fun acc : List Rw => [.val (.tuple [.str "row", .int m, .int a, .int b, encT th]), .val (.tuple [.int t, .int f, .int s, .int x, .int y]), .val (.tuple (path.map encStp)), .own (.list (acc.map encRw)), .un, .un, .un, .un]) _ 1000000 (List.range m.toNat) (Nat.le_trans fl hc) fun acc k hk hB => ?_) ?_
    · have k6 := List.mem_range.mp hk
      have ks : sm (k : Int) := ⟨by omega, by omega⟩
      have c1 : 1 * cnt th ≤ m.toNat * cnt th := Nat.mul_le_mul_right _ (by omega)
      obtain ⟨b1, b2⟩ := bud_step (k := (k : Int)) (x := a) (y := b) hp (scl_pos th) hb
      have e : callD G (n - 1) "flat_from" [encT th, encL (together ⟨t, f, s, x, y⟩ (stepPl k a b)), .tuple ((path ++ [Stp.ix k]).map encStp)] = _ := ih (by omega) hw (by omega) b2 b1 (by simp; omega)
      simp only [List.map_append]
      exists ev_copy g _ ks, ev_together gp _ hp, add_PI, e
    · exists True.intro
  | _ => intro n hn t f s x y path hw hc hp hb hl; exact ev_ff0 g (by omega) rfl hp
/-- flat of a sheet -/
theorem ev_flat (g : FltOk G) {th : Th} (hn : dep th + 5 ≤ n) (hw : wf th) (hc : cnt th ≤ 1000000) (hs : scl th < 1073741824) (hd : dep th ≤ 1000) : callD G n "flat" [encT th] = .ok (.tuple ((flat th plain []).map encRw)) := by
  have hf := ev_ff g th (n := n - 1) (by omega) (path := []) hw hc plain_w (by rw [Int.one_mul]; exact hs) (by simpa using hd)
  simp only [List.map_nil] at hf
  refine k_go g.flat (by omega) rfl ?_
  exists d_flat, g.plain, hf
theorem ev_picture (g : FltOk G) (gp : Has G "picture" d_picture) {th : Th} (hn : dep th + 6 ≤ n) (hw : wf th) (hc : cnt th ≤ 1000000) (hs : scl th < 1073741824) (hd : dep th ≤ 1000) : callD G n "picture" [encT th] = .ok (.tuple (((flat th plain []).map (·.2)).map encS)) := by
  have hf := ev_flat g (n := n - 1) (by omega) hw hc hs hd
  refine k_go gp (by omega) rfl ?_
  exists d_picture, hf, cmpl_shapes
theorem ev_lshape0 (g : Has G "_law_shape" d_law_shape) (gp : Has G "_law_put" d_law_put) (hn : 2 ≤ n) {th : Th} {a b c e x y : Int} (h : MtW ⟨a, b, c, e, x, y⟩) (ht : smp th = true) (hs : sm (absI a + absI b)) : callD G n "_law_shape" [encT th, .tuple [.int a, .int b, .int c, .int e, .int x, .int y]] = .ok (encS (lshape th ⟨a, b, c, e, x, y⟩)) := by
  obtain ⟨_, _⟩ := hs
  cases th with
  | line p q =>
    rw [encT]
    cases hl : ltPt (mput ⟨a, b, c, e, x, y⟩ (p, q)) (mput ⟨a, b, c, e, x, y⟩ (0, 0)) with
    | true =>
      have hl' : ltP2 (mput ⟨a, b, c, e, x, y⟩ (0, 0)).1 (mput ⟨a, b, c, e, x, y⟩ (0, 0)).2 (mput ⟨a, b, c, e, x, y⟩ (p, q)).1 (mput ⟨a, b, c, e, x, y⟩ (p, q)).2 = false := lt_anti hl
      refine k_go g (by omega) rfl ?_
      exists d_law_shape, ev_mput0 gp _ h, slc_1, min_2, max_2, hl, hl'
      simp [lshape, lineOf, hl, encS]
    | false =>
      cases hl' : ltP2 (mput ⟨a, b, c, e, x, y⟩ (0, 0)).1 (mput ⟨a, b, c, e, x, y⟩ (0, 0)).2 (mput ⟨a, b, c, e, x, y⟩ (p, q)).1 (mput ⟨a, b, c, e, x, y⟩ (p, q)).2 with
      | true =>
        refine k_go g (by omega) rfl ?_
        exists d_law_shape, ev_mput0 gp _ h, slc_1, min_2, max_2, hl, hl'
        simp [lshape, lineOf, hl, encS]
      | false =>
        obtain ⟨e1, e2⟩ := lt_eq hl hl'
        refine k_go g (by omega) rfl ?_
        exists d_law_shape, ev_mput0 gp _ h, slc_1, min_2, max_2, hl, hl'
        simp [lshape, lineOf, hl, encS, e1, e2]
  | box p q =>
    rw [encT]
    refine k_go g (by omega) rfl ?_
    exists d_law_shape, ev_mput0 gp _ h, slc_1
    rfl
  | ring r =>
    rw [encT]
    refine k_go g (by omega) rfl ?_
    exists d_law_shape, ev_mput0 gp _ h, slc_1
    rfl
  | field ps =>
    rw [encT]
    refine k_go g (by omega) rfl ?_
    exists d_law_shape, ev_mput0 gp _ h, slc_1
    rw [cmpl_map (fun q => encP (mput ⟨a, b, c, e, x, y⟩ q)) ps fun q _ rs => by exists ev_mput0 gp _ h]
    exists lshape, encS, List.map_map
    rfl
  | row _ _ _ _ => cases ht
  | group _ => cases ht
theorem ev_lshape (g : LftOk G) (hn : 2 ≤ n) {th : Th} {a b c e x y : Int} (h : MtW ⟨a, b, c, e, x, y⟩) (ht : smp th = true) (hs : sm (absI a + absI b)) : callD G n "_law_shape" [encT th, .tuple [.int a, .int b, .int c, .int e, .int x, .int y]] = .ok (encS (lshape th ⟨a, b, c, e, x, y⟩)) := ev_lshape0 g.shape g.toMatOk.put hn h ht hs
theorem mt_sm {p : Pl} (h : PlW p) : sm (absI (matrix p).a + absI (matrix p).b) := by
  have := h.s1
  have := h.s9
  rw [abs_mat h.T (by omega)]
  exact ⟨by omega, by omega⟩
theorem ev_lf0 (g : LftOk G) (hn : 4 ≤ n) {th : Th} {a b c e x y : Int} {path : Path} (hg : smp th = true) (h : MtW ⟨a, b, c, e, x, y⟩) (hs : sm (absI a + absI b)) :
    callD G n "_law_flat" [encT th, .tuple [.int a, .int b, .int c, .int e, .int x, .int y], .tuple (path.map encStp)] = .ok (.list ((lflat th ⟨a, b, c, e, x, y⟩ path).map encRw)) := by
  have hh : ∀ {n : Nat}, 2 ≤ n → callD G n "_law_shape" [encT th, .tuple [.int a, .int b, .int c, .int e, .int x, .int y]] = .ok (encS (lshape th ⟨a, b, c, e, x, y⟩)) := fun hn => ev_lshape g hn h hg hs
  rw [lflat_smp hg]
  obtain ⟨tag, r, e, h1, h2, h3⟩ := smp_tag hg
  rw [e] at hh ⊢
  refine k_go g.flat (by omega) rfl ?_
  exists d_law_flat, hh, h1, h2, nin_2S
theorem ev_lf (g : LftOk G) (th : Th) : ∀ {n : Nat} (hn : dep th + 4 ≤ n) {a b c e x y : Int} {p : Pl} {path : Path}, matrix p = ⟨a, b, c, e, x, y⟩ → wf th → cnt th ≤ 1000000 → PlW p → p.s * scl th < 1073741824 → path.length + dep th ≤ 1000 →
    callD G n "_law_flat" [encT th, .tuple [.int a, .int b, .int c, .int e, .int x, .int y], .tuple (path.map encStp)] = .ok (.list ((flat th p path).map encRw)) := by
  have gp := g.toMatOk
  induction th using Th.ind with
  | group ps ih =>
    intro n hn a b c e x y p path hm hw hc hp hb hl
    have mw : MtW ⟨a, b, c, e, x, y⟩ := hm ▸ matrix_w hp
    have fl := flat_len (.group ps) p path
    rw [flat_group] at fl ⊢
    rw [wf_group] at hw
    rw [cnt_group] at hc fl
    rw [dep_group] at hn hl
    rw [scl_group] at hb
    rw [encT_group]
    refine k_go g.flat (by omega) rfl ?_
    exists d_law_flat, nin_2S
    refine k_seq (lp_app (fun acc : List Rw => [.val (.tuple [.str "group", .tuple (ps.map encPa)]), .val (.tuple [.int a, .int b, .int c, .int e, .int x, .int y]), .val (.tuple (path.map encStp)), .val (.list (acc.map encRw)), .un, .un, .un, .un, .un]) _ 1000000 ps (Nat.le_trans fl hc) fun acc q hq hB => ?_) ?_
    · obtain ⟨q1, q2, q3⟩ := hw q hq
      have d1 := dep_mem hq
      have c1 := cnt_mem hq
      obtain ⟨b1, b2⟩ := bud_in hp q1 q2 (scl_pos q.2.2) (scl_mem hq) hb
      have hm' : matrix (together p q.2.1) = mboth ⟨a, b, c, e, x, y⟩ (matrix q.2.1) := by rw [together_matT hp.T q1, hm]
      have w1 : PlW q.2.1 := PlW.of q1 q2 (by
        have l1 : 1 * q.2.1.s ≤ p.s * q.2.1.s := Int.mul_le_mul_of_nonneg_right hp.s1 (by omega)
        have : p.s * q.2.1.s < 1073741824 := b2.s9
        omega)
      have e : callD G (n - 1) "_law_flat" [encT q.2.2, encM (mboth ⟨a, b, c, e, x, y⟩ (matrix q.2.1)), .tuple ((path ++ [Stp.nm q.1]).map encStp)] = _ := ih q hq (by omega) hm' q3 (by omega) b2 b1 (by simp; omega)
      exists ev_matrix gp _ w1, ev_mboth gp _ mw, add_PN, e, add_Rw
    · exists True.intro
  | row m r1 r2 th ih =>
    intro n hn a b c e x y p path hm hw hc hp hb hl
    have mw : MtW ⟨a, b, c, e, x, y⟩ := hm ▸ matrix_w hp
    have fl := flat_len (.row m r1 r2 th) p path
    rw [flat_row] at fl ⊢
    obtain ⟨m0, m6, hw⟩ := hw
    rw [cnt_row] at hc fl
    rw [dep_row] at hn hl
    rw [scl_row] at hb
    rw [encT]
    refine k_go g.flat (by omega) rfl ?_
    exists d_law_flat, rng_n, nin_2S
    refine k_seq2 (lp_app (fun acc : List Rw => [.val (.tuple [.str "row", .int m, .int r1, .int r2, encT th]), .val (.tuple [.int a, .int b, .int c, .int e, .int x, .int y]), .val (.tuple (path.map encStp)), .val (.list (acc.map encRw)), .un, .un, .un, .un, .un]) _ 1000000 (List.range m.toNat) (Nat.le_trans fl hc) fun acc k hk hB => ?_) ?_
    · have k6 := List.mem_range.mp hk
      have c1 : 1 * cnt th ≤ m.toNat * cnt th := Nat.mul_le_mul_right _ (by omega)
      obtain ⟨b1, b2⟩ := bud_step (k := (k : Int)) (x := r1) (y := r2) hp (scl_pos th) hb
      have hm' : matrix (together p (stepPl k r1 r2)) = mboth ⟨a, b, c, e, x, y⟩ (stepMt k r1 r2) := by rw [together_matT hp.T (stepT _ _ _), hm, stepMt_eq]
      have e : callD G (n - 1) "_law_flat" [encT th, encM (mboth ⟨a, b, c, e, x, y⟩ (stepMt k r1 r2)), .tuple ((path ++ [Stp.ix k]).map encStp)] = _ := ih (by omega) hm' hw (by omega) b2 b1 (by simp; omega)
      exists ev_mboth gp _ mw, add_PI, e, add_Rw
    · exists True.intro
  | _ =>
    intro n hn a b c e x y p path hm hw hc hp hb hl
    rw [← lflat_eq _ p path hw hp.T (by have := hp.s1; omega), hm]
    exact ev_lf0 g (by omega) rfl (hm ▸ matrix_w hp) (by have := mt_sm hp; rw [hm] at this; exact this)
/-- from the plain matrix it is what flat is -/
theorem ev_lflat (g : LftOk G) {th : Th} (hn : dep th + 4 ≤ n) (hw : wf th) (hc : cnt th ≤ 1000000) (hs : scl th < 1073741824) (hd : dep th ≤ 1000) : callD G n "_law_flat" [encT th, .tuple [.int 1, .int 0, .int 0, .int 1, .int 0, .int 0], .tuple []] = .ok (.list ((flat th plain []).map encRw)) := by
  have e : matrix plain = ⟨1, 0, 0, 1, 0, 0⟩ := by decide
  exact ev_lf g th hn (path := []) e hw hc plain_w (by rw [Int.one_mul]; exact hs) (by simpa using hd)
end
/-- what is drawn by a law: a small sheet -/
structure Sml (t : Th) : Prop where
  drw : drw t
  wf : wf t
  dep : dep t ≤ 5
  cnt : cnt t ≤ 262144
  scl : scl t ≤ 59049
theorem sml_of {d : Nat} {t : Th} (h : Dr d t) (hd : d ≤ 5) : Sml t := by
  have a := drw_scl t h.drw
  have b := drw_cnt t h.drw
  have hd' : DP.dep t ≤ 5 := Nat.le_trans h.dep hd
  have a' : (9 : Int) ^ DP.dep t ≤ 9 ^ 5 := by
    have := Nat.pow_le_pow_right (n := 9) (by decide) hd'
    exact_mod_cast this
  have b' : 8 ^ DP.dep t ≤ 8 ^ 5 := Nat.pow_le_pow_right (by decide) hd'
  exact ⟨h.drw, drw_wf t h.drw, hd', by omega, by omega⟩
end DP

/-! ## Box -/
set_option Elab.async false
set_option linter.all false
set_option maxRecDepth 100000
set_option maxHeartbeats 4000000
set_option autoImplicit false
/-! Boxes. -/
namespace DP
open PySem
local macro_rules | `(tactic| exists $es,*) => `(tactic| simp -implicitDefEqProofs (disch := first | assumption | omega | (simp only [List.length_map, List.length_append, List.length_cons, List.length_nil]; omega) | decide | (simp [nd, ndAll, PyData.depth, PyData.depthAll]; done)) only [q_b1, q_bL, q_b2, q_mkT, q_mkL, q_cons2, q_notK, q_andK, q_andKf, q_andKt, q_orK, q_orKt, q_orKf, q_chainK, q_slcK, q_tK, q_tKf, q_cmplK, q_cl0, q_cl1, q_cl1o, q_selt, q_self, q_seqn, q_seqr, q_seqe, q_seqi, q_asgK, q_asgOK, q_nxE, q_unpK, q_unpLK, q_parK, q_exprK, q_appK, q_extK, q_retK, q_retOK, q_iteK, q_forK, q_lp0, q_lp1, q_lpS, q_lpKn, q_lpKr, q_lpKe, q_lpKi, q_frzo, q_frzv, q_slotV, q_slotLv, q_slotLo, q_optV, q_outr, q_outn, q_oute, q_outi, q_w0, q_w1, q_sa0, q_sa1, q_stn, q_stt, q_tgn, q_tgt, q_eint, q_ebl, q_enon, q_estr, q_evar, q_eglob, q_etup, q_elst, q_ebin, q_eneg, q_enot, q_eand, q_eor, q_and1, q_and2, q_or1, q_or2, q_ecmp, q_echain, q_ecall, q_etold, q_told1, q_told2, q_told3, q_told4, q_low59, q_otold, q_eblt, q_eisi, q_eidx, q_eslc, q_erev, q_ecomp, q_es0, q_es1, q_bs0, q_bs1, q_t0, q_t1, q_iplain, q_irng, q_irng2, q_fplain, q_frng, q_frng2, q_ienum, q_izip, q_irev, q_fenum, q_fzip, q_frev, q_ovar, q_oint, q_obl, q_onon, q_ostr, q_oglob, q_otup, q_olst, q_obin, q_oneg, q_onot, q_oand, q_oor, q_ocmp, q_ochain, q_ochain3, q_ocall, q_oblt, q_oisi, q_oidx, q_oslc, q_orev, q_ometh, q_ocomp, q_odctget, q_odctidx, q_pint, q_pnon, q_pglob, q_pbin, q_pneg, q_pcall, q_pblt, q_pidx, q_pvar, q_ss0, q_ss1, q_sasg, q_sasgOlst, q_sasgOcomp, q_sasgObin, q_sasgOslc, q_sasgOrev, q_sasgOlist, q_sasgOsorted, q_sunp, q_sunpL, q_spar, q_sexpr, q_sapp, q_sext, q_sret, q_sretO, q_site, q_sfor, q_spass, q_zvar, q_zint, q_zbl, q_znon, q_zstr, q_zglob, q_ztup, q_zlst, q_zbin, q_zneg, q_znot, q_zand, q_zor, q_zcmp, q_zchain, q_zchain3, q_zcall, q_zblt, q_zisi, q_zidx, q_zslc, q_zrev, q_zmeth, q_zcomp, q_zdctget, q_zdctidx, q_zrng, q_zrng2, q_zenum, q_zzip, q_zirev, q_add, q_sub, q_mulR, q_mulL, q_fdiv, q_mod, q_neg, q_cI, q_cnI, q_cS, q_cnS, q_cB, q_cnB, q_clt, q_cle, q_cgt, q_cge, q_isN, q_isnN, q_ist, q_isnt, q_isl, q_isnl, q_isi, q_isni, q_iss, q_isns, q_isb, q_isnb, q_ixt0, q_ixl0, q_ixt1, q_ixl1, q_ixt2, q_ixl2, q_ixt3, q_ixl3, q_ixt4, q_ixl4, q_ixt5, q_ixl5, q_ixt6, q_ixl6, q_ixt7, q_ixl7, q_ixt8, q_ixl8, q_lent0, q_lenl0, q_lent1, q_lenl1, q_lent2, q_lenl2, q_lent3, q_lenl3, q_lent4, q_lenl4, q_lent5, q_lenl5, q_lent6, q_lenl6, q_lent7, q_lenl7, q_lent8, q_lenl8, q_lenTm, q_lenLm, q_bint, q_bintb, q_babs, q_blst, q_blstT, q_btup, q_btupT, q_bmin, q_bmax, q_isi_int_int, q_isi_int_bool, q_isi_int_str, q_isi_int_tuple, q_isi_int_list, q_isi_int_none, q_isi_bool_int, q_isi_bool_bool, q_isi_bool_str, q_isi_bool_tuple, q_isi_bool_list, q_isi_bool_none, q_isi_str_int, q_isi_str_bool, q_isi_str_str, q_isi_str_tuple, q_isi_str_list, q_isi_str_none, q_isi_tuple_int, q_isi_tuple_bool, q_isi_tuple_str, q_isi_tuple_tuple, q_isi_tuple_list, q_isi_tuple_none, q_isi_list_int, q_isi_list_bool, q_isi_list_str, q_isi_list_tuple, q_isi_list_list, q_isi_list_none, q_itL, q_itT, q_rng0, q_rng1, q_rng2, q_rng3, q_rng4, q_revL, q_revT, q_rvL, q_rvT, q_slT, q_slL, q_xasg, q_xret, q_xb1, q_xbL, q_xb2l, q_xb2r, q_xc2l, q_xc2r, q_xmkT, q_xmkL, q_xexpr, q_xunp, q_xite, q_xparl, q_xparr, q_xnot, q_xfor, q_xslc, q_srais, q_emeth, q_mthi, q_mthz, q_mthj, q_sel, q_seqnil, q_lpTn, q_lpTr, q_lpTe, q_lpTi, q_s_line_box, q_s_line_ring, q_s_line_field, q_s_line_row, q_s_line_group, q_s_box_line, q_s_box_ring, q_s_box_field, q_s_box_row, q_s_box_group, q_s_ring_line, q_s_ring_box, q_s_ring_field, q_s_ring_row, q_s_ring_group, q_s_field_line, q_s_field_box, q_s_field_ring, q_s_field_row, q_s_field_group, q_s_row_line, q_s_row_box, q_s_row_ring, q_s_row_field, q_s_row_group, q_s_group_line, q_s_group_box, q_s_group_ring, q_s_group_field, q_s_group_row, q_Pteta, q_Pleta, q_Mteta, q_cLL0, q_cTT0, q_cnLL0, q_cnTT0, List.getD_cons_zero, List.getD_cons_succ, List.set_cons_zero, List.set_cons_succ, List.map_cons, List.map_nil, List.cons_append, List.nil_append, List.append_assoc, List.length_cons, List.length_nil, List.length_map, List.length_append, List.replicate_succ, List.replicate_zero, ↓reduceIte, decide_eq_true_eq, Bool.not_eq_true', Bool.not_true, Bool.not_false, Bool.true_and, Bool.false_and, Bool.and_true, Bool.and_false, Bool.or_true, Bool.or_false, Bool.true_or, Bool.false_or, Bool.and_eq_true, Bool.or_eq_true, Bool.not_not, decide_eq_false_iff_not, decide_true, decide_false, Bool.false_eq_true, eq_self, not_true_eq_false, not_false_eq_true, true_and, and_true, false_and, and_false, or_true, true_or, or_false, false_or, Int.reduceAdd, Int.reduceMul, Int.reduceSub, Int.reduceNeg, Int.reduceLT, Int.reduceLE, Int.reduceEq, Int.reduceMod, Int.reduceDiv, Nat.reduceAdd, Nat.reduceSub, Int.reduceNe, $[$es:term],*])
theorem k_lpT {ws : List Nat} {r r' R : Res Flw} (h : r = r') (h2 : lpT ws r' = R) : lpT ws r = R := by rw [h]; exact h2
/-- a loop that appends to two lists -/
theorem lp_app2 {C : Ctx} {β γ δ : Type} {enc : β → PyData} {tg : Tg} {ws : List Nat} {body : DSs} (St : List γ → List δ → DEnv) (f : β → List γ) (g : β → List δ) (B : Nat) (xs : List β) (a : List γ) (b : List δ) (hA : a.length + (xs.flatMap f).length ≤ B) (hB : b.length + (xs.flatMap g).length ≤ B)
    (hs : ∀ a b x, x ∈ xs → a.length + (f x).length ≤ B → b.length + (g x).length ≤ B → lpT ws (lpS C body (setTg tg (enc x) (St a b))) = .ok (.next (St (a ++ f x) (b ++ g x)))) :
    lpD C tg ws body (xs.map enc) (St a b) = .ok (.next (St (a ++ xs.flatMap f) (b ++ xs.flatMap g))) := by
  have := lp_fold (C := C) (enc := enc) (tg := tg) (ws := ws) (body := body) (fun s : List γ × List δ => St s.1 s.2) (fun s x => (s.1 ++ f x, s.2 ++ g x)) (fun s ys => (∀ y ∈ ys, y ∈ xs) ∧ s.1.length + (ys.flatMap f).length ≤ B ∧ s.2.length + (ys.flatMap g).length ≤ B) (fun s x ys h => by
    obtain ⟨h1, h2, h3⟩ := h
    rw [List.flatMap_cons, List.length_append] at h2 h3
    refine ⟨⟨fun y hy => h1 y (List.mem_cons_of_mem _ hy), by simp only [List.length_append]; omega, by simp only [List.length_append]; omega⟩, hs s.1 s.2 x (h1 x List.mem_cons_self) (by omega) (by omega)⟩) xs (a, b) ⟨fun y hy => hy, hA, hB⟩
  rw [this]
  have key : ∀ (xs : List β) (s : List γ × List δ), xs.foldl (fun (s : List γ × List δ) x => (s.1 ++ f x, s.2 ++ g x)) s = (s.1 ++ xs.flatMap f, s.2 ++ xs.flatMap g) := by
    intro xs
    induction xs with
    | nil => intro s; simp
    | cons x xs ih => intro s; rw [List.foldl_cons, ih]; simp
  rw [key]
abbrev Bx := Pt × Pt
def encB : Option Bx → PyData
  | none => .none
  | some b => .tuple [encP b.1, encP b.2]
theorem intsOf_map : ∀ ns : List Int, intsOf (ns.map .int) = some ns
  | [] => rfl
  | n :: ns => by simp [intsOf, intsOf_map ns]
theorem min_L {i : Int} {ns : List Int} : bltD .min [.list (.int i :: ns.map .int)] = .ok (.int (minL i ns)) := by
  simp [bltD, minD, intsOf_map]
theorem max_L {i : Int} {ns : List Int} : bltD .max [.list (.int i :: ns.map .int)] = .ok (.int (maxL i ns)) := by
  simp [bltD, maxD, intsOf_map]
theorem minL_mem : ∀ (ns : List Int) (i : Int), minL i ns = i ∨ minL i ns ∈ ns
  | [], i => .inl rfl
  | n :: ns, i => by
    rw [minL]
    rcases minL_mem ns (if n < i then n else i) with h | h
    · rw [h]; split
      · exact .inr List.mem_cons_self
      · exact .inl rfl
    · exact .inr (List.mem_cons_of_mem _ h)
theorem minL_le : ∀ (ns : List Int) (i : Int), minL i ns ≤ i ∧ ∀ n ∈ ns, minL i ns ≤ n
  | [], i => ⟨Int.le_refl _, by simp⟩
  | n :: ns, i => by
    rw [minL]
    obtain ⟨h1, h2⟩ := minL_le ns (if n < i then n else i)
    refine ⟨by
            have hk : (if n < i then n else i) ≤ i := by (split <;> omega)
            omega, fun m hm => ?_⟩
    rcases List.mem_cons.mp hm with h | h
    · subst h
      have hk : (if m < i then m else i) ≤ m := by split <;> omega
      omega
    · exact h2 m h
theorem maxL_mem : ∀ (ns : List Int) (i : Int), maxL i ns = i ∨ maxL i ns ∈ ns
  | [], i => .inl rfl
  | n :: ns, i => by
    rw [maxL]
    rcases maxL_mem ns (if i < n then n else i) with h | h
    · rw [h]; split
      · exact .inr List.mem_cons_self
      · exact .inl rfl
    · exact .inr (List.mem_cons_of_mem _ h)
theorem maxL_le : ∀ (ns : List Int) (i : Int), i ≤ maxL i ns ∧ ∀ n ∈ ns, n ≤ maxL i ns
  | [], i => ⟨Int.le_refl _, by simp⟩
  | n :: ns, i => by
    rw [maxL]
    obtain ⟨h1, h2⟩ := maxL_le ns (if i < n then n else i)
    refine ⟨by
            have hk : i ≤ (if i < n then n else i) := by (split <;> omega)
            omega, fun m hm => ?_⟩
    rcases List.mem_cons.mp hm with h | h
    · subst h
      have hk : m ≤ (if i < m then m else i) := by split <;> omega
      omega
    · exact h2 m h
/-- least and greatest of a list that is not empty -/
def lo : List Int → Int
  | [] => 0
  | i :: ns => minL i ns
def hi : List Int → Int
  | [] => 0
  | i :: ns => maxL i ns
theorem lo_mem {ns : List Int} (h : ns ≠ []) : lo ns ∈ ns := by
  cases ns with
  | nil => exact absurd rfl h
  | cons i ns => rcases minL_mem ns i with e | e <;> (rw [lo]; first | (rw [e]; exact List.mem_cons_self) | exact List.mem_cons_of_mem _ e)
theorem lo_le {ns : List Int} {n : Int} (h : n ∈ ns) : lo ns ≤ n := by
  cases ns with
  | nil => cases h
  | cons i ns =>
    rcases List.mem_cons.mp h with h | h
    · subst h; exact (minL_le ns n).1
    · exact (minL_le ns i).2 n h
theorem hi_mem {ns : List Int} (h : ns ≠ []) : hi ns ∈ ns := by
  cases ns with
  | nil => exact absurd rfl h
  | cons i ns => rcases maxL_mem ns i with e | e <;> (rw [hi]; first | (rw [e]; exact List.mem_cons_self) | exact List.mem_cons_of_mem _ e)
theorem hi_le {ns : List Int} {n : Int} (h : n ∈ ns) : n ≤ hi ns := by
  cases ns with
  | nil => cases h
  | cons i ns =>
    rcases List.mem_cons.mp h with h | h
    · subst h; exact (maxL_le ns n).1
    · exact (maxL_le ns i).2 n h
theorem lo_eq {ns : List Int} {m : Int} (h : m ∈ ns) (h' : ∀ n ∈ ns, m ≤ n) : lo ns = m := by
  have ne : ns ≠ [] := by rintro rfl; cases h
  have := lo_le h
  have := h' _ (lo_mem ne)
  omega
theorem hi_eq {ns : List Int} {m : Int} (h : m ∈ ns) (h' : ∀ n ∈ ns, n ≤ m) : hi ns = m := by
  have ne : ns ≠ [] := by rintro rfl; cases h
  have := hi_le h
  have := h' _ (hi_mem ne)
  omega
theorem lo_set {ms ns : List Int} (h : ∀ m, m ∈ ms ↔ m ∈ ns) : lo ms = lo ns := by
  cases ms with
  | nil =>
    cases ns with
    | nil => rfl
    | cons n ns => exact absurd ((h n).mpr List.mem_cons_self) (by simp)
  | cons m ms =>
    have ne : ns ≠ [] := by rintro rfl; exact absurd ((h m).mp List.mem_cons_self) (by simp)
    exact lo_eq ((h _).mpr (lo_mem ne)) fun k hk => lo_le ((h k).mp hk)
theorem hi_set {ms ns : List Int} (h : ∀ m, m ∈ ms ↔ m ∈ ns) : hi ms = hi ns := by
  cases ms with
  | nil =>
    cases ns with
    | nil => rfl
    | cons n ns => exact absurd ((h n).mpr List.mem_cons_self) (by simp)
  | cons m ms =>
    have ne : ns ≠ [] := by rintro rfl; exact absurd ((h m).mp List.mem_cons_self) (by simp)
    exact hi_eq ((h _).mpr (hi_mem ne)) fun k hk => hi_le ((h k).mp hk)
theorem min_L' {ns : List Int} (h : ns ≠ []) : bltD .min [.list (ns.map .int)] = .ok (.int (lo ns)) := by
  cases ns with
  | nil => exact absurd rfl h
  | cons i ns => exact min_L
theorem max_L' {ns : List Int} (h : ns ≠ []) : bltD .max [.list (ns.map .int)] = .ok (.int (hi ns)) := by
  cases ns with
  | nil => exact absurd rfl h
  | cons i ns => exact max_L
def ptsS : Sh → List Pt
  | .ring c r => [(c.1 - r, c.2 - r), (c.1 + r, c.2 + r)]
  | .field ps => ps
  | .line p q => [p, q]
  | .box p q => [p, q]
def boxP (ps : List Pt) : Option Bx := if ps = [] then none else some ((lo (ps.map (·.1)), lo (ps.map (·.2))), (hi (ps.map (·.1)), hi (ps.map (·.2))))
def boxS (ss : List Sh) : Option Bx := boxP (ss.flatMap ptsS)
structure BoxOk (G : Prog) : Prop where
  pts : Has G "points_of" d_points_of
  arnd : Has G "box_around" d_box_around
/-- the law's lists -/
def lpts : Sh → List Pt × Int
  | .ring c r => ([c], r)
  | .field ps => (ps, 0)
  | .line p q => ([p, q], 0)
  | .box p q => ([p, q], 0)
def lw (s : Sh) : List Int := (lpts s).1.flatMap fun p => [p.1 - (lpts s).2, p.1 + (lpts s).2]
def lh (s : Sh) : List Int := (lpts s).1.flatMap fun p => [p.2 - (lpts s).2, p.2 + (lpts s).2]
theorem lw_set (s : Sh) (m : Int) : m ∈ lw s ↔ m ∈ (ptsS s).map (·.1) := by
  cases s <;> simp [lw, lpts, ptsS, eq_comm]
theorem lh_set (s : Sh) (m : Int) : m ∈ lh s ↔ m ∈ (ptsS s).map (·.2) := by
  cases s <;> simp [lh, lpts, ptsS, eq_comm]
theorem lws_set (ss : List Sh) (m : Int) : m ∈ ss.flatMap lw ↔ m ∈ (ss.flatMap ptsS).map (·.1) := by
  rw [List.map_flatMap]
  simp only [List.mem_flatMap, lw_set]
theorem lhs_set (ss : List Sh) (m : Int) : m ∈ ss.flatMap lh ↔ m ∈ (ss.flatMap ptsS).map (·.2) := by
  rw [List.map_flatMap]
  simp only [List.mem_flatMap, lh_set]
theorem lw_len (s : Sh) : (lw s).length ≤ 2 * (ptsS s).length := by
  cases s with
  | field ps => simp [lw, lpts, ptsS, List.length_flatMap]; rw [map_const_sum]; omega
  | _ => simp [lw, lpts, ptsS]
theorem lh_len (s : Sh) : (lh s).length ≤ 2 * (ptsS s).length := by
  cases s with
  | field ps => simp [lh, lpts, ptsS, List.length_flatMap]; rw [map_const_sum]; omega
  | _ => simp [lh, lpts, ptsS]
theorem flatMap_len2 {α β γ : Type} {f : α → List β} {g : α → List γ} {k : Nat} : ∀ {l : List α}, (∀ x ∈ l, (f x).length ≤ k * (g x).length) → (l.flatMap f).length ≤ k * (l.flatMap g).length
  | [], _ => by simp
  | x :: l, h => by
    have a := h x List.mem_cons_self
    have b := flatMap_len2 (l := l) fun y hy => h y (List.mem_cons_of_mem _ hy)
    simp only [List.flatMap_cons, List.length_append, Nat.mul_add]
    omega
theorem cmp_nLI {ns : List Int} : cmpD .eq (.list (ns.map .int)) (.list []) = .ok (.bool (decide (ns = []))) := by
  rw [cmp_LL0 (enc_int.ndAll ns)]; simp
theorem cnt_zero {ps : List Pt} : ((ps.length : Int) = 0) = (ps = []) := by
  cases ps <;> simp; omega
theorem add_II {xs ys : List Int} (h : xs.length + ys.length ≤ 1000000) : binD .add (.list (xs.map .int)) (.list (ys.map .int)) = .ok (.list ((xs ++ ys).map .int)) := by
  simp [binD, addD, LIM, h]
theorem add_I2 {xs : List Int} {a b : Int} (h : xs.length + 2 ≤ 1000000) : binD .add (.list (xs.map .int)) (.list [.int a, .int b]) = .ok (.list ((xs ++ [a, b]).map .int)) := by
  simp [binD, addD, LIM, h]
theorem cmpl_p0 {C : Ctx} {ρ : DEnv} {i : Nat} {ps : List Pt} (h : i < ρ.length) : cmpl C .nil (.idx (.var i) (.int 0)) (.name i) ρ (ps.map encP) = .ok ((ps.map (·.1)).map .int) := by
  rw [List.map_map, cmpl_map (fun q : Pt => .int q.1) ps fun q _ rs => ?_]; rfl
  exists getD_set h
theorem cmpl_p1 {C : Ctx} {ρ : DEnv} {i : Nat} {ps : List Pt} (h : i < ρ.length) : cmpl C .nil (.idx (.var i) (.int 1)) (.name i) ρ (ps.map encP) = .ok ((ps.map (·.2)).map .int) := by
  rw [List.map_map, cmpl_map (fun q : Pt => .int q.2) ps fun q _ rs => ?_]; rfl
  exists getD_set h
section
variable {G : Prog} {n : Nat}
theorem ev_points (g : BoxOk G) (hn : 1 ≤ n) {s : Sh} : callD G n "points_of" [encS s] = .ok (.list ((ptsS s).map encP)) := by
  cases s <;> rw [encS]
  all_goals
    refine k_go g.pts (by omega) rfl ?_
    exists d_points_of
    try rfl
theorem ev_around (g : BoxOk G) (hn : 2 ≤ n) {ss : List Sh} (hl : (ss.flatMap ptsS).length ≤ 1000000) : callD G n "box_around" [.list (ss.map encS)] = .ok (encB (boxS ss)) := by
  refine k_go g.arnd (by omega) rfl ?_
  exists d_box_around
  refine k_seq (lp_app (fun acc : List Pt => [.val (.list (ss.map encS)), .own (.list (acc.map encP)), .un, .un, .un, .un]) ptsS 1000000 ss hl fun acc s hs hB => ?_) ?_
  · simp only [List.map_append]
    exists ev_points g
  · unfold boxS boxP
    by_cases he : ss.flatMap ptsS = []
    · exists cnt_zero, he, encB
    · have n1 : (ss.flatMap ptsS).map (·.1) ≠ [] := by simpa using he
      have n2 : (ss.flatMap ptsS).map (·.2) ≠ [] := by simpa using he
      exists cnt_zero, he, encB, cmpl_p0, cmpl_p1, min_L' n1, min_L' n2, max_L' n1, max_L' n2
/-- the law's box -/
theorem ev_lbox (g : Has G "_law_box" d_law_box) (hn : 1 ≤ n) {ss : List Sh} (hl : (ss.flatMap ptsS).length ≤ 400000) : callD G n "_law_box" [.list (ss.map encS)] = .ok (encB (boxS ss)) := by
  have l1 := flatMap_len2 (l := ss) fun s _ => lw_len s
  have l2 := flatMap_len2 (l := ss) fun s _ => lh_len s
  refine k_go g (by omega) rfl ?_
  exists d_law_box
  refine k_seq (lp_app2 (fun w h : List Int => [.val (.list (ss.map encS)), .val (.list (w.map .int)), .val (.list (h.map .int)), .un, .un, .un, .un, .un]) lw lh 1000000 ss [] [] (by simp only [List.length_nil]; omega) (by simp only [List.length_nil]; omega) fun w h s hs hw hh => ?_) ?_
  · cases s with
    | line p q =>
      rw [encS]
      simp [lw, lh, lpts] at hw hh
      exists slc_1, add_I2
      simp [lw, lh, lpts]
    | box p q =>
      rw [encS]
      simp [lw, lh, lpts] at hw hh
      exists slc_1, add_I2
      simp [lw, lh, lpts]
    | ring c r =>
      rw [encS]
      simp [lw, lh, lpts] at hw hh
      exists slc_1, add_I2
      simp [lw, lh, lpts]
    | field ps =>
      rw [encS]
      exists slc_1
      refine k_lpT (lp_app2 (fun w h : List Int => [.val (.list (ss.map encS)), .val (.list (w.map .int)), .val (.list (h.map .int)), .val (.tuple [.str "field", .tuple (ps.map encP)]), .val (.list ((ps).map encP)), .val (.int 0), .un, .un]) (fun p : Pt => [p.1 - 0, p.1 + 0]) (fun p : Pt => [p.2 - 0, p.2 + 0]) 1000000 (ps) w h hw hh fun w h p hp hw hh => ?_) ?_
      · simp only [List.length_cons, List.length_nil] at hw hh
        exists add_I2
      · exists True.intro
        rfl
  · have e1 := lo_set (lws_set ss)
    have e2 := lo_set (lhs_set ss)
    have e3 := hi_set (lws_set ss)
    have e4 := hi_set (lhs_set ss)
    have e5 : ss.flatMap lw = [] ↔ ss.flatMap ptsS = [] := by
      rw [← List.map_eq_nil_iff (f := fun p : Pt => p.1), List.eq_nil_iff_forall_not_mem, List.eq_nil_iff_forall_not_mem]
      simp only [lws_set]
    have e6 : ss.flatMap lh = [] ↔ ss.flatMap ptsS = [] := by
      rw [← List.map_eq_nil_iff (f := fun p : Pt => p.2), List.eq_nil_iff_forall_not_mem, List.eq_nil_iff_forall_not_mem]
      simp only [lhs_set]
    unfold boxS boxP
    rw [List.nil_append, List.nil_append]
    by_cases he : ss.flatMap ptsS = []
    · exists cmp_nLI, e5, he, encB
    · exists cmp_nLI, e5, he, encB, min_L' (mt e5.mp he), min_L' (mt e6.mp he), max_L' (mt e5.mp he), max_L' (mt e6.mp he), e1, e2, e3, e4
end
end DP

/-! ## Box2 -/
set_option Elab.async false
set_option linter.all false
set_option maxRecDepth 100000
set_option maxHeartbeats 4000000
set_option autoImplicit false
/-! Boxes of sheets. -/
namespace DP
open PySem
local macro_rules | `(tactic| exists $es,*) => `(tactic| simp -implicitDefEqProofs (disch := first | assumption | omega | (simp only [List.length_map, List.length_append, List.length_cons, List.length_nil]; omega) | decide | (simp [nd, ndAll, PyData.depth, PyData.depthAll]; done)) only [q_b1, q_bL, q_b2, q_mkT, q_mkL, q_cons2, q_notK, q_andK, q_andKf, q_andKt, q_orK, q_orKt, q_orKf, q_chainK, q_slcK, q_tK, q_tKf, q_cmplK, q_cl0, q_cl1, q_cl1o, q_selt, q_self, q_seqn, q_seqr, q_seqe, q_seqi, q_asgK, q_asgOK, q_nxE, q_unpK, q_unpLK, q_parK, q_exprK, q_appK, q_extK, q_retK, q_retOK, q_iteK, q_forK, q_lp0, q_lp1, q_lpS, q_lpKn, q_lpKr, q_lpKe, q_lpKi, q_frzo, q_frzv, q_slotV, q_slotLv, q_slotLo, q_optV, q_outr, q_outn, q_oute, q_outi, q_w0, q_w1, q_sa0, q_sa1, q_stn, q_stt, q_tgn, q_tgt, q_eint, q_ebl, q_enon, q_estr, q_evar, q_eglob, q_etup, q_elst, q_ebin, q_eneg, q_enot, q_eand, q_eor, q_and1, q_and2, q_or1, q_or2, q_ecmp, q_echain, q_ecall, q_etold, q_told1, q_told2, q_told3, q_told4, q_low59, q_otold, q_eblt, q_eisi, q_eidx, q_eslc, q_erev, q_ecomp, q_es0, q_es1, q_bs0, q_bs1, q_t0, q_t1, q_iplain, q_irng, q_irng2, q_fplain, q_frng, q_frng2, q_ienum, q_izip, q_irev, q_fenum, q_fzip, q_frev, q_ovar, q_oint, q_obl, q_onon, q_ostr, q_oglob, q_otup, q_olst, q_obin, q_oneg, q_onot, q_oand, q_oor, q_ocmp, q_ochain, q_ochain3, q_ocall, q_oblt, q_oisi, q_oidx, q_oslc, q_orev, q_ometh, q_ocomp, q_odctget, q_odctidx, q_pint, q_pnon, q_pglob, q_pbin, q_pneg, q_pcall, q_pblt, q_pidx, q_pvar, q_ss0, q_ss1, q_sasg, q_sasgOlst, q_sasgOcomp, q_sasgObin, q_sasgOslc, q_sasgOrev, q_sasgOlist, q_sasgOsorted, q_sunp, q_sunpL, q_spar, q_sexpr, q_sapp, q_sext, q_sret, q_sretO, q_site, q_sfor, q_spass, q_zvar, q_zint, q_zbl, q_znon, q_zstr, q_zglob, q_ztup, q_zlst, q_zbin, q_zneg, q_znot, q_zand, q_zor, q_zcmp, q_zchain, q_zchain3, q_zcall, q_zblt, q_zisi, q_zidx, q_zslc, q_zrev, q_zmeth, q_zcomp, q_zdctget, q_zdctidx, q_zrng, q_zrng2, q_zenum, q_zzip, q_zirev, q_add, q_sub, q_mulR, q_mulL, q_fdiv, q_mod, q_neg, q_cI, q_cnI, q_cS, q_cnS, q_cB, q_cnB, q_clt, q_cle, q_cgt, q_cge, q_isN, q_isnN, q_ist, q_isnt, q_isl, q_isnl, q_isi, q_isni, q_iss, q_isns, q_isb, q_isnb, q_ixt0, q_ixl0, q_ixt1, q_ixl1, q_ixt2, q_ixl2, q_ixt3, q_ixl3, q_ixt4, q_ixl4, q_ixt5, q_ixl5, q_ixt6, q_ixl6, q_ixt7, q_ixl7, q_ixt8, q_ixl8, q_lent0, q_lenl0, q_lent1, q_lenl1, q_lent2, q_lenl2, q_lent3, q_lenl3, q_lent4, q_lenl4, q_lent5, q_lenl5, q_lent6, q_lenl6, q_lent7, q_lenl7, q_lent8, q_lenl8, q_lenTm, q_lenLm, q_bint, q_bintb, q_babs, q_blst, q_blstT, q_btup, q_btupT, q_bmin, q_bmax, q_isi_int_int, q_isi_int_bool, q_isi_int_str, q_isi_int_tuple, q_isi_int_list, q_isi_int_none, q_isi_bool_int, q_isi_bool_bool, q_isi_bool_str, q_isi_bool_tuple, q_isi_bool_list, q_isi_bool_none, q_isi_str_int, q_isi_str_bool, q_isi_str_str, q_isi_str_tuple, q_isi_str_list, q_isi_str_none, q_isi_tuple_int, q_isi_tuple_bool, q_isi_tuple_str, q_isi_tuple_tuple, q_isi_tuple_list, q_isi_tuple_none, q_isi_list_int, q_isi_list_bool, q_isi_list_str, q_isi_list_tuple, q_isi_list_list, q_isi_list_none, q_itL, q_itT, q_rng0, q_rng1, q_rng2, q_rng3, q_rng4, q_revL, q_revT, q_rvL, q_rvT, q_slT, q_slL, q_xasg, q_xret, q_xb1, q_xbL, q_xb2l, q_xb2r, q_xc2l, q_xc2r, q_xmkT, q_xmkL, q_xexpr, q_xunp, q_xite, q_xparl, q_xparr, q_xnot, q_xfor, q_xslc, q_srais, q_emeth, q_mthi, q_mthz, q_mthj, q_sel, q_seqnil, q_lpTn, q_lpTr, q_lpTe, q_lpTi, q_s_line_box, q_s_line_ring, q_s_line_field, q_s_line_row, q_s_line_group, q_s_box_line, q_s_box_ring, q_s_box_field, q_s_box_row, q_s_box_group, q_s_ring_line, q_s_ring_box, q_s_ring_field, q_s_ring_row, q_s_ring_group, q_s_field_line, q_s_field_box, q_s_field_ring, q_s_field_row, q_s_field_group, q_s_row_line, q_s_row_box, q_s_row_ring, q_s_row_field, q_s_row_group, q_s_group_line, q_s_group_box, q_s_group_ring, q_s_group_field, q_s_group_row, q_Pteta, q_Pleta, q_Mteta, q_cLL0, q_cTT0, q_cnLL0, q_cnTT0, List.getD_cons_zero, List.getD_cons_succ, List.set_cons_zero, List.set_cons_succ, List.map_cons, List.map_nil, List.cons_append, List.nil_append, List.append_assoc, List.length_cons, List.length_nil, List.length_map, List.length_append, List.replicate_succ, List.replicate_zero, ↓reduceIte, decide_eq_true_eq, Bool.not_eq_true', Bool.not_true, Bool.not_false, Bool.true_and, Bool.false_and, Bool.and_true, Bool.and_false, Bool.or_true, Bool.or_false, Bool.true_or, Bool.false_or, Bool.and_eq_true, Bool.or_eq_true, Bool.not_not, decide_eq_false_iff_not, decide_true, decide_false, Bool.false_eq_true, eq_self, not_true_eq_false, not_false_eq_true, true_and, and_true, false_and, and_false, or_true, true_or, or_false, false_or, Int.reduceAdd, Int.reduceMul, Int.reduceSub, Int.reduceNeg, Int.reduceLT, Int.reduceLE, Int.reduceEq, Int.reduceMod, Int.reduceDiv, Nat.reduceAdd, Nat.reduceSub, Int.reduceNe, $[$es:term],*])
theorem shape_pts {t : Th} (h : smp t = true) (p : Pl) : (ptsS (shapeOf t p)).length ≤ cnt t := by
  cases t <;> first | (cases h; done) | skip
  · simp only [shapeOf, lineOf]; split <;> simp [ptsS, cnt]
  · simp [shapeOf, boxOf, ptsS, cnt]
  · simp [shapeOf, ptsS, cnt]
  · simp [shapeOf, ptsS, cnt]
theorem flat_pts (t : Th) : ∀ (p : Pl) (path : Path), ((flat t p path).flatMap fun r => ptsS r.2).length ≤ cnt t := by
  induction t using Th.ind with
  | group ps ih =>
    intro p path
    rw [flat_group, cnt, cntL_sum, List.flatMap_assoc]
    have := flatMap_len (l := ps) (f := fun q => (flat q.2.2 (together p q.2.1) (path ++ [.nm q.1])).flatMap fun r => ptsS r.2) (g := fun q => cnt q.2.2) fun q hq => ih q hq _ _
    omega
  | row n x y t ih =>
    intro p path
    rw [flat_row, cnt, List.flatMap_assoc]
    have := flatMap_len (l := List.range n.toNat) (f := fun k : Nat => (flat t (together p (stepPl k x y)) (path ++ [.ix k])).flatMap fun r => ptsS r.2) (g := fun _ => cnt t) fun q hq => ih _ _
    rw [map_const_sum, List.length_range] at this
    omega
  | _ => intro p path; rw [flat_smp rfl]; simpa using shape_pts rfl p
theorem flatMap_filter_len {α β : Type} {f : α → List β} {p : α → Bool} : ∀ l : List α, ((l.filter p).flatMap f).length ≤ (l.flatMap f).length
  | [] => Nat.le_refl _
  | x :: l => by
    rw [List.filter_cons]
    have := flatMap_filter_len (f := f) (p := p) l
    split <;> simp only [List.flatMap_cons, List.length_append] <;> omega
/-- the rows of a part -/
def ofPart (nm : Str) (R : List Rw) : List Rw := R.filter fun r => decide (r.1.head? = some (.nm nm))
def boxR (R : List Rw) : Option Bx := boxS (R.map (·.2))
theorem boxR_pts (R : List Rw) : (R.map (·.2)).flatMap ptsS = R.flatMap fun r => ptsS r.2 := by rw [List.flatMap_map]
abbrev encNB (b : Str × Option Bx) : PyData := .tuple [.str b.1, encB b.2]
def boxesOf (ps : List Pa) : List (Str × Option Bx) := ps.map fun q => (q.1, boxR (ofPart q.1 (flat (.group ps) plain [])))
theorem flat_head (t : Th) : ∀ (p : Pl) (path : Path), ∀ r ∈ flat t p path, ∃ rest, r.1 = path ++ rest := by
  induction t using Th.ind with
  | group ps ih =>
    intro p path r hr
    rw [flat_group] at hr
    obtain ⟨q, hq, hr⟩ := List.mem_flatMap.mp hr
    obtain ⟨rest, e⟩ := ih q hq _ _ r hr
    exact ⟨.nm q.1 :: rest, by rw [e]; simp⟩
  | row n x y t ih =>
    intro p path r hr
    rw [flat_row] at hr
    obtain ⟨k, hk, hr⟩ := List.mem_flatMap.mp hr
    obtain ⟨rest, e⟩ := ih _ _ r hr
    exact ⟨.ix k :: rest, by rw [e]; simp⟩
  | _ => intro p path r hr; rw [flat_smp rfl] at hr; simp only [List.mem_singleton] at hr; subst hr; exact ⟨[], by simp⟩
theorem flat_named (ps : List Pa) : ∀ r ∈ flat (.group ps) plain [], ∃ nm rest, r.1 = .nm nm :: rest := by
  intro r hr
  rw [flat_group] at hr
  obtain ⟨q, hq, hr⟩ := List.mem_flatMap.mp hr
  obtain ⟨rest, e⟩ := flat_head _ _ _ r hr
  exact ⟨q.1, rest, by rw [e]; rfl⟩
theorem enc_B : Enc encB 2 := ⟨fun b => by cases b <;> rfl, fun b => by cases b <;> simp [encB, PyData.depth, PyData.depthAll], fun b c => by
  cases b with
  | none => cases c <;> simp [encB, PyData.eqv]
  | some b => cases c with
    | none => simp [encB, PyData.eqv]
    | some c => simp [encB, PyData.eqv, PyData.eqvAll, Prod.ext_iff]⟩
theorem enc_NB : Enc encNB 3 := (enc_str.up (by decide)).two enc_B
theorem enc_NBs : Enc (fun bs : List (Str × Option Bx) => PyData.tuple (bs.map encNB)) 4 := enc_NB.tup
/-- the shapes of rows whose paths begin with a name -/
theorem cmpl_of {C : Ctx} {ρ : DEnv} {i j : Nat} {c : DE} {nm : Str} {R : List Rw} (hR : ∀ r ∈ R, ∃ nm rest, r.1 = .nm nm :: rest) (hi : i < ρ.length) (hj : j < ρ.length) (hij : i ≠ j) (hc : ∀ a b : PyData, opd C c ((ρ.set i (.val a)).set j (.val b)) = .ok (.str nm)) :
    cmpl C (.cons (.cmp .eq (.idx (.var i) (.int 0)) c) .nil) (.var j) (.tup [i, j]) ρ (R.map encRw) = .ok (((ofPart nm R).map (·.2)).map encS) := by
  rw [cmpl_filter (fun r : Rw => decide (r.1.head? = some (.nm nm))) (fun r => encS r.2) R fun r hr rs => ?_]
  · rw [List.map_map]; rfl
  · obtain ⟨p, s⟩ := r
    obtain ⟨nm', rest, e⟩ := hR _ hr
    simp only at e
    subst e
    have h1 : ∀ a b : PyData, ((ρ.set i (.val a)).set j (.val b)).getD i .un = .val a := fun a b => by
      have : (ρ.set i (.val a))[i]? = some (.val a) := List.getElem?_set_self hi
      simp [List.getD_eq_getElem?_getD, List.getElem?_set_ne (Ne.symm hij), this]
    have h2 : ∀ a b : PyData, ((ρ.set i (.val a)).set j (.val b)).getD j .un = .val b := fun a b => by
      simp [List.getD_eq_getElem?_getD, hj]
    exists h1, h2, hc, encPath, encStp, List.head?_cons, Option.some.injEq, Stp.nm.injEq
theorem flatMap_one {α β : Type} (f : α → β) : ∀ l : List α, l.flatMap (fun x => [f x]) = l.map f
  | [] => rfl
  | x :: l => by rw [List.flatMap_cons, flatMap_one f l]; rfl
structure BosOk (G : Prog) : Prop extends BoxOk G, FltOk G where
  of : Has G "box_of" d_box_of
  boxes : Has G "boxes" d_boxes
/-- what the functions of flat ask of a sheet -/
structure Fit (t : Th) : Prop where
  wf : wf t
  dep : dep t ≤ 30
  cnt : cnt t ≤ 400000
  scl : scl t < 1073741824
theorem Sml.fit {t : Th} (h : Sml t) : Fit t := ⟨h.wf, by have := h.dep; omega, by have := h.cnt; omega, by have := h.scl; omega⟩
section
variable {G : Prog} {n : Nat}
theorem ev_box_of (g : BosOk G) (hn : 40 ≤ n) {t : Th} (ht : Fit t) : callD G n "box_of" [encT t] = .ok (encB (boxR (flat t plain []))) := by
  have := ht.dep
  have := ht.cnt
  have hf := ev_flat g.toFltOk (n := n - 1) (by omega) ht.wf (by omega) ht.scl (by omega)
  have hp := flat_pts t plain []
  have hb := ev_around g.toBoxOk (n := n - 1) (by omega) (ss := (flat t plain []).map (·.2)) (by rw [boxR_pts]; omega)
  refine k_go g.of (by omega) rfl ?_
  exists d_box_of, hf, cmpl_shapes, hb
  rfl
theorem ev_boxes (g : BosOk G) (hn : 40 ≤ n) {ps : List Pa} (ht : Fit (.group ps)) : callD G n "boxes" [encT (.group ps)] = .ok (.tuple ((boxesOf ps).map encNB)) := by
  have hd := ht.dep
  have hc := ht.cnt
  have hf := ev_flat g.toFltOk (n := n - 1) (by omega) ht.wf (by omega) ht.scl (by omega)
  have hp := flat_pts (.group ps) plain []
  have hl := cntL_len ps
  rw [cnt_group] at hc
  have hb : ∀ nm, callD G (n - 1) "box_around" [.list (((ofPart nm (flat (.group ps) plain [])).map (·.2)).map encS)] = .ok (encB (boxR (ofPart nm (flat (.group ps) plain [])))) := fun nm => ev_around g.toBoxOk (n := n - 1) (by omega) (by
    rw [boxR_pts]
    have := flatMap_filter_len (f := fun r : Rw => ptsS r.2) (p := fun r => decide (r.1.head? = some (.nm nm))) (flat (.group ps) plain [])
    rw [cnt_group] at hp
    unfold ofPart
    omega)
  rw [encT_group] at hf ⊢
  refine k_go g.boxes (by omega) rfl ?_
  exists d_boxes
  refine k_seq (lp_app (fun acc : List (Str × Option Bx) => [.val (.tuple [.str "group", .tuple (ps.map encPa)]), .own (.list (acc.map encNB)), .un, .un, .un]) (fun q => [(q.1, boxR (ofPart q.1 (flat (.group ps) plain [])))]) 1000000 ps (by
    rw [flatMap_one, List.length_map]; omega) fun acc q hq hB => ?_) ?_
  · simp only [List.map_append]
    simp only [List.length_cons, List.length_nil] at hB
    exists hf
    rw [cmpl_of (nm := q.1) (flat_named ps) (by simp) (by simp) (by decide) (fun a b => by exists True.intro)]
    exists hb
  · exists boxesOf, flatMap_one
end
end DP

/-! ## Put -/
set_option Elab.async false
set_option linter.all false
set_option maxRecDepth 100000
set_option maxHeartbeats 4000000
set_option autoImplicit false
/-! Shapes put; what is flat under placings put together. -/
namespace DP
open PySem
local macro_rules | `(tactic| exists $es,*) => `(tactic| simp -implicitDefEqProofs (disch := first | assumption | omega | (simp only [List.length_map, List.length_append, List.length_cons, List.length_nil]; omega) | decide | (simp [nd, ndAll, PyData.depth, PyData.depthAll]; done)) only [q_b1, q_bL, q_b2, q_mkT, q_mkL, q_cons2, q_notK, q_andK, q_andKf, q_andKt, q_orK, q_orKt, q_orKf, q_chainK, q_slcK, q_tK, q_tKf, q_cmplK, q_cl0, q_cl1, q_cl1o, q_selt, q_self, q_seqn, q_seqr, q_seqe, q_seqi, q_asgK, q_asgOK, q_nxE, q_unpK, q_unpLK, q_parK, q_exprK, q_appK, q_extK, q_retK, q_retOK, q_iteK, q_forK, q_lp0, q_lp1, q_lpS, q_lpKn, q_lpKr, q_lpKe, q_lpKi, q_frzo, q_frzv, q_slotV, q_slotLv, q_slotLo, q_optV, q_outr, q_outn, q_oute, q_outi, q_w0, q_w1, q_sa0, q_sa1, q_stn, q_stt, q_tgn, q_tgt, q_eint, q_ebl, q_enon, q_estr, q_evar, q_eglob, q_etup, q_elst, q_ebin, q_eneg, q_enot, q_eand, q_eor, q_and1, q_and2, q_or1, q_or2, q_ecmp, q_echain, q_ecall, q_etold, q_told1, q_told2, q_told3, q_told4, q_low59, q_otold, q_eblt, q_eisi, q_eidx, q_eslc, q_erev, q_ecomp, q_es0, q_es1, q_bs0, q_bs1, q_t0, q_t1, q_iplain, q_irng, q_irng2, q_fplain, q_frng, q_frng2, q_ienum, q_izip, q_irev, q_fenum, q_fzip, q_frev, q_ovar, q_oint, q_obl, q_onon, q_ostr, q_oglob, q_otup, q_olst, q_obin, q_oneg, q_onot, q_oand, q_oor, q_ocmp, q_ochain, q_ochain3, q_ocall, q_oblt, q_oisi, q_oidx, q_oslc, q_orev, q_ometh, q_ocomp, q_odctget, q_odctidx, q_pint, q_pnon, q_pglob, q_pbin, q_pneg, q_pcall, q_pblt, q_pidx, q_pvar, q_ss0, q_ss1, q_sasg, q_sasgOlst, q_sasgOcomp, q_sasgObin, q_sasgOslc, q_sasgOrev, q_sasgOlist, q_sasgOsorted, q_sunp, q_sunpL, q_spar, q_sexpr, q_sapp, q_sext, q_sret, q_sretO, q_site, q_sfor, q_spass, q_zvar, q_zint, q_zbl, q_znon, q_zstr, q_zglob, q_ztup, q_zlst, q_zbin, q_zneg, q_znot, q_zand, q_zor, q_zcmp, q_zchain, q_zchain3, q_zcall, q_zblt, q_zisi, q_zidx, q_zslc, q_zrev, q_zmeth, q_zcomp, q_zdctget, q_zdctidx, q_zrng, q_zrng2, q_zenum, q_zzip, q_zirev, q_add, q_sub, q_mulR, q_mulL, q_fdiv, q_mod, q_neg, q_cI, q_cnI, q_cS, q_cnS, q_cB, q_cnB, q_clt, q_cle, q_cgt, q_cge, q_isN, q_isnN, q_ist, q_isnt, q_isl, q_isnl, q_isi, q_isni, q_iss, q_isns, q_isb, q_isnb, q_ixt0, q_ixl0, q_ixt1, q_ixl1, q_ixt2, q_ixl2, q_ixt3, q_ixl3, q_ixt4, q_ixl4, q_ixt5, q_ixl5, q_ixt6, q_ixl6, q_ixt7, q_ixl7, q_ixt8, q_ixl8, q_lent0, q_lenl0, q_lent1, q_lenl1, q_lent2, q_lenl2, q_lent3, q_lenl3, q_lent4, q_lenl4, q_lent5, q_lenl5, q_lent6, q_lenl6, q_lent7, q_lenl7, q_lent8, q_lenl8, q_lenTm, q_lenLm, q_bint, q_bintb, q_babs, q_blst, q_blstT, q_btup, q_btupT, q_bmin, q_bmax, q_isi_int_int, q_isi_int_bool, q_isi_int_str, q_isi_int_tuple, q_isi_int_list, q_isi_int_none, q_isi_bool_int, q_isi_bool_bool, q_isi_bool_str, q_isi_bool_tuple, q_isi_bool_list, q_isi_bool_none, q_isi_str_int, q_isi_str_bool, q_isi_str_str, q_isi_str_tuple, q_isi_str_list, q_isi_str_none, q_isi_tuple_int, q_isi_tuple_bool, q_isi_tuple_str, q_isi_tuple_tuple, q_isi_tuple_list, q_isi_tuple_none, q_isi_list_int, q_isi_list_bool, q_isi_list_str, q_isi_list_tuple, q_isi_list_list, q_isi_list_none, q_itL, q_itT, q_rng0, q_rng1, q_rng2, q_rng3, q_rng4, q_revL, q_revT, q_rvL, q_rvT, q_slT, q_slL, q_xasg, q_xret, q_xb1, q_xbL, q_xb2l, q_xb2r, q_xc2l, q_xc2r, q_xmkT, q_xmkL, q_xexpr, q_xunp, q_xite, q_xparl, q_xparr, q_xnot, q_xfor, q_xslc, q_srais, q_emeth, q_mthi, q_mthz, q_mthj, q_sel, q_seqnil, q_lpTn, q_lpTr, q_lpTe, q_lpTi, q_s_line_box, q_s_line_ring, q_s_line_field, q_s_line_row, q_s_line_group, q_s_box_line, q_s_box_ring, q_s_box_field, q_s_box_row, q_s_box_group, q_s_ring_line, q_s_ring_box, q_s_ring_field, q_s_ring_row, q_s_ring_group, q_s_field_line, q_s_field_box, q_s_field_ring, q_s_field_row, q_s_field_group, q_s_row_line, q_s_row_box, q_s_row_ring, q_s_row_field, q_s_row_group, q_s_group_line, q_s_group_box, q_s_group_ring, q_s_group_field, q_s_group_row, q_Pteta, q_Pleta, q_Mteta, q_cLL0, q_cTT0, q_cnLL0, q_cnTT0, List.getD_cons_zero, List.getD_cons_succ, List.set_cons_zero, List.set_cons_succ, List.map_cons, List.map_nil, List.cons_append, List.nil_append, List.append_assoc, List.length_cons, List.length_nil, List.length_map, List.length_append, List.replicate_succ, List.replicate_zero, ↓reduceIte, decide_eq_true_eq, Bool.not_eq_true', Bool.not_true, Bool.not_false, Bool.true_and, Bool.false_and, Bool.and_true, Bool.and_false, Bool.or_true, Bool.or_false, Bool.true_or, Bool.false_or, Bool.and_eq_true, Bool.or_eq_true, Bool.not_not, decide_eq_false_iff_not, decide_true, decide_false, Bool.false_eq_true, eq_self, not_true_eq_false, not_false_eq_true, true_and, and_true, false_and, and_false, or_true, true_or, or_false, false_or, Int.reduceAdd, Int.reduceMul, Int.reduceSub, Int.reduceNeg, Int.reduceLT, Int.reduceLE, Int.reduceEq, Int.reduceMod, Int.reduceDiv, Nat.reduceAdd, Nat.reduceSub, Int.reduceNe, $[$es:term],*])
def shPut (p : Pl) : Sh → Sh
  | .line a b => lineOf (put p a) (put p b)
  | .ring c r => .ring (put p c) (r * p.s)
  | .field ps => .field (ps.map (put p))
  | .box a b => boxOf (put p a) (put p b)
abbrev rwPut (p : Pl) (pre : Path) (r : Rw) : Rw := (pre ++ r.1, shPut p r.2)
theorem lt_total {a b : Pt} (h : ltPt a b = false) (h' : ltPt b a = false) : a = b := by
  obtain ⟨e1, e2⟩ := lt_eq (a := a.1) (b := a.2) (c := b.1) (d := b.2) h h'
  exact Prod.ext e1 e2
theorem lineOf_comm (a b : Pt) : lineOf a b = lineOf b a := by
  unfold lineOf
  cases h : ltPt b a with
  | true => have h' : ltPt a b = false := lt_anti h; simp [h']
  | false =>
    cases h' : ltPt a b with
    | true => simp
    | false => have := lt_total h h'; subst this; simp
theorem lineOf_put (p : Pl) (a b : Pt) : shPut p (lineOf a b) = lineOf (put p a) (put p b) := by
  unfold lineOf
  split
  · simp only [shPut]; exact lineOf_comm _ _
  · simp only [shPut]
    rfl
theorem mn_lin {a b s x : Int} (h : 0 ≤ s) : mn (a * s + x) (b * s + x) = mn a b * s + x := by
  unfold mn
  by_cases hc : b < a
  · have := Int.mul_le_mul_of_nonneg_right (Int.le_of_lt hc) h
    by_cases he : b * s = a * s
    · have e : ¬ b * s + x < a * s + x := by omega
      simp only [hc, e, if_true, if_false]; omega
    · have e : b * s + x < a * s + x := by omega
      simp only [hc, e, if_true]
  · have := Int.mul_le_mul_of_nonneg_right (Int.not_lt.mp hc) h
    have e : ¬ b * s + x < a * s + x := by omega
    simp only [hc, e, if_false]
theorem mx_lin {a b s x : Int} (h : 0 ≤ s) : mx (a * s + x) (b * s + x) = mx a b * s + x := by
  unfold mx
  by_cases hc : b > a
  · have := Int.mul_le_mul_of_nonneg_right (Int.le_of_lt hc) h
    by_cases he : a * s = b * s
    · have e : ¬ b * s + x > a * s + x := by omega
      simp only [hc, e, if_true, if_false]; omega
    · have e : b * s + x > a * s + x := by omega
      simp only [hc, e, if_true]
  · have := Int.mul_le_mul_of_nonneg_right (Int.not_lt.mp hc) h
    have e : ¬ b * s + x > a * s + x := by omega
    simp only [hc, e, if_false]
theorem mn_neg (a b : Int) : mn (-a) (-b) = -mx a b := by unfold mn mx; split <;> split <;> omega
theorem mx_neg (a b : Int) : mx (-a) (-b) = -mn a b := by unfold mn mx; split <;> split <;> omega
theorem mn_mnmx (a b : Int) : mn (mn a b) (mx a b) = mn a b := by unfold mn mx; (repeat' split) <;> omega
theorem mx_mnmx (a b : Int) : mx (mn a b) (mx a b) = mx a b := by unfold mn mx; (repeat' split) <;> omega
theorem mn_mxmn (a b : Int) : mn (mx a b) (mn a b) = mn a b := by unfold mn mx; (repeat' split) <;> omega
theorem mx_mxmn (a b : Int) : mx (mx a b) (mn a b) = mx a b := by unfold mn mx; (repeat' split) <;> omega
theorem boxOf_put {p : Pl} (h : PlT p) (hs : 0 ≤ p.s) (a b : Pt) : shPut p (boxOf a b) = boxOf (put p a) (put p b) := by
  obtain ⟨t, f, s, x, y⟩ := p
  obtain ⟨h0, h3, hf⟩ := h
  obtain ⟨a1, a2⟩ := a
  obtain ⟨b1, b2⟩ := b
  simp only at h0 h3 hf hs
  simp only [boxOf, shPut, Sh.box.injEq, Prod.mk.injEq]
  rcases t_cases h0 h3 with rfl | rfl | rfl | rfl <;> rcases hf with rfl | rfl <;> simp [put, rot, flp] <;> simp only [mn_lin hs, mx_lin hs, mn_neg, mx_neg, mn_mnmx, mx_mnmx, mn_mxmn, mx_mxmn, Int.neg_neg, and_self]
theorem shapeOf_tog {t : Th} (h : smp t = true) {p q : Pl} (hp : PlT p) (hps : 0 ≤ p.s) (hq : PlT q) : shapeOf t (together p q) = shPut p (shapeOf t q) := by
  have e := fun z => put_tog hp hq z
  cases t <;> first | (cases h; done) | skip
  · simp only [shapeOf, lineOf_put, e]
  · simp only [shapeOf, boxOf_put hp hps, e]
  · simp only [shapeOf, shPut, e]
    rw [show (together p q).s = p.s * q.s from rfl, Int.mul_assoc, Int.mul_comm p.s]
  · simp only [shapeOf, shPut, List.map_map]
    congr 1
    exact List.map_congr_left fun z _ => e z
theorem flat_tog (t : Th) : ∀ {p q : Pl} (pre path : Path), wf t → PlT p → 0 ≤ p.s → PlT q → flat t (together p q) (pre ++ path) = (flat t q path).map (rwPut p pre) := by
  induction t using Th.ind with
  | group ps ih =>
    intro p q pre path hw hp hs hq
    rw [wf_group] at hw
    rw [flat_group, flat_group, List.map_flatMap]
    refine flatMap_congr fun z hz => ?_
    rw [tog_assoc _ hp hq, List.append_assoc]
    exact ih z hz pre _ (hw z hz).2.2 hp hs (together_T _ _)
  | row n x y t ih =>
    intro p q pre path hw hp hs hq
    rw [flat_row, flat_row, List.map_flatMap]
    refine flatMap_congr fun k hk => ?_
    rw [tog_assoc _ hp hq, List.append_assoc]
    exact ih pre _ hw.2.2 hp hs (together_T _ _)
  | _ =>
    intro p q pre path hw hp hs hq
    rw [flat_smp rfl, flat_smp rfl, shapeOf_tog rfl hp hs hq]; rfl
theorem plain_T : PlT plain := plain_w.T
theorem flat_put {t : Th} {p : Pl} (pre : Path) (hw : wf t) (hp : PlT p) (hs : 0 ≤ p.s) : flat t p pre = (flat t plain []).map (rwPut p pre) := by
  have := flat_tog t (p := p) (q := plain) pre [] hw hp hs plain_T
  rw [tog_plain hp, List.append_nil] at this
  exact this
/-! boxes of both -/
def boxU : Option Bx → Option Bx → Option Bx
  | none, b => b
  | a, none => a
  | some a, some b => some ((mn a.1.1 b.1.1, mn a.1.2 b.1.2), (mx a.2.1 b.2.1, mx a.2.2 b.2.2))
theorem lo_append {xs ys : List Int} (hx : xs ≠ []) (hy : ys ≠ []) : lo (xs ++ ys) = mn (lo xs) (lo ys) := by
  have h1 := lo_mem hx
  have h2 := lo_mem hy
  refine lo_eq ?_ fun n hn => ?_
  · unfold mn; split
    · exact List.mem_append_right _ h2
    · exact List.mem_append_left _ h1
  · rcases List.mem_append.mp hn with h | h
    · have := lo_le h; unfold mn; split <;> omega
    · have := lo_le h; unfold mn; split <;> omega
theorem hi_append {xs ys : List Int} (hx : xs ≠ []) (hy : ys ≠ []) : hi (xs ++ ys) = mx (hi xs) (hi ys) := by
  have h1 := hi_mem hx
  have h2 := hi_mem hy
  refine hi_eq ?_ fun n hn => ?_
  · unfold mx; split
    · exact List.mem_append_right _ h2
    · exact List.mem_append_left _ h1
  · rcases List.mem_append.mp hn with h | h
    · have := hi_le h; unfold mx; split <;> omega
    · have := hi_le h; unfold mx; split <;> omega
theorem boxP_append (xs ys : List Pt) : boxP (xs ++ ys) = boxU (boxP xs) (boxP ys) := by
  by_cases hx : xs = []
  · subst hx; simp [boxP, boxU]
  · by_cases hy : ys = []
    · subst hy
      rw [List.append_nil]
      simp [boxP, hx, boxU]
    · have n1 : xs.map (·.1) ≠ [] := by simpa using hx
      have n2 : xs.map (·.2) ≠ [] := by simpa using hx
      have n3 : ys.map (·.1) ≠ [] := by simpa using hy
      have n4 : ys.map (·.2) ≠ [] := by simpa using hy
      have n5 : xs ++ ys ≠ [] := by simp [hx]
      simp only [boxP, hx, hy, n5, if_false, boxU, List.map_append, lo_append n1 n3, lo_append n2 n4, hi_append n1 n3, hi_append n2 n4]
theorem boxR_append (A B : List Rw) : boxR (A ++ B) = boxU (boxR A) (boxR B) := by
  unfold boxR boxS
  rw [List.map_append, List.flatMap_append, boxP_append]
theorem ofPart_all {nm : Str} {A : List Rw} (h : ∀ r ∈ A, r.1.head? = some (.nm nm)) : ofPart nm A = A := by
  unfold ofPart
  rw [List.filter_eq_self]
  intro r hr; simp [h r hr]
theorem ofPart_none {nm nm' : Str} {A : List Rw} (h : ∀ r ∈ A, r.1.head? = some (.nm nm')) (hn : nm' ≠ nm) : ofPart nm A = [] := by
  unfold ofPart
  rw [List.filter_eq_nil_iff]
  intro r hr
  have : ¬ nm' = nm := hn
  simp [h r hr, this]
theorem ofPart_append (nm : Str) (A B : List Rw) : ofPart nm (A ++ B) = ofPart nm A ++ ofPart nm B := List.filter_append ..
section
variable {G : Prog} {n : Nat}
theorem ev_shput (g : Has G "_law_shape_put" d_law_shape_put) (gp : PlcOk G) (hn : 2 ≤ n) {sh : Sh} {t f s x y : Int} (h : PlW ⟨t, f, s, x, y⟩) : callD G n "_law_shape_put" [encS sh, .tuple [.int t, .int f, .int s, .int x, .int y]] = .ok (encS (shPut ⟨t, f, s, x, y⟩ sh)) := by
  have h1 := h.s1
  have h9 := h.s9
  simp only at h1 h9
  cases sh with
  | line a b =>
    rw [encS]
    cases hl : ltPt (put ⟨t, f, s, x, y⟩ b) (put ⟨t, f, s, x, y⟩ a) with
    | true =>
      have hl' : ltP2 (put ⟨t, f, s, x, y⟩ a).1 (put ⟨t, f, s, x, y⟩ a).2 (put ⟨t, f, s, x, y⟩ b).1 (put ⟨t, f, s, x, y⟩ b).2 = false := lt_anti hl
      refine k_go g (by omega) rfl ?_
      exists d_law_shape_put, ev_put gp _ h, min_2, max_2, hl, hl'
      simp [shPut, lineOf, hl, encS]
    | false =>
      cases hl' : ltP2 (put ⟨t, f, s, x, y⟩ a).1 (put ⟨t, f, s, x, y⟩ a).2 (put ⟨t, f, s, x, y⟩ b).1 (put ⟨t, f, s, x, y⟩ b).2 with
      | true =>
        refine k_go g (by omega) rfl ?_
        exists d_law_shape_put, ev_put gp _ h, min_2, max_2, hl, hl'
        simp [shPut, lineOf, hl, encS]
      | false =>
        obtain ⟨e1, e2⟩ := lt_eq hl hl'
        refine k_go g (by omega) rfl ?_
        exists d_law_shape_put, ev_put gp _ h, min_2, max_2, hl, hl'
        simp [shPut, lineOf, hl, encS, e1, e2]
  | box a b =>
    rw [encS]
    refine k_go g (by omega) rfl ?_
    exists d_law_shape_put, ev_put gp _ h
    rfl
  | ring c r =>
    rw [encS]
    refine k_go g (by omega) rfl ?_
    exists d_law_shape_put, ev_put gp _ h
    rfl
  | field ps =>
    rw [encS]
    refine k_go g (by omega) rfl ?_
    exists d_law_shape_put, ev_put gp _ h
    rw [cmpl_map (fun q => encP (put ⟨t, f, s, x, y⟩ q)) ps fun q _ rs => by exists ev_put gp _ h]
    exists shPut, encS, List.map_map
    rfl
theorem add_NP {nm : Str} {path : Path} (h : path.length ≤ 1000) : binD .add (.tuple [.str nm]) (.tuple (path.map encStp)) = .ok (.tuple ((([Stp.nm nm] : Path) ++ path).map encStp)) := by
  simp [binD, addD, LIM, encStp]; omega
theorem add_NKP {nm : Str} {k : Int} {path : Path} (h : path.length ≤ 1000) : binD .add (.tuple [.str nm, .int k]) (.tuple (path.map encStp)) = .ok (.tuple ((([Stp.nm nm, Stp.ix k] : Path) ++ path).map encStp)) := by
  simp [binD, addD, LIM, encStp]; omega
theorem ev_put_all (g : Has G "_law_put_all" d_law_put_all) (g' : Has G "_law_shape_put" d_law_shape_put) (gp : PlcOk G) (hn : 3 ≤ n) {R : List Rw} (hR : ∀ r ∈ R, r.1.length ≤ 1000) {nm : Str} {t f s x y : Int} (h : PlW ⟨t, f, s, x, y⟩) :
    callD G n "_law_put_all" [.tuple (R.map encRw), .tuple [.int t, .int f, .int s, .int x, .int y], .str nm] = .ok (.tuple ((R.map (rwPut ⟨t, f, s, x, y⟩ [.nm nm])).map encRw)) := by
  refine k_go g (by omega) rfl ?_
  exists d_law_put_all
  rw [cmpl_map (fun r => encRw (rwPut ⟨t, f, s, x, y⟩ [.nm nm] r)) R fun r hr rs => by
    have := hR r hr
    exists ev_shput g' gp _ h, add_NP
    rfl]
  exists List.map_map
  rfl
end
theorem flat_path_len (t : Th) : ∀ (p : Pl) (path : Path), ∀ r ∈ flat t p path, r.1.length ≤ path.length + dep t := by
  induction t using Th.ind with
  | group ps ih =>
    intro p path r hr
    rw [flat_group] at hr
    obtain ⟨q, hq, hr⟩ := List.mem_flatMap.mp hr
    have := ih q hq _ _ r hr
    have := dep_mem hq
    rw [dep_group]
    simp only [List.length_append, List.length_cons, List.length_nil] at *
    omega
  | row n x y t ih =>
    intro p path r hr
    rw [flat_row] at hr
    obtain ⟨k, hk, hr⟩ := List.mem_flatMap.mp hr
    have := ih _ _ r hr
    rw [dep_row]
    simp only [List.length_append, List.length_cons, List.length_nil] at *
    omega
  | _ => intro p path r hr; rw [flat_smp rfl] at hr; simp only [List.mem_singleton] at hr; subst hr; simp
end DP

/-! ## Chg -/
set_option Elab.async false
set_option linter.all false
set_option maxRecDepth 100000
set_option maxHeartbeats 4000000
set_option autoImplicit false
/-! Things at paths; parts in the place of others: the program's functions. -/
namespace DP
open PySem
local macro_rules | `(tactic| exists $es,*) => `(tactic| simp -implicitDefEqProofs (disch := first | assumption | omega | (simp only [List.length_map, List.length_append, List.length_cons, List.length_nil]; omega) | decide | (simp [nd, ndAll, PyData.depth, PyData.depthAll]; done)) only [q_b1, q_bL, q_b2, q_mkT, q_mkL, q_cons2, q_notK, q_andK, q_andKf, q_andKt, q_orK, q_orKt, q_orKf, q_chainK, q_slcK, q_tK, q_tKf, q_cmplK, q_cl0, q_cl1, q_cl1o, q_selt, q_self, q_seqn, q_seqr, q_seqe, q_seqi, q_asgK, q_asgOK, q_nxE, q_unpK, q_unpLK, q_parK, q_exprK, q_appK, q_extK, q_retK, q_retOK, q_iteK, q_forK, q_lp0, q_lp1, q_lpS, q_lpKn, q_lpKr, q_lpKe, q_lpKi, q_frzo, q_frzv, q_slotV, q_slotLv, q_slotLo, q_optV, q_outr, q_outn, q_oute, q_outi, q_w0, q_w1, q_sa0, q_sa1, q_stn, q_stt, q_tgn, q_tgt, q_eint, q_ebl, q_enon, q_estr, q_evar, q_eglob, q_etup, q_elst, q_ebin, q_eneg, q_enot, q_eand, q_eor, q_and1, q_and2, q_or1, q_or2, q_ecmp, q_echain, q_ecall, q_etold, q_told1, q_told2, q_told3, q_told4, q_low59, q_otold, q_eblt, q_eisi, q_eidx, q_eslc, q_erev, q_ecomp, q_es0, q_es1, q_bs0, q_bs1, q_t0, q_t1, q_iplain, q_irng, q_irng2, q_fplain, q_frng, q_frng2, q_ienum, q_izip, q_irev, q_fenum, q_fzip, q_frev, q_ovar, q_oint, q_obl, q_onon, q_ostr, q_oglob, q_otup, q_olst, q_obin, q_oneg, q_onot, q_oand, q_oor, q_ocmp, q_ochain, q_ochain3, q_ocall, q_oblt, q_oisi, q_oidx, q_oslc, q_orev, q_ometh, q_ocomp, q_odctget, q_odctidx, q_pint, q_pnon, q_pglob, q_pbin, q_pneg, q_pcall, q_pblt, q_pidx, q_pvar, q_ss0, q_ss1, q_sasg, q_sasgOlst, q_sasgOcomp, q_sasgObin, q_sasgOslc, q_sasgOrev, q_sasgOlist, q_sasgOsorted, q_sunp, q_sunpL, q_spar, q_sexpr, q_sapp, q_sext, q_sret, q_sretO, q_site, q_sfor, q_spass, q_zvar, q_zint, q_zbl, q_znon, q_zstr, q_zglob, q_ztup, q_zlst, q_zbin, q_zneg, q_znot, q_zand, q_zor, q_zcmp, q_zchain, q_zchain3, q_zcall, q_zblt, q_zisi, q_zidx, q_zslc, q_zrev, q_zmeth, q_zcomp, q_zdctget, q_zdctidx, q_zrng, q_zrng2, q_zenum, q_zzip, q_zirev, q_add, q_sub, q_mulR, q_mulL, q_fdiv, q_mod, q_neg, q_cI, q_cnI, q_cS, q_cnS, q_cB, q_cnB, q_clt, q_cle, q_cgt, q_cge, q_isN, q_isnN, q_ist, q_isnt, q_isl, q_isnl, q_isi, q_isni, q_iss, q_isns, q_isb, q_isnb, q_ixt0, q_ixl0, q_ixt1, q_ixl1, q_ixt2, q_ixl2, q_ixt3, q_ixl3, q_ixt4, q_ixl4, q_ixt5, q_ixl5, q_ixt6, q_ixl6, q_ixt7, q_ixl7, q_ixt8, q_ixl8, q_lent0, q_lenl0, q_lent1, q_lenl1, q_lent2, q_lenl2, q_lent3, q_lenl3, q_lent4, q_lenl4, q_lent5, q_lenl5, q_lent6, q_lenl6, q_lent7, q_lenl7, q_lent8, q_lenl8, q_lenTm, q_lenLm, q_bint, q_bintb, q_babs, q_blst, q_blstT, q_btup, q_btupT, q_bmin, q_bmax, q_isi_int_int, q_isi_int_bool, q_isi_int_str, q_isi_int_tuple, q_isi_int_list, q_isi_int_none, q_isi_bool_int, q_isi_bool_bool, q_isi_bool_str, q_isi_bool_tuple, q_isi_bool_list, q_isi_bool_none, q_isi_str_int, q_isi_str_bool, q_isi_str_str, q_isi_str_tuple, q_isi_str_list, q_isi_str_none, q_isi_tuple_int, q_isi_tuple_bool, q_isi_tuple_str, q_isi_tuple_tuple, q_isi_tuple_list, q_isi_tuple_none, q_isi_list_int, q_isi_list_bool, q_isi_list_str, q_isi_list_tuple, q_isi_list_list, q_isi_list_none, q_itL, q_itT, q_rng0, q_rng1, q_rng2, q_rng3, q_rng4, q_revL, q_revT, q_rvL, q_rvT, q_slT, q_slL, q_xasg, q_xret, q_xb1, q_xbL, q_xb2l, q_xb2r, q_xc2l, q_xc2r, q_xmkT, q_xmkL, q_xexpr, q_xunp, q_xite, q_xparl, q_xparr, q_xnot, q_xfor, q_xslc, q_srais, q_emeth, q_mthi, q_mthz, q_mthj, q_sel, q_seqnil, q_lpTn, q_lpTr, q_lpTe, q_lpTi, q_s_line_box, q_s_line_ring, q_s_line_field, q_s_line_row, q_s_line_group, q_s_box_line, q_s_box_ring, q_s_box_field, q_s_box_row, q_s_box_group, q_s_ring_line, q_s_ring_box, q_s_ring_field, q_s_ring_row, q_s_ring_group, q_s_field_line, q_s_field_box, q_s_field_ring, q_s_field_row, q_s_field_group, q_s_row_line, q_s_row_box, q_s_row_ring, q_s_row_field, q_s_row_group, q_s_group_line, q_s_group_box, q_s_group_ring, q_s_group_field, q_s_group_row, q_Pteta, q_Pleta, q_Mteta, q_cLL0, q_cTT0, q_cnLL0, q_cnTT0, List.getD_cons_zero, List.getD_cons_succ, List.set_cons_zero, List.set_cons_succ, List.map_cons, List.map_nil, List.cons_append, List.nil_append, List.append_assoc, List.length_cons, List.length_nil, List.length_map, List.length_append, List.replicate_succ, List.replicate_zero, ↓reduceIte, decide_eq_true_eq, Bool.not_eq_true', Bool.not_true, Bool.not_false, Bool.true_and, Bool.false_and, Bool.and_true, Bool.and_false, Bool.or_true, Bool.or_false, Bool.true_or, Bool.false_or, Bool.and_eq_true, Bool.or_eq_true, Bool.not_not, decide_eq_false_iff_not, decide_true, decide_false, Bool.false_eq_true, eq_self, not_true_eq_false, not_false_eq_true, true_and, and_true, false_and, and_false, or_true, true_or, or_false, false_or, Int.reduceAdd, Int.reduceMul, Int.reduceSub, Int.reduceNeg, Int.reduceLT, Int.reduceLE, Int.reduceEq, Int.reduceMod, Int.reduceDiv, Nat.reduceAdd, Nat.reduceSub, Int.reduceNe, $[$es:term],*])
def isIx : Stp → Bool
  | .nm _ => false
  | .ix _ => true
def named (s : Str) (q : Pa) : Bool := decide (q.1 = s)
def innerOf : Th → Stp → Option (Pl × Th)
  | .group ps, .nm s => (ps.find? (named s)).map (·.2)
  | .row n x y t, .ix i => if 0 ≤ i ∧ i < n then some (stepPl i x y, t) else none
  | _, _ => none
def foundFrom : Pl → Th → Path → Option (Pl × Th)
  | p, t, [] => some (p, t)
  | p, t, s :: r => match innerOf t s with
    | some (m, t') => foundFrom (together p m) t' r
    | none => none
def excO {α : Type} (c : String) (enc : α → PyData) : Option α → Res PyData
  | some a => .ok (enc a)
  | none => .exc c .none
abbrev encLT (r : Pl × Th) : PyData := .tuple [encL r.1, encT r.2]
structure ChgOk (G : Prog) : Prop extends PlcOk G where
  copy : Has G "copy_placing" d_copy_placing
  plain : G.consts.lookup (Str.ofString "PLAIN") = some (encL plain)
  isnum : Has G "is_number" d_is_number
  inner : Has G "inner_of" d_inner_of
  found : Has G "found_at" d_found_at
theorem trns_find {β : Type} {p : β → Bool} {f : β → PyData} : ∀ xs : List β, trns (fun (_ : Unit) q => if p q = true then Trn.rt (f q) else .nx ()) xs () = match xs.find? p with
    | some q => .rt (f q)
    | none => .nx ()
  | [] => rfl
  | x :: xs => by
    rw [trns, List.find?_cons]
    cases h : p x with
    | true => simp
    | false => simpa using trns_find xs
theorem find_mem {ps : List Pa} {s : Str} {q : Pa} (h : ps.find? (named s) = some q) : q ∈ ps ∧ q.1 = s := ⟨List.mem_of_find?_eq_some h, by have := List.find?_some h; simpa [named] using this⟩
/-- the tag of a thing, and what it is not -/
theorem tag_of (t : Th) : ∃ (tag : Str) (r : List PyData), encT t = .tuple (.str tag :: r) ∧ ((tag = "group") = ∃ ps, t = .group ps) ∧ ((tag = "row") = ∃ n x y u, t = .row n x y u) := by
  cases t with
  | row n x y u => exact ⟨"row", _, by rw [encT], by simp [q_s_row_group], by simp⟩
  | group ps => exact ⟨"group", _, by rw [encT], by simp, by simp [q_s_group_row]⟩
  | line x y => exact ⟨"line", _, by rw [encT], by simp [q_s_line_group], by simp [q_s_line_row]⟩
  | box x y => exact ⟨"box", _, by rw [encT], by simp [q_s_box_group], by simp [q_s_box_row]⟩
  | ring r => exact ⟨"ring", _, by rw [encT], by simp [q_s_ring_group], by simp [q_s_ring_row]⟩
  | field ps => exact ⟨"field", _, by rw [encT], by simp [q_s_field_group], by simp [q_s_field_row]⟩
theorem inner_ok {p m : Pl} {t t' : Th} {s : Stp} (h : innerOf t s = some (m, t')) (hw : wf t) (hp : PlW p) (hb : p.s * scl t < 1073741824) :
    PlT m ∧ wf t' ∧ PlW (together p m) ∧ (together p m).s * scl t' < 1073741824 ∧ dep t' < dep t ∧ cnt t' < cnt t ∧ 1 ≤ m.s := by
  cases t with
  | group ps =>
    cases s with
    | ix i => cases h
    | nm s =>
      simp only [innerOf, Option.map_eq_some_iff] at h
      obtain ⟨q, hq, e⟩ := h
      obtain ⟨hm, _⟩ := find_mem hq
      rw [wf_group] at hw
      obtain ⟨h1, h2, h3⟩ := hw q hm
      rw [scl_group] at hb
      obtain ⟨b1, b2⟩ := bud_in hp h1 h2 (scl_pos _) (scl_mem hm) hb
      rw [dep_group, cnt_group]
      have := dep_mem hm
      have := cnt_mem hm
      have e1 := congrArg Prod.fst e
      have e2 := congrArg Prod.snd e
      simp only at e1 e2
      rw [← e1, ← e2]
      exact ⟨h1, h3, b2, b1, by omega, by omega, h2⟩
  | row n x y u =>
    cases s with
    | nm s => cases h
    | ix i =>
      simp only [innerOf] at h
      split at h
      · rename_i hi
        cases h
        rw [scl_row] at hb
        obtain ⟨b1, b2⟩ := bud_step (k := i) (x := x) (y := y) hp (scl_pos _) hb
        rw [dep_row, cnt_row]
        have : 1 * cnt t' ≤ n.toNat * cnt t' := Nat.mul_le_mul_right _ (by omega)
        exact ⟨stepT _ _ _, hw.2.2, b2, b1, by omega, by omega, Int.le_refl 1⟩
      · cases h
  | _ => cases s <;> cases h
section
variable {G : Prog} {n : Nat}
theorem ev_copyH (g : Has G "copy_placing" d_copy_placing) (hn : 1 ≤ n) {m x y k : Int} {d : PyData} (hk : sm k) : callD G n "copy_placing" [.tuple [.str "row", .int m, .int x, .int y, d], .int k] = .ok (encL (stepPl k x y)) := by
  obtain ⟨_, _⟩ := hk
  refine k_go g (by omega) rfl ?_
  exists d_copy_placing
theorem ev_isnum (g : Has G "is_number" d_is_number) (hn : 1 ≤ n) {s : Stp} : callD G n "is_number" [encStp s] = .ok (.bool (isIx s)) := by
  cases s with
  | nm z =>
    rw [encStp]
    refine k_go g (by omega) rfl ?_
    exists d_is_number
    rfl
  | ix i =>
    rw [encStp]
    refine k_go g (by omega) rfl ?_
    exists d_is_number
    rfl
theorem ev_isnum_s (g : Has G "is_number" d_is_number) (hn : 1 ≤ n) {s : Str} : callD G n "is_number" [.str s] = .ok (.bool false) := ev_isnum g hn (s := .nm s)
theorem ev_isnum_i (g : Has G "is_number" d_is_number) (hn : 1 ≤ n) {i : Int} : callD G n "is_number" [.int i] = .ok (.bool true) := ev_isnum g hn (s := .ix i)
theorem ev_inner (g : ChgOk G) (hn : 2 ≤ n) {t : Th} {s : Stp} (hw : wf t) : callD G n "inner_of" [encT t, encStp s] = excO "NoPart" encLT (innerOf t s) := by
  have gn := g.isnum
  cases s with
  | nm s =>
    rw [encStp]
    cases t with
    | group ps =>
      rw [encT_group]
      refine k_go g.inner (by omega) rfl ?_
      exists d_inner_of, ev_isnum_s gn
      refine k_seq (lp_trn (fun _ : Unit => [.val (.tuple [.str "group", .tuple (ps.map encPa)]), .val (.str s), .un, .un, .un]) (fun _ q => if named s q = true then Trn.rt (encLT q.2) else .nx ()) (fun _ _ => True) (fun u q xs _ => ⟨fun _ _ => trivial, ?_⟩) ps () trivial) ?_
      · by_cases h : q.1 = s
        · rw [show named s q = true by simp [named, h]]
          exists h, Trn.res
        · rw [show named s q = false by simp [named, h]]
          exists h, Trn.res
      · rw [trns_find, innerOf]
        cases ps.find? (named s) with
        | some q => exists Trn.res, excO, Option.map_some
        | none => exists Trn.res, excO, Option.map_none
    | row n x y u =>
      rw [encT]
      refine k_go g.inner (by omega) rfl ?_
      exists d_inner_of, ev_isnum_s gn
      rfl
    | _ =>
      rw [encT]
      refine k_go g.inner (by omega) rfl ?_
      exists d_inner_of, ev_isnum_s gn
      rfl
  | ix i =>
    rw [encStp]
    cases t with
    | group ps =>
      rw [encT_group]
      refine k_go g.inner (by omega) rfl ?_
      exists d_inner_of, ev_isnum_i gn
      rfl
    | row n x y u =>
      obtain ⟨h0, h6, _⟩ := hw
      rw [encT, innerOf]
      by_cases h1 : 0 ≤ i
      · by_cases h2 : i < n
        · have hi : sm i := ⟨by omega, by omega⟩
          refine k_go g.inner (by omega) rfl ?_
          exists d_inner_of, ev_isnum_i gn, h1, h2, ev_copyH g.copy _ hi, excO
        · refine k_go g.inner (by omega) rfl ?_
          exists d_inner_of, ev_isnum_i gn, h1, h2, excO
      · refine k_go g.inner (by omega) rfl ?_
        exists d_inner_of, ev_isnum_i gn, h1, excO
    | _ =>
      rw [encT]
      refine k_go g.inner (by omega) rfl ?_
      exists d_inner_of, ev_isnum_i gn
      rfl
/-- the steps of found_at -/
def fstep (r : Pl × Th) (s : Stp) : Trn (Pl × Th) := match innerOf r.2 s with
  | some (m, t') => .nx (together r.1 m, t')
  | none => .ex "NoPart" .none
theorem trns_found : ∀ (path : Path) (p : Pl) (t : Th), trns fstep path (p, t) = match foundFrom p t path with
    | some r => .nx r
    | none => .ex "NoPart" .none
  | [], p, t => rfl
  | s :: r, p, t => by
    rw [trns, foundFrom, fstep]
    cases h : innerOf t s with
    | none => simp only [h]
    | some z => obtain ⟨m, t'⟩ := z; simp only [h]; exact trns_found r _ _
theorem ev_found (g : ChgOk G) (hn : 3 ≤ n) {t : Th} {path : Path} (hw : wf t) (hs : scl t < 1073741824) : callD G n "found_at" [encT t, .tuple (path.map encStp)] = excO "NoPart" encLT (foundFrom plain t path) := by
  refine k_go g.found (by omega) rfl ?_
  exists d_found_at, g.plain
  refine k_seq (lp_trn (fun r : Pl × Th => [.val (encT t), .val (.tuple (path.map encStp)), .val (encL r.1), .val (encT r.2), .un, .un]) fstep (fun r _ => PlW r.1 ∧ wf r.2 ∧ r.1.s * scl r.2 < 1073741824) (fun r s xs hI => ?_) path (plain, t) ⟨plain_w, hw, by show (1 : Int) * scl t < _; omega⟩) ?_
  · obtain ⟨h1, h2, h3⟩ := hI
    obtain ⟨p, u⟩ := r
    simp only at h1 h2 h3
    have e := ev_inner g (n := n - 1) (by omega) (t := u) (s := s) h2
    unfold fstep
    cases z : innerOf u s with
    | none =>
      rw [z] at e
      refine ⟨fun s' q => (by simp only [z] at q; cases q), ?_⟩
      exists e, excO, Trn.res, z
    | some w =>
      obtain ⟨m, t'⟩ := w
      rw [z] at e
      obtain ⟨i1, i2, i3, i4, _⟩ := inner_ok z h2 h1 h3
      refine ⟨fun s' q => (by simp only [z] at q; cases q; exact ⟨i3, i2, i4⟩), ?_⟩
      have et := ev_together (n := n - 1) g.toPlcOk (by omega) (t' := m.t) (f' := m.f) (s' := m.s) (x' := m.x) (y' := m.y) h1
      simp only [q_Pleta] at et
      exists e, excO, Trn.res, z, et
  · rw [trns_found]
    cases foundFrom plain t path with
    | some r => exists Trn.res, excO
    | none => exists Trn.res, excO
end
end DP

/-! ## Chg2 -/
set_option Elab.async false
set_option linter.all false
set_option maxRecDepth 100000
set_option maxHeartbeats 4000000
set_option autoImplicit false
/-! Parts in the place of others. -/
namespace DP
open PySem
local macro_rules | `(tactic| exists $es,*) => `(tactic| simp -implicitDefEqProofs (disch := first | assumption | omega | (simp only [List.length_map, List.length_append, List.length_cons, List.length_nil]; omega) | decide | (simp [nd, ndAll, PyData.depth, PyData.depthAll]; done)) only [q_b1, q_bL, q_b2, q_mkT, q_mkL, q_cons2, q_notK, q_andK, q_andKf, q_andKt, q_orK, q_orKt, q_orKf, q_chainK, q_slcK, q_tK, q_tKf, q_cmplK, q_cl0, q_cl1, q_cl1o, q_selt, q_self, q_seqn, q_seqr, q_seqe, q_seqi, q_asgK, q_asgOK, q_nxE, q_unpK, q_unpLK, q_parK, q_exprK, q_appK, q_extK, q_retK, q_retOK, q_iteK, q_forK, q_lp0, q_lp1, q_lpS, q_lpKn, q_lpKr, q_lpKe, q_lpKi, q_frzo, q_frzv, q_slotV, q_slotLv, q_slotLo, q_optV, q_outr, q_outn, q_oute, q_outi, q_w0, q_w1, q_sa0, q_sa1, q_stn, q_stt, q_tgn, q_tgt, q_eint, q_ebl, q_enon, q_estr, q_evar, q_eglob, q_etup, q_elst, q_ebin, q_eneg, q_enot, q_eand, q_eor, q_and1, q_and2, q_or1, q_or2, q_ecmp, q_echain, q_ecall, q_etold, q_told1, q_told2, q_told3, q_told4, q_low59, q_otold, q_eblt, q_eisi, q_eidx, q_eslc, q_erev, q_ecomp, q_es0, q_es1, q_bs0, q_bs1, q_t0, q_t1, q_iplain, q_irng, q_irng2, q_fplain, q_frng, q_frng2, q_ienum, q_izip, q_irev, q_fenum, q_fzip, q_frev, q_ovar, q_oint, q_obl, q_onon, q_ostr, q_oglob, q_otup, q_olst, q_obin, q_oneg, q_onot, q_oand, q_oor, q_ocmp, q_ochain, q_ochain3, q_ocall, q_oblt, q_oisi, q_oidx, q_oslc, q_orev, q_ometh, q_ocomp, q_odctget, q_odctidx, q_pint, q_pnon, q_pglob, q_pbin, q_pneg, q_pcall, q_pblt, q_pidx, q_pvar, q_ss0, q_ss1, q_sasg, q_sasgOlst, q_sasgOcomp, q_sasgObin, q_sasgOslc, q_sasgOrev, q_sasgOlist, q_sasgOsorted, q_sunp, q_sunpL, q_spar, q_sexpr, q_sapp, q_sext, q_sret, q_sretO, q_site, q_sfor, q_spass, q_zvar, q_zint, q_zbl, q_znon, q_zstr, q_zglob, q_ztup, q_zlst, q_zbin, q_zneg, q_znot, q_zand, q_zor, q_zcmp, q_zchain, q_zchain3, q_zcall, q_zblt, q_zisi, q_zidx, q_zslc, q_zrev, q_zmeth, q_zcomp, q_zdctget, q_zdctidx, q_zrng, q_zrng2, q_zenum, q_zzip, q_zirev, q_add, q_sub, q_mulR, q_mulL, q_fdiv, q_mod, q_neg, q_cI, q_cnI, q_cS, q_cnS, q_cB, q_cnB, q_clt, q_cle, q_cgt, q_cge, q_isN, q_isnN, q_ist, q_isnt, q_isl, q_isnl, q_isi, q_isni, q_iss, q_isns, q_isb, q_isnb, q_ixt0, q_ixl0, q_ixt1, q_ixl1, q_ixt2, q_ixl2, q_ixt3, q_ixl3, q_ixt4, q_ixl4, q_ixt5, q_ixl5, q_ixt6, q_ixl6, q_ixt7, q_ixl7, q_ixt8, q_ixl8, q_lent0, q_lenl0, q_lent1, q_lenl1, q_lent2, q_lenl2, q_lent3, q_lenl3, q_lent4, q_lenl4, q_lent5, q_lenl5, q_lent6, q_lenl6, q_lent7, q_lenl7, q_lent8, q_lenl8, q_lenTm, q_lenLm, q_bint, q_bintb, q_babs, q_blst, q_blstT, q_btup, q_btupT, q_bmin, q_bmax, q_isi_int_int, q_isi_int_bool, q_isi_int_str, q_isi_int_tuple, q_isi_int_list, q_isi_int_none, q_isi_bool_int, q_isi_bool_bool, q_isi_bool_str, q_isi_bool_tuple, q_isi_bool_list, q_isi_bool_none, q_isi_str_int, q_isi_str_bool, q_isi_str_str, q_isi_str_tuple, q_isi_str_list, q_isi_str_none, q_isi_tuple_int, q_isi_tuple_bool, q_isi_tuple_str, q_isi_tuple_tuple, q_isi_tuple_list, q_isi_tuple_none, q_isi_list_int, q_isi_list_bool, q_isi_list_str, q_isi_list_tuple, q_isi_list_list, q_isi_list_none, q_itL, q_itT, q_rng0, q_rng1, q_rng2, q_rng3, q_rng4, q_revL, q_revT, q_rvL, q_rvT, q_slT, q_slL, q_xasg, q_xret, q_xb1, q_xbL, q_xb2l, q_xb2r, q_xc2l, q_xc2r, q_xmkT, q_xmkL, q_xexpr, q_xunp, q_xite, q_xparl, q_xparr, q_xnot, q_xfor, q_xslc, q_srais, q_emeth, q_mthi, q_mthz, q_mthj, q_sel, q_seqnil, q_lpTn, q_lpTr, q_lpTe, q_lpTi, q_s_line_box, q_s_line_ring, q_s_line_field, q_s_line_row, q_s_line_group, q_s_box_line, q_s_box_ring, q_s_box_field, q_s_box_row, q_s_box_group, q_s_ring_line, q_s_ring_box, q_s_ring_field, q_s_ring_row, q_s_ring_group, q_s_field_line, q_s_field_box, q_s_field_ring, q_s_field_row, q_s_field_group, q_s_row_line, q_s_row_box, q_s_row_ring, q_s_row_field, q_s_row_group, q_s_group_line, q_s_group_box, q_s_group_ring, q_s_group_field, q_s_group_row, q_Pteta, q_Pleta, q_Mteta, q_cLL0, q_cTT0, q_cnLL0, q_cnTT0, List.getD_cons_zero, List.getD_cons_succ, List.set_cons_zero, List.set_cons_succ, List.map_cons, List.map_nil, List.cons_append, List.nil_append, List.append_assoc, List.length_cons, List.length_nil, List.length_map, List.length_append, List.replicate_succ, List.replicate_zero, ↓reduceIte, decide_eq_true_eq, Bool.not_eq_true', Bool.not_true, Bool.not_false, Bool.true_and, Bool.false_and, Bool.and_true, Bool.and_false, Bool.or_true, Bool.or_false, Bool.true_or, Bool.false_or, Bool.and_eq_true, Bool.or_eq_true, Bool.not_not, decide_eq_false_iff_not, decide_true, decide_false, Bool.false_eq_true, eq_self, not_true_eq_false, not_false_eq_true, true_and, and_true, false_and, and_false, or_true, true_or, or_false, false_or, Int.reduceAdd, Int.reduceMul, Int.reduceSub, Int.reduceNeg, Int.reduceLT, Int.reduceLE, Int.reduceEq, Int.reduceMod, Int.reduceDiv, Nat.reduceAdd, Nat.reduceSub, Int.reduceNe, $[$es:term],*])
def withP : Path → Th → List Pa → Th
  | [], _, parts => .group parts
  | .nm s :: r, .group ps, parts => .group (ps.map fun q => if named s q = true then (q.1, q.2.1, withP r q.2.2 parts) else q)
  | _, t, _ => t
/-- a path of names that leads to groups -/
def Can : Path → Th → Prop
  | [], _ => True
  | .nm s :: r, .group ps => (∀ q ∈ ps, named s q = true → Can r q.2.2) ∧ ps.length ≤ 100000
  | _, _ => False
theorem cut_1 {x : PyData} {xs : List PyData} : cutL (x :: xs) (some 1) none = xs := by
  simp [cutL, HT.sIx]
theorem len_c {x : PyData} {xs : List PyData} : bltD .len [.tuple (x :: xs)] = .ok (.int ((xs.length : Int) + 1)) := by simp [bltD, lenD]
theorem cut_last {α : Type} {f : α → PyData} {xs : List α} {z : α} : cutL ((xs ++ [z]).map f) none (some (-1)) = xs.map f := by
  have h : ¬ ((-1 : Int) + ((xs.length + 1 : Nat) : Int)).toNat = xs.length → False := fun h => h (by omega)
  have e : ((-1 : Int) + ((xs.length : Int) + 1)).toNat = xs.length := by omega
  simp [cutL, HT.sIx, e]
theorem idx_last {α : Type} {f : α → PyData} {xs : List α} {z : α} : idxD (.tuple ((xs ++ [z]).map f)) (.int (-1)) = .ok (f z) := by
  have e : L2.atI ((xs ++ [z]).map f) (-1) = some (f z) := by
    have h1 : ((-1 : Int) + ((xs.length : Int) + 1)).toNat = xs.length := by omega
    simp [L2.atI, L2.ixN, h1]
    rw [if_pos (by omega)]
    simp
  simp only [idxD, e]
theorem len_last {α : Type} {f : α → PyData} {xs : List α} {z : α} : bltD .len [.tuple ((xs ++ [z]).map f)] = .ok (.int ((xs.length : Int) + 1)) := by simp [bltD, lenD]
theorem any_B {bs : List Bool} : bltD .any [.list (bs.map .bool)] = .ok (.bool (bs.any id)) := by
  have : ∀ bs : List Bool, boolsOf (bs.map .bool) = some bs := by
    intro bs
    induction bs with
    | nil => rfl
    | cons b bs ih => simp [boolsOf, ih]
  simp [bltD, anyD, this]
structure ChhOk (G : Prog) : Prop extends ChgOk G where
  thing : Has G "thing_at" d_thing_at
  must : Has G "must_be_names" d_must_be_names
  with_ : Has G "with_parts" d_with_parts
  part : Has G "part_at" d_part_at
  withp : Has G "with_part" d_with_part
section
variable {G : Prog} {n : Nat}
theorem ev_thing_at (g : ChgOk G) (g' : Has G "thing_at" d_thing_at) (hn : 4 ≤ n) {t : Th} {path : Path} (hw : wf t) (hs : scl t < 1073741824) : callD G n "thing_at" [encT t, .tuple (path.map encStp)] = excO "NoPart" (fun r => encT r.2) (foundFrom plain t path) := by
  have e := ev_found g (n := n - 1) (by omega) (path := path) hw hs
  cases z : foundFrom plain t path with
  | none =>
    rw [z] at e
    refine k_go g' (by omega) rfl ?_
    exists d_thing_at, e, excO
  | some r =>
    rw [z] at e
    refine k_go g' (by omega) rfl ?_
    exists d_thing_at, e, excO
theorem ev_placing_at (g : ChgOk G) (g' : Has G "placing_at" d_placing_at) (hn : 4 ≤ n) {t : Th} {path : Path} (hw : wf t) (hs : scl t < 1073741824) : callD G n "placing_at" [encT t, .tuple (path.map encStp)] = excO "NoPart" (fun r => encL r.1) (foundFrom plain t path) := by
  have e := ev_found g (n := n - 1) (by omega) (path := path) hw hs
  cases z : foundFrom plain t path with
  | none =>
    rw [z] at e
    refine k_go g' (by omega) rfl ?_
    exists d_placing_at, e, excO
  | some r =>
    rw [z] at e
    refine k_go g' (by omega) rfl ?_
    exists d_placing_at, e, excO
/-- by names alone, or refused -/
def mustN (t : Th) (path : Path) : Except String Unit := match foundFrom plain t path with
  | none => .error "NoPart"
  | some _ => if path.any isIx = true then .error "NoFit" else .ok ()
def excE {α : Type} (enc : α → PyData) : Except String α → Res PyData
  | .ok a => .ok (enc a)
  | .error c => .exc c .none
theorem ev_must (g : ChhOk G) (hn : 4 ≤ n) {t : Th} {path : Path} (hw : wf t) (hs : scl t < 1073741824) : callD G n "must_be_names" [encT t, .tuple (path.map encStp)] = excE (fun _ => .none) (mustN t path) := by
  have e := ev_found g.toChgOk (n := n - 1) (by omega) (path := path) hw hs
  unfold mustN
  cases z : foundFrom plain t path with
  | none =>
    rw [z] at e
    refine k_go g.must (by omega) rfl ?_
    exists d_must_be_names, e, excO
    rfl
  | some r =>
    rw [z] at e
    refine k_go g.must (by omega) rfl ?_
    exists d_must_be_names, e, excO
    rw [cmpl_map (fun s => .bool (isIx s)) path fun s _ rs => by exists ev_isnum g.isnum]
    rw [show path.map (fun s => PyData.bool (isIx s)) = (path.map isIx).map .bool by rw [List.map_map]; rfl]
    have ha : (path.map isIx).any id = path.any isIx := by rw [List.any_map]; rfl
    cases h : path.any isIx with
    | true => exists any_B, ha, h, excE
    | false => exists any_B, ha, h, excE
theorem ev_with (g : Has G "with_parts" d_with_parts) : ∀ (path : Path) {n : Nat} (t : Th) (parts : List Pa), path.length + 1 ≤ n → Can path t → callD G n "with_parts" [encT t, .tuple (path.map encStp), .tuple (parts.map encPa)] = .ok (encT (withP path t parts))
  | [], n, t, parts, hn, _ => by
    rw [withP, encT_group]
    refine k_go g (by omega) rfl ?_
    exists d_with_parts
  | .ix i :: r, n, t, parts, hn, hc => by cases t <;> exact hc.elim
  | .nm s :: r, n, t, parts, hn, hc => by
    cases t with
    | group ps =>
      obtain ⟨hc, hl⟩ := hc
      have hn' : r.length + 1 ≤ n - 1 := by simp at hn; omega
      have h0 : ¬ ((r.map encStp).length : Int) + 1 = 0 := by omega
      rw [withP, encT_group, encT_group, List.map_cons, encStp]
      refine k_go g (by omega) rfl ?_
      exists d_with_parts, len_c, h0
      refine k_seq (lp_app (fun acc : List Pa => [.val (.tuple [.str "group", .tuple (ps.map encPa)]), .val (.tuple (.str s :: r.map encStp)), .val (.tuple (parts.map encPa)), .own (.list (acc.map encPa)), .un, .un, .un]) (fun q => [if named s q = true then (q.1, q.2.1, withP r q.2.2 parts) else q]) 1000000 ps (by rw [flatMap_one, List.length_map]; omega) fun acc q hq hB => ?_) ?_
      · simp only [List.map_append]
        simp only [List.length_cons, List.length_nil] at hB
        by_cases h : q.1 = s
        · have hq' : named s q = true := by simp [named, h]
          have e := ev_with g r (n := n - 1) q.2.2 parts hn' (hc q hq hq')
          rw [if_pos hq']
          exists h, cut_1, e
        · have hq' : ¬ named s q = true := by simp [named, h]
          rw [if_neg hq']
          exists h
      · rw [flatMap_one]
        exists True.intro
    | _ => exact hc.elim
end
/-! ### a part's place -/
theorem found_app : ∀ (a b : Path) (p : Pl) (t : Th), foundFrom p t (a ++ b) = (foundFrom p t a).bind fun r => foundFrom r.1 r.2 b
  | [], b, p, t => rfl
  | s :: a, b, p, t => by
    rw [List.cons_append, foundFrom, foundFrom]
    cases innerOf t s with
    | none => rfl
    | some z => obtain ⟨m, t'⟩ := z; exact found_app a b _ _
theorem find_split {s : Str} : ∀ {ps : List Pa} {q : Pa}, ps.find? (named s) = some q → ∃ a b, ps = a ++ q :: b ∧ q.1 = s ∧ ∀ z ∈ a, z.1 ≠ s
  | [], q, h => by cases h
  | x :: xs, q, h => by
    rw [List.find?_cons] at h
    cases hx : named s x with
    | true =>
      rw [hx] at h
      cases h
      exact ⟨[], xs, rfl, by simpa [named] using hx, by simp⟩
    | false =>
      rw [hx] at h
      obtain ⟨a, b, e, h1, h2⟩ := find_split h
      refine ⟨x :: a, b, by rw [e]; rfl, h1, fun z hz => ?_⟩
      rcases List.mem_cons.mp hz with hz | hz
      · subst hz; simpa [named] using hx
      · exact h2 z hz
/-- where a path of names leads: the group around, what stands ahead of the part and behind it -/
theorem found_last {pre : Path} {s : Str} {t : Th} {r : Pl × Th} (h : foundFrom plain t (pre ++ [.nm s]) = some r) : ∃ p0 a q b, foundFrom plain t pre = some (p0, .group (a ++ q :: b)) ∧ q.1 = s ∧ (∀ z ∈ a, z.1 ≠ s) ∧ r = (together p0 q.2.1, q.2.2) := by
  rw [found_app] at h
  cases z : foundFrom plain t pre with
  | none => rw [z] at h; cases h
  | some w =>
    obtain ⟨p0, u⟩ := w
    rw [z] at h
    simp only [Option.bind_some, foundFrom] at h
    cases u with
    | group ps =>
      simp only [innerOf] at h
      cases hf : ps.find? (named s) with
      | none => rw [hf] at h; cases h
      | some q =>
        rw [hf] at h
        obtain ⟨a, b, e, h1, h2⟩ := find_split hf
        subst e
        simp only [Option.map_some, Option.some.injEq] at h
        exact ⟨p0, a, q, b, rfl, h1, h2, h.symm⟩
    | _ => cases h
theorem last_of {path : Path} (h : path ≠ []) (hi : path.any isIx = false) : ∃ pre s, path = pre ++ [.nm s] ∧ pre.any isIx = false := by
  obtain ⟨pre, z, rfl⟩ : ∃ pre z, path = pre ++ [z] := ⟨path.dropLast, path.getLast h, (List.dropLast_concat_getLast h).symm⟩
  rw [List.any_append] at hi
  simp only [List.any_cons, List.any_nil, Bool.or_false, Bool.or_eq_false_iff] at hi
  cases z with
  | nm s => exact ⟨pre, s, rfl, hi.1⟩
  | ix i => exact absurd hi.2 (by simp [isIx])
mutual
/-- names unlike, everywhere; not too many parts -/
def unl : Th → Prop
  | .row _ _ _ t => unl t
  | .group ps => ((ps.map (·.1)).Nodup ∧ ps.length ≤ 90000) ∧ unlL ps
  | _ => True
def unlL : List (Str × Pl × Th) → Prop
  | [] => True
  | (_, _, t) :: r => unl t ∧ unlL r
end
theorem unlL_iff : ∀ ps : List Pa, unlL ps ↔ ∀ q ∈ ps, unl q.2.2
  | [] => by simp [unlL]
  | (nm, p, t) :: r => by rw [unlL, unlL_iff r]; simp
theorem unl_group {ps : List Pa} : unl (.group ps) ↔ ((ps.map (·.1)).Nodup ∧ ps.length ≤ 90000) ∧ ∀ q ∈ ps, unl q.2.2 := by rw [unl, unlL_iff]
theorem nodup_names {ps : List Pa} (h : (ps.map (·.1)).Nodup) {x y : Pa} (hx : x ∈ ps) (hy : y ∈ ps) (e : x.1 = y.1) : x = y := by
  induction ps with
  | nil => cases hx
  | cons z zs ih =>
    rw [List.map_cons, List.nodup_cons] at h
    rcases List.mem_cons.mp hx with a | a <;> rcases List.mem_cons.mp hy with b | b
    · rw [a, b]
    · exact absurd (List.mem_map.mpr ⟨y, b, by rw [← e, a]⟩) h.1
    · exact absurd (List.mem_map.mpr ⟨x, a, by rw [e, b]⟩) h.1
    · exact ih h.2 a b
/-- what leads somewhere by names can be changed -/
theorem can_of : ∀ {path : Path} {p : Pl} {t : Th} {r : Pl × Th}, foundFrom p t path = some r → path.any isIx = false → unl t → Can path t
  | [], _, _, _, _, _, _ => trivial
  | .ix i :: _, _, _, _, _, hi, _ => by simp [isIx] at hi
  | .nm s :: r, p, t, w, h, hi, hu => by
    rw [foundFrom] at h
    cases t with
    | group ps =>
      rw [unl_group] at hu
      simp only [innerOf] at h
      cases hf : ps.find? (named s) with
      | none => rw [hf] at h; cases h
      | some q =>
        rw [hf] at h
        simp only [Option.map_some] at h
        obtain ⟨hm, hs⟩ := find_mem hf
        refine ⟨fun z hz hzs => ?_, by have := hu.1.2; omega⟩
        have e : z = q := nodup_names hu.1.1 hz hm ((show z.1 = s by simpa [named] using hzs).trans hs.symm)
        subst e
        exact can_of h (by simpa [isIx] using hi) (hu.2 z hz)
    | _ => cases h
theorem drw_unl (t : Th) : drw t → unl t := by
  induction t using Th.ind with
  | row n x y t ih => rw [drw, unl]; exact fun h => ih h.2
  | group ps ih =>
    rw [drw, drwL_iff, unl_group]
    exact fun h => ⟨⟨h.1.1, by have := h.1.2; omega⟩, fun q hq => ih q hq (h.2 q hq).2.2⟩
  | _ => intro _; trivial
theorem found_unl : ∀ {path : Path} {p : Pl} {t : Th} {r : Pl × Th}, foundFrom p t path = some r → unl t → unl r.2
  | [], _, _, _, h, hu => by cases h; exact hu
  | s :: path, p, t, w, h, hu => by
    rw [foundFrom] at h
    cases z : innerOf t s with
    | none => rw [z] at h; cases h
    | some v =>
      obtain ⟨m, t'⟩ := v
      rw [z] at h
      refine found_unl h ?_
      cases t with
      | group ps =>
        cases s with
        | ix i => cases z
        | nm s =>
          simp only [innerOf, Option.map_eq_some_iff] at z
          obtain ⟨q, hq, e⟩ := z
          rw [unl_group] at hu
          have := hu.2 q (find_mem hq).1
          rw [e] at this; exact this
      | row n x y u =>
        cases s with
        | nm s => cases z
        | ix i =>
          simp only [innerOf] at z
          split at z
          · cases z; rw [unl] at hu; exact hu
          · cases z
      | _ => cases s <;> cases z
theorem found_fit : ∀ {path : Path} {p : Pl} {t : Th} {r : Pl × Th}, foundFrom p t path = some r → wf t → PlW p → p.s * scl t < 1073741824 → wf r.2 ∧ PlW r.1 ∧ r.1.s * scl r.2 < 1073741824
  | [], _, _, _, h, hw, hp, hb => by cases h; exact ⟨hw, hp, hb⟩
  | s :: path, p, t, w, h, hw, hp, hb => by
    rw [foundFrom] at h
    cases z : innerOf t s with
    | none => rw [z] at h; cases h
    | some v =>
      obtain ⟨m, t'⟩ := v
      rw [z] at h
      obtain ⟨i1, i2, i3, i4, _⟩ := inner_ok z hw hp hb
      exact found_fit h i2 i3 i4
end DP

/-! ## Chg3 -/
set_option Elab.async false
set_option linter.all false
set_option maxRecDepth 100000
set_option maxHeartbeats 4000000
set_option autoImplicit false
/-! Parts moved, turned, mirrored, dropped, raised. -/
namespace DP
open PySem
local macro_rules | `(tactic| exists $es,*) => `(tactic| simp -implicitDefEqProofs (disch := first | assumption | omega | (simp only [List.length_map, List.length_append, List.length_cons, List.length_nil]; omega) | decide | (simp [nd, ndAll, PyData.depth, PyData.depthAll]; done)) only [q_b1, q_bL, q_b2, q_mkT, q_mkL, q_cons2, q_notK, q_andK, q_andKf, q_andKt, q_orK, q_orKt, q_orKf, q_chainK, q_slcK, q_tK, q_tKf, q_cmplK, q_cl0, q_cl1, q_cl1o, q_selt, q_self, q_seqn, q_seqr, q_seqe, q_seqi, q_asgK, q_asgOK, q_nxE, q_unpK, q_unpLK, q_parK, q_exprK, q_appK, q_extK, q_retK, q_retOK, q_iteK, q_forK, q_lp0, q_lp1, q_lpS, q_lpKn, q_lpKr, q_lpKe, q_lpKi, q_frzo, q_frzv, q_slotV, q_slotLv, q_slotLo, q_optV, q_outr, q_outn, q_oute, q_outi, q_w0, q_w1, q_sa0, q_sa1, q_stn, q_stt, q_tgn, q_tgt, q_eint, q_ebl, q_enon, q_estr, q_evar, q_eglob, q_etup, q_elst, q_ebin, q_eneg, q_enot, q_eand, q_eor, q_and1, q_and2, q_or1, q_or2, q_ecmp, q_echain, q_ecall, q_etold, q_told1, q_told2, q_told3, q_told4, q_low59, q_otold, q_eblt, q_eisi, q_eidx, q_eslc, q_erev, q_ecomp, q_es0, q_es1, q_bs0, q_bs1, q_t0, q_t1, q_iplain, q_irng, q_irng2, q_fplain, q_frng, q_frng2, q_ienum, q_izip, q_irev, q_fenum, q_fzip, q_frev, q_ovar, q_oint, q_obl, q_onon, q_ostr, q_oglob, q_otup, q_olst, q_obin, q_oneg, q_onot, q_oand, q_oor, q_ocmp, q_ochain, q_ochain3, q_ocall, q_oblt, q_oisi, q_oidx, q_oslc, q_orev, q_ometh, q_ocomp, q_odctget, q_odctidx, q_pint, q_pnon, q_pglob, q_pbin, q_pneg, q_pcall, q_pblt, q_pidx, q_pvar, q_ss0, q_ss1, q_sasg, q_sasgOlst, q_sasgOcomp, q_sasgObin, q_sasgOslc, q_sasgOrev, q_sasgOlist, q_sasgOsorted, q_sunp, q_sunpL, q_spar, q_sexpr, q_sapp, q_sext, q_sret, q_sretO, q_site, q_sfor, q_spass, q_zvar, q_zint, q_zbl, q_znon, q_zstr, q_zglob, q_ztup, q_zlst, q_zbin, q_zneg, q_znot, q_zand, q_zor, q_zcmp, q_zchain, q_zchain3, q_zcall, q_zblt, q_zisi, q_zidx, q_zslc, q_zrev, q_zmeth, q_zcomp, q_zdctget, q_zdctidx, q_zrng, q_zrng2, q_zenum, q_zzip, q_zirev, q_add, q_sub, q_mulR, q_mulL, q_fdiv, q_mod, q_neg, q_cI, q_cnI, q_cS, q_cnS, q_cB, q_cnB, q_clt, q_cle, q_cgt, q_cge, q_isN, q_isnN, q_ist, q_isnt, q_isl, q_isnl, q_isi, q_isni, q_iss, q_isns, q_isb, q_isnb, q_ixt0, q_ixl0, q_ixt1, q_ixl1, q_ixt2, q_ixl2, q_ixt3, q_ixl3, q_ixt4, q_ixl4, q_ixt5, q_ixl5, q_ixt6, q_ixl6, q_ixt7, q_ixl7, q_ixt8, q_ixl8, q_lent0, q_lenl0, q_lent1, q_lenl1, q_lent2, q_lenl2, q_lent3, q_lenl3, q_lent4, q_lenl4, q_lent5, q_lenl5, q_lent6, q_lenl6, q_lent7, q_lenl7, q_lent8, q_lenl8, q_lenTm, q_lenLm, q_bint, q_bintb, q_babs, q_blst, q_blstT, q_btup, q_btupT, q_bmin, q_bmax, q_isi_int_int, q_isi_int_bool, q_isi_int_str, q_isi_int_tuple, q_isi_int_list, q_isi_int_none, q_isi_bool_int, q_isi_bool_bool, q_isi_bool_str, q_isi_bool_tuple, q_isi_bool_list, q_isi_bool_none, q_isi_str_int, q_isi_str_bool, q_isi_str_str, q_isi_str_tuple, q_isi_str_list, q_isi_str_none, q_isi_tuple_int, q_isi_tuple_bool, q_isi_tuple_str, q_isi_tuple_tuple, q_isi_tuple_list, q_isi_tuple_none, q_isi_list_int, q_isi_list_bool, q_isi_list_str, q_isi_list_tuple, q_isi_list_list, q_isi_list_none, q_itL, q_itT, q_rng0, q_rng1, q_rng2, q_rng3, q_rng4, q_revL, q_revT, q_rvL, q_rvT, q_slT, q_slL, q_xasg, q_xret, q_xb1, q_xbL, q_xb2l, q_xb2r, q_xc2l, q_xc2r, q_xmkT, q_xmkL, q_xexpr, q_xunp, q_xite, q_xparl, q_xparr, q_xnot, q_xfor, q_xslc, q_srais, q_emeth, q_mthi, q_mthz, q_mthj, q_sel, q_seqnil, q_lpTn, q_lpTr, q_lpTe, q_lpTi, q_s_line_box, q_s_line_ring, q_s_line_field, q_s_line_row, q_s_line_group, q_s_box_line, q_s_box_ring, q_s_box_field, q_s_box_row, q_s_box_group, q_s_ring_line, q_s_ring_box, q_s_ring_field, q_s_ring_row, q_s_ring_group, q_s_field_line, q_s_field_box, q_s_field_ring, q_s_field_row, q_s_field_group, q_s_row_line, q_s_row_box, q_s_row_ring, q_s_row_field, q_s_row_group, q_s_group_line, q_s_group_box, q_s_group_ring, q_s_group_field, q_s_group_row, q_Pteta, q_Pleta, q_Mteta, q_cLL0, q_cTT0, q_cnLL0, q_cnTT0, List.getD_cons_zero, List.getD_cons_succ, List.set_cons_zero, List.set_cons_succ, List.map_cons, List.map_nil, List.cons_append, List.nil_append, List.append_assoc, List.length_cons, List.length_nil, List.length_map, List.length_append, List.replicate_succ, List.replicate_zero, ↓reduceIte, decide_eq_true_eq, Bool.not_eq_true', Bool.not_true, Bool.not_false, Bool.true_and, Bool.false_and, Bool.and_true, Bool.and_false, Bool.or_true, Bool.or_false, Bool.true_or, Bool.false_or, Bool.and_eq_true, Bool.or_eq_true, Bool.not_not, decide_eq_false_iff_not, decide_true, decide_false, Bool.false_eq_true, eq_self, not_true_eq_false, not_false_eq_true, true_and, and_true, false_and, and_false, or_true, true_or, or_false, false_or, Int.reduceAdd, Int.reduceMul, Int.reduceSub, Int.reduceNeg, Int.reduceLT, Int.reduceLE, Int.reduceEq, Int.reduceMod, Int.reduceDiv, Nat.reduceAdd, Nat.reduceSub, Int.reduceNe, $[$es:term],*])
/-- what stands ahead of the first of a name, that one, what stands behind it -/
def splitN (s : Str) : List Pa → Option (List Pa × Pa × List Pa)
  | [] => none
  | q :: r => if named s q = true then some ([], q, r) else (splitN s r).map fun z => (q :: z.1, z.2.1, z.2.2)
theorem splitN_of {s : Str} {q : Pa} {b : List Pa} (hq : q.1 = s) : ∀ {a : List Pa}, (∀ z ∈ a, z.1 ≠ s) → splitN s (a ++ q :: b) = some (a, q, b)
  | [], _ => by simp [splitN, named, hq]
  | x :: a, h => by
    have hx : ¬ named s x = true := by simpa [named] using h x List.mem_cons_self
    rw [List.cons_append, splitN, if_neg hx, splitN_of hq fun z hz => h z (List.mem_cons_of_mem _ hz)]; rfl
/-- the placing of the group around, and its parts, cut at the part; or why not -/
def partAt (t : Th) (path : Path) : Except String (Pl × List Pa × Pa × List Pa) := match mustN t path with
  | .error c => .error c
  | .ok _ => match path.getLast? with
    | some (.nm s) => (match foundFrom plain t path.dropLast with
      | some (p0, .group ps) => (match splitN s ps with
        | some z => .ok (p0, z)
        | none => .error "NoPart")
      | _ => .error "NoPart")
    | _ => .error "NoFit"
theorem cut_pre {α : Type} {f : α → PyData} {a r : List α} : cutL ((a ++ r).map f) none (some (a.length : Int)) = a.map f := by
  have h : ¬ (a.length : Int) < 0 := by omega
  simp [cutL, HT.sIx, h]
theorem cut_post {α : Type} {f : α → PyData} {a b : List α} {q : α} : cutL ((a ++ q :: b).map f) (some ((a.length : Int) + 1)) none = b.map f := by
  have h : ¬ (a.length : Int) + 1 < 0 := by omega
  have e : min ((a.length : Int) + 1).toNat ((a ++ q :: b).map f).length = a.length + 1 := by simp only [List.length_map, List.length_append, List.length_cons]; omega
  simp only [cutL, HT.sIx, h, if_false, e]
  rw [List.map_append, List.map_cons, show List.map f a ++ f q :: List.map f b = (List.map f a ++ [f q]) ++ List.map f b by simp, List.drop_left' (by simp), List.take_of_length_le (by simp; omega)]
theorem idx_at {α : Type} {f : α → PyData} {a b : List α} {q : α} : idxD (.tuple ((a ++ q :: b).map f)) (.int (a.length : Int)) = .ok (f q) := by
  have e : L2.atI ((a ++ q :: b).map f) (a.length : Int) = some (f q) := by
    have h1 : (a.length : Int) < (a.length : Int) + ((b.length : Int) + 1) := by omega
    simp [L2.atI, L2.ixN, h1]
  simp only [idxD, e]
theorem findIx_at {s : Str} {xs ys : List Str} (h : ∀ z ∈ xs, z ≠ s) : ∀ k, findIx (.str s) ((xs ++ s :: ys).map .str) k = some (k + xs.length) := by
  induction xs with
  | nil => intro k; simp [findIx, PyData.eqv]
  | cons x xs ih =>
    intro k
    have hx : x ≠ s := h x List.mem_cons_self
    rw [List.cons_append, List.map_cons, findIx, if_neg (by simpa [PyData.eqv] using hx), ih fun z hz => h z (List.mem_cons_of_mem _ hz)]
    simp; omega
theorem add_Pa {xs ys : List Pa} (h : xs.length + ys.length ≤ 1000000) : binD .add (.tuple (xs.map encPa)) (.tuple (ys.map encPa)) = .ok (.tuple ((xs ++ ys).map encPa)) := by
  simp [binD, addD, LIM, h]
theorem index_Pa {s : Str} {a b : List Pa} {q : Pa} (hq : q.1 = s) (h : ∀ z ∈ a, z.1 ≠ s) : indexD (.list (((a ++ q :: b).map (·.1)).map .str)) [.str s] = .ok (.int (a.length : Int)) := by
  have e := findIx_at (s := s) (xs := a.map (·.1)) (ys := b.map (·.1)) (fun z hz => by obtain ⟨w, hw, rfl⟩ := List.mem_map.mp hz; exact h w hw) 0
  have hd := enc_str.dpAll ((a ++ q :: b).map (·.1))
  have hn := enc_str.ndAll ((a ++ q :: b).map (·.1))
  rw [List.map_append, List.map_cons, hq] at hd hn ⊢
  simp only [indexD]
  have h1 : (PyData.str s).depth = 0 := by simp [PyData.depth]
  have h2 : (PyData.list ((a.map (·.1) ++ s :: b.map (·.1)).map .str)).depth ≤ 64 := by simp only [PyData.depth]; omega
  rw [if_pos (by simp only [nd, hn, h1, Bool.true_and, Bool.and_eq_true, decide_eq_true_eq]; exact ⟨by decide, h2⟩), e]
  simp
/-- the two ways of part_at -/
theorem part_cases (t : Th) (path : Path) : (∃ c, partAt t path = .error c ∧ (mustN t path = .error c ∨ (mustN t path = .ok () ∧ path = [] ∧ c = "NoFit"))) ∨
    ∃ pre s p0 a q b, path = pre ++ [.nm s] ∧ pre.any isIx = false ∧ mustN t path = .ok () ∧ foundFrom plain t pre = some (p0, .group (a ++ q :: b)) ∧ q.1 = s ∧ (∀ z ∈ a, z.1 ≠ s) ∧ partAt t path = .ok (p0, a, q, b) ∧ foundFrom plain t path = some (together p0 q.2.1, q.2.2) := by
  cases hm : mustN t path with
  | error c => exact .inl ⟨c, by simp only [partAt, hm], .inl rfl⟩
  | ok u =>
    have hm' := hm
    unfold mustN at hm'
    split at hm'
    · cases hm'
    · rename_i r hr
      split at hm'
      · cases hm'
      · rename_i hi
        by_cases hp : path = []
        · subst hp
          exact .inl ⟨"NoFit", by simp [partAt, hm], .inr ⟨rfl, rfl, rfl⟩⟩
        · obtain ⟨pre, s, rfl, hi'⟩ := last_of hp (by simpa using hi)
          obtain ⟨p0, a, q, b, h1, h2, h3, h4⟩ := found_last hr
          refine .inr ⟨pre, s, p0, a, q, b, rfl, hi', rfl, h1, h2, h3, ?_, by rw [hr, h4]⟩
          simp only [partAt, hm, List.getLast?_concat, List.dropLast_concat, h1, splitN_of h2 h3]
section
variable {G : Prog} {n : Nat}
theorem ev_part_err (g : ChhOk G) (hn : 5 ≤ n) {t : Th} {path : Path} (hw : wf t) (hs : scl t < 1073741824) {c : String} (h : mustN t path = .error c ∨ (mustN t path = .ok () ∧ path = [] ∧ c = "NoFit")) : callD G n "part_at" [encT t, .tuple (path.map encStp)] = .exc c .none := by
  have e := ev_must g (n := n - 1) (by omega) (path := path) hw hs
  rcases h with h | ⟨h, rfl, rfl⟩
  · rw [h] at e
    refine k_go g.part (by omega) rfl ?_
    exists d_part_at, e, excE
  · rw [h] at e
    simp only [List.map_nil] at e
    refine k_go g.part (by omega) rfl ?_
    exists d_part_at, e, excE
theorem ev_part (g : ChhOk G) (hn : 5 ≤ n) {t : Th} {pre : Path} {s : Str} {p0 : Pl} {a b : List Pa} {q : Pa} (hw : wf t) (hs : scl t < 1073741824) (hm : mustN t (pre ++ [.nm s]) = .ok ()) (hf : foundFrom plain t pre = some (p0, .group (a ++ q :: b))) (hq : q.1 = s) (ha : ∀ z ∈ a, z.1 ≠ s) :
    callD G n "part_at" [encT t, .tuple ((pre ++ [Stp.nm s]).map encStp)] = .ok (.tuple [.tuple ((a ++ q :: b).map encPa), .int (a.length : Int)]) := by
  have e := ev_must g (n := n - 1) (by omega) (path := pre ++ [Stp.nm s]) hw hs
  rw [hm] at e
  have e2 := ev_thing_at g.toChgOk g.thing (n := n - 1) (by omega) (path := pre) hw hs
  rw [hf] at e2
  simp only [excO] at e2
  rw [encT_group] at e2
  have h0 : ¬ ((pre.length + 1 : Nat) : Int) = 0 := by omega
  refine k_go g.part (by omega) rfl ?_
  exists d_part_at, e, excE, len_last, h0, cut_last, e2, idx_last, cmpl_fst, encStp, index_Pa hq ha
/-- some parts in a part's place -/
theorem ev_withp (g : ChhOk G) {pre : Path} (hn : pre.length + 7 ≤ n) {t : Th} {s : Str} {p0 : Pl} {a b some : List Pa} {q : Pa} (hw : wf t) (hs : scl t < 1073741824) (hu : unl t) (hm : mustN t (pre ++ [.nm s]) = .ok ()) (hi : pre.any isIx = false) (hf : foundFrom plain t pre = Option.some (p0, .group (a ++ q :: b))) (hq : q.1 = s) (ha : ∀ z ∈ a, z.1 ≠ s)
    (hl : some.length ≤ 1000) : callD G n "with_part" [encT t, .tuple ((pre ++ [Stp.nm s]).map encStp), .tuple (some.map encPa)] = .ok (encT (withP pre t (a ++ some ++ b))) := by
  have e := ev_part g (n := n - 1) (by omega) hw hs hm hf hq ha
  have hc := can_of hf hi hu
  have hk := found_unl hf hu
  simp only at hk
  rw [unl_group] at hk
  have hkl := hk.1.2
  simp at hkl
  have e2 := ev_with g.with_ pre (n := n - 1) t (a ++ some ++ b) (by omega) hc
  refine k_go g.withp (by omega) rfl ?_
  exists d_with_part, e, cut_last, cut_pre, cut_post, add_Pa
  rw [← List.append_assoc, e2]
  rfl
end
end DP

/-! ## Chg4 -/
set_option Elab.async false
set_option linter.all false
set_option maxRecDepth 100000
set_option maxHeartbeats 4000000
set_option autoImplicit false
/-! Parts moved, turned, mirrored, dropped, raised. -/
namespace DP
open PySem
local macro_rules | `(tactic| exists $es,*) => `(tactic| simp -implicitDefEqProofs (disch := first | assumption | omega | (simp only [List.length_map, List.length_append, List.length_cons, List.length_nil]; omega) | decide | (simp [nd, ndAll, PyData.depth, PyData.depthAll]; done)) only [q_b1, q_bL, q_b2, q_mkT, q_mkL, q_cons2, q_notK, q_andK, q_andKf, q_andKt, q_orK, q_orKt, q_orKf, q_chainK, q_slcK, q_tK, q_tKf, q_cmplK, q_cl0, q_cl1, q_cl1o, q_selt, q_self, q_seqn, q_seqr, q_seqe, q_seqi, q_asgK, q_asgOK, q_nxE, q_unpK, q_unpLK, q_parK, q_exprK, q_appK, q_extK, q_retK, q_retOK, q_iteK, q_forK, q_lp0, q_lp1, q_lpS, q_lpKn, q_lpKr, q_lpKe, q_lpKi, q_frzo, q_frzv, q_slotV, q_slotLv, q_slotLo, q_optV, q_outr, q_outn, q_oute, q_outi, q_w0, q_w1, q_sa0, q_sa1, q_stn, q_stt, q_tgn, q_tgt, q_eint, q_ebl, q_enon, q_estr, q_evar, q_eglob, q_etup, q_elst, q_ebin, q_eneg, q_enot, q_eand, q_eor, q_and1, q_and2, q_or1, q_or2, q_ecmp, q_echain, q_ecall, q_etold, q_told1, q_told2, q_told3, q_told4, q_low59, q_otold, q_eblt, q_eisi, q_eidx, q_eslc, q_erev, q_ecomp, q_es0, q_es1, q_bs0, q_bs1, q_t0, q_t1, q_iplain, q_irng, q_irng2, q_fplain, q_frng, q_frng2, q_ienum, q_izip, q_irev, q_fenum, q_fzip, q_frev, q_ovar, q_oint, q_obl, q_onon, q_ostr, q_oglob, q_otup, q_olst, q_obin, q_oneg, q_onot, q_oand, q_oor, q_ocmp, q_ochain, q_ochain3, q_ocall, q_oblt, q_oisi, q_oidx, q_oslc, q_orev, q_ometh, q_ocomp, q_odctget, q_odctidx, q_pint, q_pnon, q_pglob, q_pbin, q_pneg, q_pcall, q_pblt, q_pidx, q_pvar, q_ss0, q_ss1, q_sasg, q_sasgOlst, q_sasgOcomp, q_sasgObin, q_sasgOslc, q_sasgOrev, q_sasgOlist, q_sasgOsorted, q_sunp, q_sunpL, q_spar, q_sexpr, q_sapp, q_sext, q_sret, q_sretO, q_site, q_sfor, q_spass, q_zvar, q_zint, q_zbl, q_znon, q_zstr, q_zglob, q_ztup, q_zlst, q_zbin, q_zneg, q_znot, q_zand, q_zor, q_zcmp, q_zchain, q_zchain3, q_zcall, q_zblt, q_zisi, q_zidx, q_zslc, q_zrev, q_zmeth, q_zcomp, q_zdctget, q_zdctidx, q_zrng, q_zrng2, q_zenum, q_zzip, q_zirev, q_add, q_sub, q_mulR, q_mulL, q_fdiv, q_mod, q_neg, q_cI, q_cnI, q_cS, q_cnS, q_cB, q_cnB, q_clt, q_cle, q_cgt, q_cge, q_isN, q_isnN, q_ist, q_isnt, q_isl, q_isnl, q_isi, q_isni, q_iss, q_isns, q_isb, q_isnb, q_ixt0, q_ixl0, q_ixt1, q_ixl1, q_ixt2, q_ixl2, q_ixt3, q_ixl3, q_ixt4, q_ixl4, q_ixt5, q_ixl5, q_ixt6, q_ixl6, q_ixt7, q_ixl7, q_ixt8, q_ixl8, q_lent0, q_lenl0, q_lent1, q_lenl1, q_lent2, q_lenl2, q_lent3, q_lenl3, q_lent4, q_lenl4, q_lent5, q_lenl5, q_lent6, q_lenl6, q_lent7, q_lenl7, q_lent8, q_lenl8, q_lenTm, q_lenLm, q_bint, q_bintb, q_babs, q_blst, q_blstT, q_btup, q_btupT, q_bmin, q_bmax, q_isi_int_int, q_isi_int_bool, q_isi_int_str, q_isi_int_tuple, q_isi_int_list, q_isi_int_none, q_isi_bool_int, q_isi_bool_bool, q_isi_bool_str, q_isi_bool_tuple, q_isi_bool_list, q_isi_bool_none, q_isi_str_int, q_isi_str_bool, q_isi_str_str, q_isi_str_tuple, q_isi_str_list, q_isi_str_none, q_isi_tuple_int, q_isi_tuple_bool, q_isi_tuple_str, q_isi_tuple_tuple, q_isi_tuple_list, q_isi_tuple_none, q_isi_list_int, q_isi_list_bool, q_isi_list_str, q_isi_list_tuple, q_isi_list_list, q_isi_list_none, q_itL, q_itT, q_rng0, q_rng1, q_rng2, q_rng3, q_rng4, q_revL, q_revT, q_rvL, q_rvT, q_slT, q_slL, q_xasg, q_xret, q_xb1, q_xbL, q_xb2l, q_xb2r, q_xc2l, q_xc2r, q_xmkT, q_xmkL, q_xexpr, q_xunp, q_xite, q_xparl, q_xparr, q_xnot, q_xfor, q_xslc, q_srais, q_emeth, q_mthi, q_mthz, q_mthj, q_sel, q_seqnil, q_lpTn, q_lpTr, q_lpTe, q_lpTi, q_s_line_box, q_s_line_ring, q_s_line_field, q_s_line_row, q_s_line_group, q_s_box_line, q_s_box_ring, q_s_box_field, q_s_box_row, q_s_box_group, q_s_ring_line, q_s_ring_box, q_s_ring_field, q_s_ring_row, q_s_ring_group, q_s_field_line, q_s_field_box, q_s_field_ring, q_s_field_row, q_s_field_group, q_s_row_line, q_s_row_box, q_s_row_ring, q_s_row_field, q_s_row_group, q_s_group_line, q_s_group_box, q_s_group_ring, q_s_group_field, q_s_group_row, q_Pteta, q_Pleta, q_Mteta, q_cLL0, q_cTT0, q_cnLL0, q_cnTT0, List.getD_cons_zero, List.getD_cons_succ, List.set_cons_zero, List.set_cons_succ, List.map_cons, List.map_nil, List.cons_append, List.nil_append, List.append_assoc, List.length_cons, List.length_nil, List.length_map, List.length_append, List.replicate_succ, List.replicate_zero, ↓reduceIte, decide_eq_true_eq, Bool.not_eq_true', Bool.not_true, Bool.not_false, Bool.true_and, Bool.false_and, Bool.and_true, Bool.and_false, Bool.or_true, Bool.or_false, Bool.true_or, Bool.false_or, Bool.and_eq_true, Bool.or_eq_true, Bool.not_not, decide_eq_false_iff_not, decide_true, decide_false, Bool.false_eq_true, eq_self, not_true_eq_false, not_false_eq_true, true_and, and_true, false_and, and_false, or_true, true_or, or_false, false_or, Int.reduceAdd, Int.reduceMul, Int.reduceSub, Int.reduceNeg, Int.reduceLT, Int.reduceLE, Int.reduceEq, Int.reduceMod, Int.reduceDiv, Nat.reduceAdd, Nat.reduceSub, Int.reduceNe, $[$es:term],*])
def chg (t : Th) (path : Path) (f : Pl → Pa → Except String (List Pa)) : Except String Th := match partAt t path with
  | .error c => .error c
  | .ok (p0, a, q, b) => match f p0 q with
    | .error c => .error c
    | .ok zs => .ok (withP path.dropLast t (a ++ zs ++ b))
def movePl (p0 p : Pl) (x y : Int) : Option Pl := (back ⟨p0.t, p0.f, p0.s, 0, 0⟩ (x, y)).map fun st => ⟨p.t, p.f, p.s, p.x + st.1, p.y + st.2⟩
def turnPl (p : Pl) : Pl := ⟨(p.t + 1) % 4, p.f, p.s, p.x, p.y⟩
def flipPl (p : Pl) : Pl := ⟨p.t, 1 - p.f, p.s, p.x, p.y⟩
def moved (t : Th) (path : Path) (x y : Int) : Except String Th := chg t path fun p0 q => match movePl p0 q.2.1 x y with
  | none => .error "NoFit"
  | some p => .ok [(q.1, p, q.2.2)]
def turned (t : Th) (path : Path) : Except String Th := chg t path fun _ q => .ok [(q.1, turnPl q.2.1, q.2.2)]
def mirrored (t : Th) (path : Path) : Except String Th := chg t path fun _ q => .ok [(q.1, flipPl q.2.1, q.2.2)]
def dropped (t : Th) (path : Path) : Except String Th := chg t path fun _ _ => .ok []
def swapUp (q : Pa) : List Pa → List Pa
  | [] => [q]
  | z :: b => z :: q :: b
def raised (t : Th) (path : Path) : Except String Th := match partAt t path with
  | .error c => .error c
  | .ok (_, a, q, b) => .ok (withP path.dropLast t (a ++ swapUp q b))
theorem slc_a3 {d0 d1 d2 d3 d4 : PyData} : cutL [d0, d1, d2, d3, d4] none (some 3) = [d0, d1, d2] := rfl
theorem slc_a1 {d0 d1 d2 d3 d4 : PyData} : cutL [d0, d1, d2, d3, d4] none (some 1) = [d0] := rfl
theorem slc_b1 {d0 d1 d2 d3 d4 : PyData} : cutL [d0, d1, d2, d3, d4] (some 1) none = [d1, d2, d3, d4] := rfl
theorem slc_b2 {d0 d1 d2 d3 d4 : PyData} : cutL [d0, d1, d2, d3, d4] (some 2) none = [d2, d3, d4] := rfl
theorem wd_list {α : Type} {a : List α} {x : α} : (a ++ [x]).dropLast = a := by simp
structure ChdOk (G : Prog) : Prop extends ChhOk G where
  back : Has G "back" d_back
  placing : Has G "placing_at" d_placing_at
/-- what a change needs of a sheet -/
structure Fch (t : Th) : Prop where
  wf : wf t
  unl : unl t
  scl : scl t < 1073741824
section
variable {G : Prog} {n : Nat}
theorem add1_Pa {a : List Pa} {q : Pa} : (PyData.tuple [.tuple [.str q.1, encL q.2.1, encT q.2.2]]) = .tuple ([q].map encPa) := rfl
theorem ev_moved (g : ChdOk G) (gm : Has G "moved" d_moved) {t : Th} (h : Fch t) {path : Path} (hn : path.length + 10 ≤ n) {x y : Int} : callD G n "moved" [encT t, .tuple (path.map encStp), .int x, .int y] = excE encT (moved t path x y) := by
  rcases part_cases t path with ⟨c, h1, h2⟩ | ⟨pre, s, p0, a, q, b, rfl, hi, hm, hf, hq, ha, h1, h3⟩
  · have e := ev_part_err g.toChhOk (n := n - 1) (by omega) h.wf h.scl h2
    rw [moved, chg, h1]
    refine k_go gm (by omega) rfl ?_
    exists d_moved, e, excE
  · have hlen : pre.length + 11 ≤ n := by simp at hn; omega
    have e := ev_part g.toChhOk (n := n - 1) (by omega) h.wf h.scl hm hf hq ha
    have e2 := ev_placing_at g.toChgOk g.placing (n := n - 1) (by omega) (path := pre) h.wf h.scl
    rw [hf] at e2
    simp only [excO] at e2
    obtain ⟨w1, w2, w3⟩ := found_fit hf h.wf plain_w (by show (1 : Int) * scl t < _; have := h.scl; omega)
    simp only at w2
    have w0 : PlW ⟨p0.t, p0.f, p0.s, 0, 0⟩ := ⟨w2.t0, w2.t3, w2.f, w2.s1, w2.s9⟩
    rw [moved, chg, h1]
    simp only [movePl]
    cases hb : back ⟨p0.t, p0.f, p0.s, 0, 0⟩ (x, y) with
    | none =>
      have e3 := ev_back_none g.back (n := n - 1) (by omega) w0 hb
      refine k_go gm (by omega) rfl ?_
      exists d_moved, e, idx_at, cut_last, e2, slc_a3, o_addT, e3, excE, Option.map_none
    | some st =>
      have e3 := ev_back_some g.back (n := n - 1) (by omega) w0 hb
      have e4 := ev_withp g.toChhOk (n := n - 1) (some := [(q.1, ⟨q.2.1.t, q.2.1.f, q.2.1.s, q.2.1.x + st.1, q.2.1.y + st.2⟩, q.2.2)]) (by omega) h.wf h.scl h.unl hm hi hf hq ha (by simp)
      simp only [List.map_cons, List.map_nil] at e4
      refine k_go gm (by omega) rfl ?_
      exists d_moved, e, idx_at, cut_last, e2, slc_a3, o_addT, e3, excE, Option.map_some, e4, wd_list
theorem ev_turned (g : ChhOk G) (gm : Has G "turned" d_turned) {t : Th} (h : Fch t) {path : Path} (hn : path.length + 10 ≤ n) : callD G n "turned" [encT t, .tuple (path.map encStp)] = excE encT (turned t path) := by
  rcases part_cases t path with ⟨c, h1, h2⟩ | ⟨pre, s, p0, a, q, b, rfl, hi, hm, hf, hq, ha, h1, h3⟩
  · have e := ev_part_err g (n := n - 1) (by omega) h.wf h.scl h2
    rw [turned, chg, h1]
    refine k_go gm (by omega) rfl ?_
    exists d_turned, e, excE
  · have hlen : pre.length + 11 ≤ n := by simp at hn; omega
    have e := ev_part g (n := n - 1) (by omega) h.wf h.scl hm hf hq ha
    rw [turned, chg, h1]
    have e4 := ev_withp g (n := n - 1) (some := [(q.1, turnPl q.2.1, q.2.2)]) (by omega) h.wf h.scl h.unl hm hi hf hq ha (by simp)
    simp only [List.map_cons, List.map_nil, turnPl] at e4
    refine k_go gm (by omega) rfl ?_
    exists d_turned, e, idx_at, cut_last, slc_b1, o_addT, excE, e4, wd_list, turnPl
theorem ev_mirrored (g : ChhOk G) (gm : Has G "mirrored" d_mirrored) {t : Th} (h : Fch t) {path : Path} (hn : path.length + 10 ≤ n) : callD G n "mirrored" [encT t, .tuple (path.map encStp)] = excE encT (mirrored t path) := by
  rcases part_cases t path with ⟨c, h1, h2⟩ | ⟨pre, s, p0, a, q, b, rfl, hi, hm, hf, hq, ha, h1, h3⟩
  · have e := ev_part_err g (n := n - 1) (by omega) h.wf h.scl h2
    rw [mirrored, chg, h1]
    refine k_go gm (by omega) rfl ?_
    exists d_mirrored, e, excE
  · have hlen : pre.length + 11 ≤ n := by simp at hn; omega
    have e := ev_part g (n := n - 1) (by omega) h.wf h.scl hm hf hq ha
    rw [mirrored, chg, h1]
    have e4 := ev_withp g (n := n - 1) (some := [(q.1, flipPl q.2.1, q.2.2)]) (by omega) h.wf h.scl h.unl hm hi hf hq ha (by simp)
    simp only [List.map_cons, List.map_nil, flipPl] at e4
    refine k_go gm (by omega) rfl ?_
    exists d_mirrored, e, idx_at, cut_last, slc_a1, slc_b2, o_addT, excE, e4, wd_list, flipPl
theorem ev_withp_err (g : ChhOk G) (hn : 6 ≤ n) {t : Th} {path : Path} (hw : wf t) (hs : scl t < 1073741824) {c : String} {zs : List Pa} (h : mustN t path = .error c ∨ (mustN t path = .ok () ∧ path = [] ∧ c = "NoFit")) : callD G n "with_part" [encT t, .tuple (path.map encStp), .tuple (zs.map encPa)] = .exc c .none := by
  have e := ev_part_err g (n := n - 1) (by omega) hw hs h
  refine k_go g.withp (by omega) rfl ?_
  exists d_with_part, e
theorem ev_dropped (g : ChhOk G) (gm : Has G "dropped" d_dropped) {t : Th} (h : Fch t) {path : Path} (hn : path.length + 10 ≤ n) : callD G n "dropped" [encT t, .tuple (path.map encStp)] = excE encT (dropped t path) := by
  rcases part_cases t path with ⟨c, h1, h2⟩ | ⟨pre, s, p0, a, q, b, rfl, hi, hm, hf, hq, ha, h1, h3⟩
  · have e := ev_withp_err g (n := n - 1) (by omega) h.wf h.scl (zs := []) h2
    rw [dropped, chg, h1]
    simp only [List.map_nil] at e
    refine k_go gm (by omega) rfl ?_
    exists d_dropped, e, excE
  · have hlen : pre.length + 11 ≤ n := by simp at hn; omega
    rw [dropped, chg, h1]
    have e4 := ev_withp g (n := n - 1) (some := []) (by omega) h.wf h.scl h.unl hm hi hf hq ha (by simp)
    simp only [List.map_nil] at e4
    refine k_go gm (by omega) rfl ?_
    exists d_dropped, excE, e4, wd_list
theorem cut_two {q : Pa} {a b : List Pa} : cutL ((a ++ q :: b).map encPa) (some (a.length : Int)) (some ((a.length : Int) + 2)) = ((q :: b).take 2).map encPa := by
  have h : ¬ (a.length : Int) < 0 := by omega
  have h' : ¬ (a.length : Int) + 2 < 0 := by omega
  have e : min ((a.length : Int)).toNat ((a ++ q :: b).map encPa).length = a.length := by simp only [List.length_map, List.length_append, List.length_cons]; omega
  have e2 : min ((a.length : Int) + 2).toNat ((a ++ q :: b).map encPa).length - a.length = min 2 (b.length + 1) := by simp only [List.length_map, List.length_append, List.length_cons]; omega
  simp only [cutL, HT.sIx, h, h', if_false, e, e2]
  rw [List.map_append, List.drop_left' (by simp), ← List.map_take]
  congr 1
  rw [show b.length + 1 = (q :: b).length from rfl, ← List.take_eq_take_min]
theorem cut_rest {q : Pa} {a b : List Pa} : cutL ((a ++ q :: b).map encPa) (some ((a.length : Int) + 2)) none = ((q :: b).drop 2).map encPa := by
  have h' : ¬ (a.length : Int) + 2 < 0 := by omega
  have e : min ((a.length : Int) + 2).toNat ((a ++ q :: b).map encPa).length = a.length + min 2 (b.length + 1) := by simp only [List.length_map, List.length_append, List.length_cons]; omega
  simp only [cutL, HT.sIx, h', if_false, e]
  rw [List.map_append, List.drop_append, List.drop_of_length_le (by simp), List.nil_append, List.length_map, show a.length + min 2 (b.length + 1) - a.length = min 2 (b.length + 1) by omega, ← List.map_drop, List.take_of_length_le (by simp; omega)]
  cases b with
  | nil => simp
  | cons z b => simp
theorem add_Pa0 {a : List Pa} (h : a.length ≤ 900000) : binD .add (.tuple (a.map encPa)) (.tuple []) = .ok (.tuple (a.map encPa)) := by
  have : a.length + 2 ≤ LIM ∧ a.length ≤ LIM ∧ a.length + 1 ≤ LIM := by unfold LIM; omega
  simp [binD, addD, this]
theorem add_Pa1 {a : List Pa} {q : Pa} (h : a.length ≤ 900000) : binD .add (.tuple (a.map encPa)) (.tuple [encPa q]) = .ok (.tuple ((a ++ [q]).map encPa)) := by
  have : a.length + 2 ≤ LIM ∧ a.length ≤ LIM ∧ a.length + 1 ≤ LIM := by unfold LIM; omega
  simp [binD, addD, this]
theorem add_Pa2 {a : List Pa} {q z : Pa} (h : a.length ≤ 900000) : binD .add (.tuple (a.map encPa)) (.tuple [encPa z, encPa q]) = .ok (.tuple ((a ++ [z, q]).map encPa)) := by
  have : a.length + 2 ≤ LIM ∧ a.length ≤ LIM ∧ a.length + 1 ≤ LIM := by unfold LIM; omega
  simp [binD, addD, this]
theorem ev_raised (g : ChhOk G) (gm : Has G "raised" d_raised) {t : Th} (h : Fch t) {path : Path} (hn : path.length + 10 ≤ n) : callD G n "raised" [encT t, .tuple (path.map encStp)] = excE encT (raised t path) := by
  rcases part_cases t path with ⟨c, h1, h2⟩ | ⟨pre, s, p0, a, q, b, rfl, hi, hm, hf, hq, ha, h1, h3⟩
  · have e := ev_part_err g (n := n - 1) (by omega) h.wf h.scl h2
    rw [raised, h1]
    refine k_go gm (by omega) rfl ?_
    exists d_raised, e, excE
  · have hlen : pre.length + 11 ≤ n := by simp at hn; omega
    have e := ev_part g (n := n - 1) (by omega) h.wf h.scl hm hf hq ha
    rw [raised, h1]
    have hc := can_of hf hi h.unl
    have hk := found_unl hf h.unl
    simp only at hk
    rw [unl_group] at hk
    have hkl := hk.1.2
    simp at hkl
    have e4 := ev_with g.with_ pre (n := n - 1) t (a ++ swapUp q b) (by omega) hc
    refine k_go gm (by omega) rfl ?_
    exists d_raised, e, cut_last, cut_pre, cut_two, cut_rest
    cases b with
    | nil =>
      simp only [List.take, List.drop, List.map_cons, List.map_nil, List.reverse_cons, List.reverse_nil, List.nil_append, swapUp] at e4 ⊢
      exists add_Pa0, add_Pa1, List.append_nil, e4, excE, wd_list, swapUp
    | cons z b =>
      simp only [List.take, List.drop, List.map_cons, List.map_nil, List.reverse_cons, List.reverse_nil, List.nil_append, List.cons_append, swapUp] at e4 ⊢
      simp at hkl
      exists add_Pa, add_Pa2, List.append_assoc, List.cons_append, List.nil_append, e4, excE, wd_list, swapUp
end
end DP

/-! ## Chg5 -/
set_option Elab.async false
set_option linter.all false
set_option maxRecDepth 100000
set_option maxHeartbeats 4000000
set_option autoImplicit false
/-! Things compared; parts of the sheet itself changed. -/
namespace DP
open PySem
local macro_rules | `(tactic| exists $es,*) => `(tactic| simp -implicitDefEqProofs (disch := first | assumption | omega | (simp only [List.length_map, List.length_append, List.length_cons, List.length_nil]; omega) | decide | (simp [nd, ndAll, PyData.depth, PyData.depthAll]; done)) only [q_b1, q_bL, q_b2, q_mkT, q_mkL, q_cons2, q_notK, q_andK, q_andKf, q_andKt, q_orK, q_orKt, q_orKf, q_chainK, q_slcK, q_tK, q_tKf, q_cmplK, q_cl0, q_cl1, q_cl1o, q_selt, q_self, q_seqn, q_seqr, q_seqe, q_seqi, q_asgK, q_asgOK, q_nxE, q_unpK, q_unpLK, q_parK, q_exprK, q_appK, q_extK, q_retK, q_retOK, q_iteK, q_forK, q_lp0, q_lp1, q_lpS, q_lpKn, q_lpKr, q_lpKe, q_lpKi, q_frzo, q_frzv, q_slotV, q_slotLv, q_slotLo, q_optV, q_outr, q_outn, q_oute, q_outi, q_w0, q_w1, q_sa0, q_sa1, q_stn, q_stt, q_tgn, q_tgt, q_eint, q_ebl, q_enon, q_estr, q_evar, q_eglob, q_etup, q_elst, q_ebin, q_eneg, q_enot, q_eand, q_eor, q_and1, q_and2, q_or1, q_or2, q_ecmp, q_echain, q_ecall, q_etold, q_told1, q_told2, q_told3, q_told4, q_low59, q_otold, q_eblt, q_eisi, q_eidx, q_eslc, q_erev, q_ecomp, q_es0, q_es1, q_bs0, q_bs1, q_t0, q_t1, q_iplain, q_irng, q_irng2, q_fplain, q_frng, q_frng2, q_ienum, q_izip, q_irev, q_fenum, q_fzip, q_frev, q_ovar, q_oint, q_obl, q_onon, q_ostr, q_oglob, q_otup, q_olst, q_obin, q_oneg, q_onot, q_oand, q_oor, q_ocmp, q_ochain, q_ochain3, q_ocall, q_oblt, q_oisi, q_oidx, q_oslc, q_orev, q_ometh, q_ocomp, q_odctget, q_odctidx, q_pint, q_pnon, q_pglob, q_pbin, q_pneg, q_pcall, q_pblt, q_pidx, q_pvar, q_ss0, q_ss1, q_sasg, q_sasgOlst, q_sasgOcomp, q_sasgObin, q_sasgOslc, q_sasgOrev, q_sasgOlist, q_sasgOsorted, q_sunp, q_sunpL, q_spar, q_sexpr, q_sapp, q_sext, q_sret, q_sretO, q_site, q_sfor, q_spass, q_zvar, q_zint, q_zbl, q_znon, q_zstr, q_zglob, q_ztup, q_zlst, q_zbin, q_zneg, q_znot, q_zand, q_zor, q_zcmp, q_zchain, q_zchain3, q_zcall, q_zblt, q_zisi, q_zidx, q_zslc, q_zrev, q_zmeth, q_zcomp, q_zdctget, q_zdctidx, q_zrng, q_zrng2, q_zenum, q_zzip, q_zirev, q_add, q_sub, q_mulR, q_mulL, q_fdiv, q_mod, q_neg, q_cI, q_cnI, q_cS, q_cnS, q_cB, q_cnB, q_clt, q_cle, q_cgt, q_cge, q_isN, q_isnN, q_ist, q_isnt, q_isl, q_isnl, q_isi, q_isni, q_iss, q_isns, q_isb, q_isnb, q_ixt0, q_ixl0, q_ixt1, q_ixl1, q_ixt2, q_ixl2, q_ixt3, q_ixl3, q_ixt4, q_ixl4, q_ixt5, q_ixl5, q_ixt6, q_ixl6, q_ixt7, q_ixl7, q_ixt8, q_ixl8, q_lent0, q_lenl0, q_lent1, q_lenl1, q_lent2, q_lenl2, q_lent3, q_lenl3, q_lent4, q_lenl4, q_lent5, q_lenl5, q_lent6, q_lenl6, q_lent7, q_lenl7, q_lent8, q_lenl8, q_lenTm, q_lenLm, q_bint, q_bintb, q_babs, q_blst, q_blstT, q_btup, q_btupT, q_bmin, q_bmax, q_isi_int_int, q_isi_int_bool, q_isi_int_str, q_isi_int_tuple, q_isi_int_list, q_isi_int_none, q_isi_bool_int, q_isi_bool_bool, q_isi_bool_str, q_isi_bool_tuple, q_isi_bool_list, q_isi_bool_none, q_isi_str_int, q_isi_str_bool, q_isi_str_str, q_isi_str_tuple, q_isi_str_list, q_isi_str_none, q_isi_tuple_int, q_isi_tuple_bool, q_isi_tuple_str, q_isi_tuple_tuple, q_isi_tuple_list, q_isi_tuple_none, q_isi_list_int, q_isi_list_bool, q_isi_list_str, q_isi_list_tuple, q_isi_list_list, q_isi_list_none, q_itL, q_itT, q_rng0, q_rng1, q_rng2, q_rng3, q_rng4, q_revL, q_revT, q_rvL, q_rvT, q_slT, q_slL, q_xasg, q_xret, q_xb1, q_xbL, q_xb2l, q_xb2r, q_xc2l, q_xc2r, q_xmkT, q_xmkL, q_xexpr, q_xunp, q_xite, q_xparl, q_xparr, q_xnot, q_xfor, q_xslc, q_srais, q_emeth, q_mthi, q_mthz, q_mthj, q_sel, q_seqnil, q_lpTn, q_lpTr, q_lpTe, q_lpTi, q_s_line_box, q_s_line_ring, q_s_line_field, q_s_line_row, q_s_line_group, q_s_box_line, q_s_box_ring, q_s_box_field, q_s_box_row, q_s_box_group, q_s_ring_line, q_s_ring_box, q_s_ring_field, q_s_ring_row, q_s_ring_group, q_s_field_line, q_s_field_box, q_s_field_ring, q_s_field_row, q_s_field_group, q_s_row_line, q_s_row_box, q_s_row_ring, q_s_row_field, q_s_row_group, q_s_group_line, q_s_group_box, q_s_group_ring, q_s_group_field, q_s_group_row, q_Pteta, q_Pleta, q_Mteta, q_cLL0, q_cTT0, q_cnLL0, q_cnTT0, List.getD_cons_zero, List.getD_cons_succ, List.set_cons_zero, List.set_cons_succ, List.map_cons, List.map_nil, List.cons_append, List.nil_append, List.append_assoc, List.length_cons, List.length_nil, List.length_map, List.length_append, List.replicate_succ, List.replicate_zero, ↓reduceIte, decide_eq_true_eq, Bool.not_eq_true', Bool.not_true, Bool.not_false, Bool.true_and, Bool.false_and, Bool.and_true, Bool.and_false, Bool.or_true, Bool.or_false, Bool.true_or, Bool.false_or, Bool.and_eq_true, Bool.or_eq_true, Bool.not_not, decide_eq_false_iff_not, decide_true, decide_false, Bool.false_eq_true, eq_self, not_true_eq_false, not_false_eq_true, true_and, and_true, false_and, and_false, or_true, true_or, or_false, false_or, Int.reduceAdd, Int.reduceMul, Int.reduceSub, Int.reduceNeg, Int.reduceLT, Int.reduceLE, Int.reduceEq, Int.reduceMod, Int.reduceDiv, Nat.reduceAdd, Nat.reduceSub, Int.reduceNe, $[$es:term],*])
theorem eqAll_mem {α : Type} {enc : α → PyData} : ∀ (xs ys : List α), (∀ x ∈ xs, ∀ y, PyData.eqv (enc x) (enc y) = true ↔ x = y) → (PyData.eqvAll (xs.map enc) (ys.map enc) = true ↔ xs = ys)
  | [], [], _ => by simp [PyData.eqvAll]
  | [], y :: ys, _ => by simp [PyData.eqvAll]
  | x :: xs, [], _ => by simp [PyData.eqvAll]
  | x :: xs, y :: ys, h => by simp [PyData.eqvAll, h x List.mem_cons_self y, eqAll_mem xs ys fun z hz => h z (List.mem_cons_of_mem _ hz)]
theorem ne_gf : (("group" : Str) = "field") = False := eq_false (by decide)
theorem ne_fg : (("field" : Str) = "group") = False := eq_false (by decide)
theorem ne_lb : (("line" : Str) = "box") = False := eq_false (by decide)
theorem ne_bl : (("box" : Str) = "line") = False := eq_false (by decide)
theorem eqv_T (a : Th) : ∀ b, PyData.eqv (encT a) (encT b) = true ↔ a = b := by
  induction a using Th.ind with
  | group ps ih =>
    intro b
    cases b with
    | group qs =>
      rw [encT_group, encT_group]
      simp only [PyData.eqv, PyData.eqvAll, Bool.and_eq_true, Th.group.injEq]
      rw [eqAll_mem ps qs fun x hx y => by
        have e := enc_L.eq x.2.1 y.2.1
        simp [PyData.eqv, PyData.eqvAll, ih x hx, e, Prod.ext_iff] at e ⊢
        simp [e]]
      simp
    | _ => simp [encT, PyData.eqv, PyData.eqvAll, ne_gf, ne_fg]
  | row n x y t ih =>
    intro b
    cases b with
    | row n' x' y' t' => simp [encT, PyData.eqv, PyData.eqvAll, ih]
    | _ => simp [encT, PyData.eqv, PyData.eqvAll, ne_gf, ne_fg]
  | field ps =>
    intro b
    cases b with
    | field qs =>
      have e := enc_P.eqAll ps qs
      simp [encT, PyData.eqv, PyData.eqvAll, e]
    | _ => simp [encT, PyData.eqv, PyData.eqvAll, ne_gf, ne_fg]
  | _ => intro b; cases b <;> simp [encT, PyData.eqv, PyData.eqvAll, ne_lb, ne_bl]
theorem ndAll_mem {α : Type} {enc : α → PyData} : ∀ (xs : List α), (∀ x ∈ xs, nd (enc x) = true) → ndAll (xs.map enc) = true
  | [], _ => rfl
  | x :: xs, h => by simp [ndAll, h x List.mem_cons_self, ndAll_mem xs fun z hz => h z (List.mem_cons_of_mem _ hz)]
theorem dpAll_mem {α : Type} {enc : α → PyData} {k : Nat} : ∀ (xs : List α), (∀ x ∈ xs, (enc x).depth ≤ k) → PyData.depthAll (xs.map enc) ≤ k
  | [], _ => by simp [PyData.depthAll]
  | x :: xs, h => by
    have := h x List.mem_cons_self
    have := dpAll_mem xs fun z hz => h z (List.mem_cons_of_mem _ hz)
    simp only [List.map_cons, PyData.depthAll]; omega
theorem nd_T (a : Th) : nd (encT a) = true := by
  induction a using Th.ind with
  | group ps ih =>
    rw [encT_group]
    simp only [nd, ndAll, Bool.true_and, Bool.and_true]
    exact ndAll_mem ps fun x hx => by simp [nd, ndAll, ih x hx]
  | row n x y t ih => simp [encT, nd, ndAll, ih]
  | field ps => simp [encT, nd, ndAll, enc_P.ndAll ps]
  | _ => rfl
theorem dp_T (a : Th) : (encT a).depth ≤ 3 * dep a + 3 := by
  induction a using Th.ind with
  | group ps ih =>
    rw [encT_group, dep_group]
    have := dpAll_mem (enc := encPa) (k := 3 * depL ps + 4) ps fun x hx => by
      have h1 := ih x hx
      have h2 := dep_mem hx
      simp [PyData.depth, PyData.depthAll]; omega
    simp only [PyData.depth, PyData.depthAll]; omega
  | row n x y t ih => rw [dep_row]; simp [encT, PyData.depth, PyData.depthAll]; omega
  | field ps => have := enc_P.dpAll ps; simp [encT, PyData.depth, PyData.depthAll]; omega
  | _ => simp [encT, PyData.depth, PyData.depthAll]
theorem cmp_T {a b : Th} [Decidable (a = b)] (h : dep a ≤ 20) : cmpD .eq (encT a) (encT b) = .ok (.bool (decide (a = b))) := by
  rw [cmp_eqv (nd_T _) (nd_T _) (by have := dp_T a; omega)]
  congr 2
  rw [Bool.eq_iff_iff, eqv_T]; simp
theorem cmp_nT {a b : Th} [Decidable (a = b)] (h : dep a ≤ 20) : cmpD .ne (encT a) (encT b) = .ok (.bool (!decide (a = b))) := by
  rw [cmp_neqv (nd_T _) (nd_T _) (by have := dp_T a; omega)]
  congr 3
  rw [Bool.eq_iff_iff, eqv_T]; simp
theorem cmpT_same {a b : Th} (e : a = b) (h : dep a ≤ 20) : cmpD .eq (encT a) (encT b) = .ok (.bool true) := by
  subst e; rw [cmp_eqv (nd_T _) (nd_T _) (by have := dp_T a; omega), eqv_same _ (nd_T _)]
theorem cmpT_nsame {a b : Th} (e : a = b) (h : dep a ≤ 20) : cmpD .ne (encT a) (encT b) = .ok (.bool false) := by
  subst e; rw [cmp_neqv (nd_T _) (nd_T _) (by have := dp_T a; omega), eqv_same _ (nd_T _)]; rfl
/-! parts of the sheet itself -/
def updP (s : Str) (f : Pl → Pl) (ps : List Pa) : List Pa := ps.map fun q => if named s q = true then (q.1, f q.2.1, q.2.2) else q
def shP (x y : Int) (p : Pl) : Pl := ⟨p.t, p.f, p.s, p.x + x, p.y + y⟩
def delP (s : Str) (ps : List Pa) : List Pa := ps.filter fun q => !named s q
theorem named_eq {s : Str} {q : Pa} : named s q = true ↔ q.1 = s := by simp [named]
theorem named_ne {s : Str} {q : Pa} : named s q = false ↔ q.1 ≠ s := by simp [named]
theorem upd_names (s : Str) (f : Pl → Pl) (ps : List Pa) : (updP s f ps).map (·.1) = ps.map (·.1) := by
  rw [updP, List.map_map]; apply List.map_congr_left; intro q _; simp only [Function.comp]; split <;> rfl
theorem upd_upd (s : Str) (f g : Pl → Pl) (ps : List Pa) : updP s g (updP s f ps) = updP s (fun p => g (f p)) ps := by
  rw [updP, updP, updP, List.map_map]; apply List.map_congr_left; intro q _
  cases h : named s q with
  | true =>
    have h' : named s (q.1, f q.2.1, q.2.2) = true := h
    simp [Function.comp, h, h']
  | false => simp [Function.comp, h]
theorem upd_comm {s z : Str} (h : s ≠ z) (f g : Pl → Pl) (ps : List Pa) : updP s f (updP z g ps) = updP z g (updP s f ps) := by
  rw [updP, updP, updP, updP, List.map_map, List.map_map]; apply List.map_congr_left; intro q _
  simp only [Function.comp, named]
  by_cases h1 : q.1 = s
  · have : q.1 ≠ z := fun e => h (h1.symm.trans e)
    simp [h1, this, h]
  · by_cases h2 : q.1 = z
    · simp [h2, Ne.symm h]
    · simp [h1, h2]
theorem upd_id (s : Str) {f : Pl → Pl} {ps : List Pa} (h : ∀ q ∈ ps, f q.2.1 = q.2.1) : updP s f ps = ps := by
  rw [updP]
  conv => rhs; rw [← List.map_id ps]
  apply List.map_congr_left; intro q hq
  split
  · simp [h q hq]
  · rfl
theorem upd_at {s : Str} {f : Pl → Pl} {a b : List Pa} {q : Pa} (hq : q.1 = s) (ha : ∀ z ∈ a, z.1 ≠ s) (hb : ∀ z ∈ b, z.1 ≠ s) : updP s f (a ++ q :: b) = a ++ [(q.1, f q.2.1, q.2.2)] ++ b := by
  have m : ∀ {l : List Pa}, (∀ z ∈ l, z.1 ≠ s) → (l.map fun q : Pa => if named s q = true then (q.1, f q.2.1, q.2.2) else q) = l := fun {l} h => by
    conv => rhs; rw [← List.map_id l]
    apply List.map_congr_left; intro z hz
    rw [if_neg (by simpa [named] using h z hz)]; rfl
  rw [updP, List.map_append, List.map_cons, m ha, m hb, if_pos (by simpa [named] using hq)]
  simp
theorem del_at {s : Str} {a b : List Pa} {q : Pa} (hq : q.1 = s) (ha : ∀ z ∈ a, z.1 ≠ s) (hb : ∀ z ∈ b, z.1 ≠ s) : delP s (a ++ q :: b) = a ++ [] ++ b := by
  have m : ∀ {l : List Pa}, (∀ z ∈ l, z.1 ≠ s) → (l.filter fun q => !named s q) = l := fun {l} h => List.filter_eq_self.mpr fun z hz => by simpa [named] using h z hz
  rw [delP, List.filter_append, List.filter_cons, m ha, m hb, if_neg (by simpa [named] using hq)]
  simp
/-- the parts around a name -/
theorem around {s : Str} {ps : List Pa} (h : s ∈ ps.map (·.1)) (hn : (ps.map (·.1)).Nodup) : ∃ a q b, ps = a ++ q :: b ∧ q.1 = s ∧ (∀ z ∈ a, z.1 ≠ s) ∧ (∀ z ∈ b, z.1 ≠ s) ∧ ps.find? (named s) = some q := by
  obtain ⟨q0, hq0, e0⟩ := List.mem_map.mp h
  obtain ⟨q, hf⟩ : ∃ q, ps.find? (named s) = some q := by
    cases hf : ps.find? (named s) with
    | some q => exact ⟨q, rfl⟩
    | none => rw [List.find?_eq_none] at hf; exact absurd (named_eq.mpr e0) (hf q0 hq0)
  obtain ⟨a, b, rfl, h1, h2⟩ := find_split hf
  refine ⟨a, q, b, rfl, h1, h2, fun z hz e => ?_, hf⟩
  rw [List.map_append, List.map_cons, List.nodup_append] at hn
  exact (List.nodup_cons.mp hn.2.1).1 (List.mem_map.mpr ⟨z, hz, e.trans h1.symm⟩)
theorem must1 {s : Str} {ps : List Pa} {q : Pa} (h : ps.find? (named s) = some q) : mustN (.group ps) [.nm s] = .ok () := by
  simp [mustN, foundFrom, innerOf, h, isIx]
theorem part1 {s : Str} {a b : List Pa} {q : Pa} (hq : q.1 = s) (ha : ∀ z ∈ a, z.1 ≠ s) (h : (a ++ q :: b).find? (named s) = some q) : partAt (.group (a ++ q :: b)) [.nm s] = .ok (plain, a, q, b) := by
  simp only [partAt, must1 h, List.getLast?_singleton, List.dropLast_singleton, foundFrom, splitN_of hq ha]
theorem back_plain (x y : Int) : back ⟨0, 0, 1, 0, 0⟩ (x, y) = some (x, y) := by
  have := back_put plain_w (x, y)
  have e : put plain (x, y) = (x, y) := by simp [put, plain, rot, flp]
  rw [e] at this
  exact this
theorem moved1 {s : Str} {ps : List Pa} (h : s ∈ ps.map (·.1)) (hn : (ps.map (·.1)).Nodup) (x y : Int) : moved (.group ps) [.nm s] x y = .ok (.group (updP s (shP x y) ps)) := by
  obtain ⟨a, q, b, rfl, h1, h2, h3, h4⟩ := around h hn
  have e := part1 h1 h2 h4
  rw [plain] at e
  simp only [moved, chg, e, movePl, back_plain, Option.map_some, upd_at h1 h2 h3, List.dropLast_singleton, withP, shP]
theorem turned1 {s : Str} {ps : List Pa} (h : s ∈ ps.map (·.1)) (hn : (ps.map (·.1)).Nodup) : turned (.group ps) [.nm s] = .ok (.group (updP s turnPl ps)) := by
  obtain ⟨a, q, b, rfl, h1, h2, h3, h4⟩ := around h hn
  simp only [turned, chg, part1 h1 h2 h4, upd_at h1 h2 h3, List.dropLast_singleton, withP]
theorem mirrored1 {s : Str} {ps : List Pa} (h : s ∈ ps.map (·.1)) (hn : (ps.map (·.1)).Nodup) : mirrored (.group ps) [.nm s] = .ok (.group (updP s flipPl ps)) := by
  obtain ⟨a, q, b, rfl, h1, h2, h3, h4⟩ := around h hn
  simp only [mirrored, chg, part1 h1 h2 h4, upd_at h1 h2 h3, List.dropLast_singleton, withP]
theorem dropped1 {s : Str} {ps : List Pa} (h : s ∈ ps.map (·.1)) (hn : (ps.map (·.1)).Nodup) : dropped (.group ps) [.nm s] = .ok (.group (delP s ps)) := by
  obtain ⟨a, q, b, rfl, h1, h2, h3, h4⟩ := around h hn
  simp only [dropped, chg, part1 h1 h2 h4, del_at h1 h2 h3, List.dropLast_singleton, withP]
theorem raised1 {s : Str} {a b : List Pa} {q : Pa} (hq : q.1 = s) (hn : ((a ++ q :: b).map (·.1)).Nodup) : raised (.group (a ++ q :: b)) [.nm s] = .ok (.group (a ++ swapUp q b)) := by
  obtain ⟨a', q', b', e, h1, h2, h3, h4⟩ := around (s := s) (by simp [hq]) hn
  have ha : ∀ z ∈ a, z.1 ≠ s := fun z hz e => by
    rw [List.map_append, List.map_cons, List.nodup_append] at hn
    exact hn.2.2 z.1 (List.mem_map.mpr ⟨z, hz, rfl⟩) q.1 List.mem_cons_self (e.trans hq.symm)
  have hf : (a ++ q :: b).find? (named s) = some q := by
    rw [List.find?_append, List.find?_eq_none.mpr fun z hz => by simpa [named] using ha z hz]
    simp [named, hq]
  simp only [raised, part1 hq ha hf, List.dropLast_singleton, withP]
end DP

/-! ## Chg6 -/
set_option Elab.async false
set_option linter.all false
set_option maxRecDepth 100000
set_option maxHeartbeats 4000000
set_option autoImplicit false
/-! The sheet's own parts changed: the program's functions. -/
namespace DP
open PySem
local macro_rules | `(tactic| exists $es,*) => `(tactic| simp -implicitDefEqProofs (disch := first | assumption | omega | (simp only [List.length_map, List.length_append, List.length_cons, List.length_nil]; omega) | decide | (simp [nd, ndAll, PyData.depth, PyData.depthAll]; done)) only [q_b1, q_bL, q_b2, q_mkT, q_mkL, q_cons2, q_notK, q_andK, q_andKf, q_andKt, q_orK, q_orKt, q_orKf, q_chainK, q_slcK, q_tK, q_tKf, q_cmplK, q_cl0, q_cl1, q_cl1o, q_selt, q_self, q_seqn, q_seqr, q_seqe, q_seqi, q_asgK, q_asgOK, q_nxE, q_unpK, q_unpLK, q_parK, q_exprK, q_appK, q_extK, q_retK, q_retOK, q_iteK, q_forK, q_lp0, q_lp1, q_lpS, q_lpKn, q_lpKr, q_lpKe, q_lpKi, q_frzo, q_frzv, q_slotV, q_slotLv, q_slotLo, q_optV, q_outr, q_outn, q_oute, q_outi, q_w0, q_w1, q_sa0, q_sa1, q_stn, q_stt, q_tgn, q_tgt, q_eint, q_ebl, q_enon, q_estr, q_evar, q_eglob, q_etup, q_elst, q_ebin, q_eneg, q_enot, q_eand, q_eor, q_and1, q_and2, q_or1, q_or2, q_ecmp, q_echain, q_ecall, q_etold, q_told1, q_told2, q_told3, q_told4, q_low59, q_otold, q_eblt, q_eisi, q_eidx, q_eslc, q_erev, q_ecomp, q_es0, q_es1, q_bs0, q_bs1, q_t0, q_t1, q_iplain, q_irng, q_irng2, q_fplain, q_frng, q_frng2, q_ienum, q_izip, q_irev, q_fenum, q_fzip, q_frev, q_ovar, q_oint, q_obl, q_onon, q_ostr, q_oglob, q_otup, q_olst, q_obin, q_oneg, q_onot, q_oand, q_oor, q_ocmp, q_ochain, q_ochain3, q_ocall, q_oblt, q_oisi, q_oidx, q_oslc, q_orev, q_ometh, q_ocomp, q_odctget, q_odctidx, q_pint, q_pnon, q_pglob, q_pbin, q_pneg, q_pcall, q_pblt, q_pidx, q_pvar, q_ss0, q_ss1, q_sasg, q_sasgOlst, q_sasgOcomp, q_sasgObin, q_sasgOslc, q_sasgOrev, q_sasgOlist, q_sasgOsorted, q_sunp, q_sunpL, q_spar, q_sexpr, q_sapp, q_sext, q_sret, q_sretO, q_site, q_sfor, q_spass, q_zvar, q_zint, q_zbl, q_znon, q_zstr, q_zglob, q_ztup, q_zlst, q_zbin, q_zneg, q_znot, q_zand, q_zor, q_zcmp, q_zchain, q_zchain3, q_zcall, q_zblt, q_zisi, q_zidx, q_zslc, q_zrev, q_zmeth, q_zcomp, q_zdctget, q_zdctidx, q_zrng, q_zrng2, q_zenum, q_zzip, q_zirev, q_add, q_sub, q_mulR, q_mulL, q_fdiv, q_mod, q_neg, q_cI, q_cnI, q_cS, q_cnS, q_cB, q_cnB, q_clt, q_cle, q_cgt, q_cge, q_isN, q_isnN, q_ist, q_isnt, q_isl, q_isnl, q_isi, q_isni, q_iss, q_isns, q_isb, q_isnb, q_ixt0, q_ixl0, q_ixt1, q_ixl1, q_ixt2, q_ixl2, q_ixt3, q_ixl3, q_ixt4, q_ixl4, q_ixt5, q_ixl5, q_ixt6, q_ixl6, q_ixt7, q_ixl7, q_ixt8, q_ixl8, q_lent0, q_lenl0, q_lent1, q_lenl1, q_lent2, q_lenl2, q_lent3, q_lenl3, q_lent4, q_lenl4, q_lent5, q_lenl5, q_lent6, q_lenl6, q_lent7, q_lenl7, q_lent8, q_lenl8, q_lenTm, q_lenLm, q_bint, q_bintb, q_babs, q_blst, q_blstT, q_btup, q_btupT, q_bmin, q_bmax, q_isi_int_int, q_isi_int_bool, q_isi_int_str, q_isi_int_tuple, q_isi_int_list, q_isi_int_none, q_isi_bool_int, q_isi_bool_bool, q_isi_bool_str, q_isi_bool_tuple, q_isi_bool_list, q_isi_bool_none, q_isi_str_int, q_isi_str_bool, q_isi_str_str, q_isi_str_tuple, q_isi_str_list, q_isi_str_none, q_isi_tuple_int, q_isi_tuple_bool, q_isi_tuple_str, q_isi_tuple_tuple, q_isi_tuple_list, q_isi_tuple_none, q_isi_list_int, q_isi_list_bool, q_isi_list_str, q_isi_list_tuple, q_isi_list_list, q_isi_list_none, q_itL, q_itT, q_rng0, q_rng1, q_rng2, q_rng3, q_rng4, q_revL, q_revT, q_rvL, q_rvT, q_slT, q_slL, q_xasg, q_xret, q_xb1, q_xbL, q_xb2l, q_xb2r, q_xc2l, q_xc2r, q_xmkT, q_xmkL, q_xexpr, q_xunp, q_xite, q_xparl, q_xparr, q_xnot, q_xfor, q_xslc, q_srais, q_emeth, q_mthi, q_mthz, q_mthj, q_sel, q_seqnil, q_lpTn, q_lpTr, q_lpTe, q_lpTi, q_s_line_box, q_s_line_ring, q_s_line_field, q_s_line_row, q_s_line_group, q_s_box_line, q_s_box_ring, q_s_box_field, q_s_box_row, q_s_box_group, q_s_ring_line, q_s_ring_box, q_s_ring_field, q_s_ring_row, q_s_ring_group, q_s_field_line, q_s_field_box, q_s_field_ring, q_s_field_row, q_s_field_group, q_s_row_line, q_s_row_box, q_s_row_ring, q_s_row_field, q_s_row_group, q_s_group_line, q_s_group_box, q_s_group_ring, q_s_group_field, q_s_group_row, q_Pteta, q_Pleta, q_Mteta, q_cLL0, q_cTT0, q_cnLL0, q_cnTT0, List.getD_cons_zero, List.getD_cons_succ, List.set_cons_zero, List.set_cons_succ, List.map_cons, List.map_nil, List.cons_append, List.nil_append, List.append_assoc, List.length_cons, List.length_nil, List.length_map, List.length_append, List.replicate_succ, List.replicate_zero, ↓reduceIte, decide_eq_true_eq, Bool.not_eq_true', Bool.not_true, Bool.not_false, Bool.true_and, Bool.false_and, Bool.and_true, Bool.and_false, Bool.or_true, Bool.or_false, Bool.true_or, Bool.false_or, Bool.and_eq_true, Bool.or_eq_true, Bool.not_not, decide_eq_false_iff_not, decide_true, decide_false, Bool.false_eq_true, eq_self, not_true_eq_false, not_false_eq_true, true_and, and_true, false_and, and_false, or_true, true_or, or_false, false_or, Int.reduceAdd, Int.reduceMul, Int.reduceSub, Int.reduceNeg, Int.reduceLT, Int.reduceLE, Int.reduceEq, Int.reduceMod, Int.reduceDiv, Nat.reduceAdd, Nat.reduceSub, Int.reduceNe, $[$es:term],*])
/-- a sheet of parts that can be changed -/
structure Fpt (ps : List Pa) : Prop extends Fch (.group ps) where
  dep : dep (.group ps) ≤ 20
theorem fpt_sub {ps qs : List Pa} (h : Fpt ps) (hm : ∀ q ∈ qs, ∃ r ∈ ps, q.2.2 = r.2.2 ∧ q.2.1.s = r.2.1.s ∧ (PlT r.2.1 → PlT q.2.1)) (hn : (qs.map (·.1)).Nodup) (hl : qs.length ≤ ps.length) : Fpt qs := by
  have hw := wf_group.mp h.wf
  have hu := unl_group.mp h.unl
  have hs := h.scl
  rw [scl_group] at hs
  have hd := h.dep
  rw [dep_group] at hd
  refine ⟨⟨wf_group.mpr fun q hq => ?_, unl_group.mpr ⟨⟨hn, by have := hu.1.2; omega⟩, fun q hq => ?_⟩, ?_⟩, ?_⟩
  · obtain ⟨r, hr, e1, e2, e3⟩ := hm q hq
    obtain ⟨w1, w2, w3⟩ := hw r hr
    exact ⟨e3 w1, by rw [e2]; exact w2, by rw [e1]; exact w3⟩
  · obtain ⟨r, hr, e1, e2, e3⟩ := hm q hq
    rw [e1]; exact hu.2 r hr
  · rw [scl_group]
    have : sclL qs ≤ sclL ps := sclL_le (sclL_pos ps) fun q hq => by
      obtain ⟨r, hr, e1, e2, e3⟩ := hm q hq
      rw [e1, e2]; exact scl_mem hr
    omega
  · rw [dep_group]
    have : depL qs ≤ depL ps := depL_le fun q hq => by
      obtain ⟨r, hr, e1, e2, e3⟩ := hm q hq
      rw [e1]; exact dep_mem hr
    omega
theorem Fpt.nd {ps : List Pa} (h : Fpt ps) : (ps.map (·.1)).Nodup := (unl_group.mp h.unl).1.1
theorem fpt_upd {ps : List Pa} (h : Fpt ps) (s : Str) {f : Pl → Pl} (hs : ∀ p, (f p).s = p.s) (hT : ∀ p, PlT p → PlT (f p)) : Fpt (updP s f ps) := by
  refine fpt_sub h (fun q hq => ?_) (by rw [upd_names]; exact h.nd) (by simp [updP])
  obtain ⟨r, hr, rfl⟩ := List.mem_map.mp hq
  refine ⟨r, hr, ?_⟩
  split
  · exact ⟨rfl, hs _, hT _⟩
  · exact ⟨rfl, rfl, id⟩
theorem fpt_sh {ps : List Pa} (h : Fpt ps) (s : Str) (x y : Int) : Fpt (updP s (shP x y) ps) := fpt_upd h s (fun _ => rfl) fun p hp => ⟨hp.1, hp.2, hp.3⟩
theorem fpt_turn {ps : List Pa} (h : Fpt ps) (s : Str) : Fpt (updP s turnPl ps) := fpt_upd h s (fun _ => rfl) fun p hp => ⟨by simp only [turnPl]; omega, by simp only [turnPl]; omega, hp.3⟩
theorem fpt_flip {ps : List Pa} (h : Fpt ps) (s : Str) : Fpt (updP s flipPl ps) := fpt_upd h s (fun _ => rfl) fun p hp => ⟨hp.1, hp.2, by have := hp.3; simp only [flipPl]; omega⟩
theorem fpt_del {ps : List Pa} (h : Fpt ps) (s : Str) : Fpt (delP s ps) := fpt_sub h (fun q hq => ⟨q, (List.mem_filter.mp hq).1, rfl, rfl, id⟩) (List.Nodup.sublist (List.Sublist.map _ List.filter_sublist) h.nd) (List.length_filter_le ..)
theorem fpt_perm {ps qs : List Pa} (h : Fpt ps) (hp : qs.Perm ps) : Fpt qs := fpt_sub h (fun q hq => ⟨q, hp.mem_iff.mp hq, rfl, rfl, id⟩) ((hp.map _).nodup_iff.mpr h.nd) (by rw [hp.length_eq]; exact Nat.le_refl _)
section
variable {G : Prog} {n : Nat}
theorem ev_moved1 (g : ChdOk G) (gm : Has G "moved" d_moved) (hn : 20 ≤ n) {ps : List Pa} (h : Fpt ps) {s : Str} (hs : s ∈ ps.map (·.1)) {x y : Int} : callD G n "moved" [encT (.group ps), .tuple [.str s], .int x, .int y] = .ok (encT (.group (updP s (shP x y) ps))) := by
  have e := ev_moved g gm (n := n) h.toFch (path := [.nm s]) (by simp; omega) (x := x) (y := y)
  rw [moved1 hs h.nd] at e
  exact e
theorem ev_turned1 (g : ChhOk G) (gm : Has G "turned" d_turned) (hn : 20 ≤ n) {ps : List Pa} (h : Fpt ps) {s : Str} (hs : s ∈ ps.map (·.1)) : callD G n "turned" [encT (.group ps), .tuple [.str s]] = .ok (encT (.group (updP s turnPl ps))) := by
  have e := ev_turned g gm (n := n) h.toFch (path := [.nm s]) (by simp; omega)
  rw [turned1 hs h.nd] at e
  exact e
theorem ev_mirrored1 (g : ChhOk G) (gm : Has G "mirrored" d_mirrored) (hn : 20 ≤ n) {ps : List Pa} (h : Fpt ps) {s : Str} (hs : s ∈ ps.map (·.1)) : callD G n "mirrored" [encT (.group ps), .tuple [.str s]] = .ok (encT (.group (updP s flipPl ps))) := by
  have e := ev_mirrored g gm (n := n) h.toFch (path := [.nm s]) (by simp; omega)
  rw [mirrored1 hs h.nd] at e
  exact e
theorem ev_dropped1 (g : ChhOk G) (gm : Has G "dropped" d_dropped) (hn : 20 ≤ n) {ps : List Pa} (h : Fpt ps) {s : Str} (hs : s ∈ ps.map (·.1)) : callD G n "dropped" [encT (.group ps), .tuple [.str s]] = .ok (encT (.group (delP s ps))) := by
  have e := ev_dropped g gm (n := n) h.toFch (path := [.nm s]) (by simp; omega)
  rw [dropped1 hs h.nd] at e
  exact e
theorem ev_raised1 (g : ChhOk G) (gm : Has G "raised" d_raised) (hn : 20 ≤ n) {a b : List Pa} {q : Pa} (h : Fpt (a ++ q :: b)) {s : Str} (hq : q.1 = s) : callD G n "raised" [encT (.group (a ++ q :: b)), .tuple [.str s]] = .ok (encT (.group (a ++ swapUp q b))) := by
  have e := ev_raised g gm (n := n) h.toFch (path := [.nm s]) (by simp; omega)
  rw [raised1 hq h.nd] at e
  exact e
theorem found1 {ps : List Pa} {s : Str} {q : Pa} (h : ps.find? (named s) = some q) (hT : PlT q.2.1) : foundFrom plain (.group ps) [.nm s] = some (q.2.1, q.2.2) := by
  simp only [foundFrom, innerOf, h, Option.map_some, plain_tog hT]
theorem ev_thing1 (g : ChgOk G) (g' : Has G "thing_at" d_thing_at) (hn : 20 ≤ n) {ps : List Pa} (h : Fpt ps) {s : Str} {q : Pa} (hf : ps.find? (named s) = some q) : callD G n "thing_at" [encT (.group ps), .tuple [.str s]] = .ok (encT q.2.2) := by
  have e := ev_thing_at g g' (n := n) (by omega) (path := [.nm s]) h.wf h.scl
  rw [found1 hf (wf_group.mp h.wf q (find_mem hf).1).1] at e
  exact e
theorem ev_placing1 (g : ChgOk G) (g' : Has G "placing_at" d_placing_at) (hn : 20 ≤ n) {ps : List Pa} (h : Fpt ps) {s : Str} {q : Pa} (hf : ps.find? (named s) = some q) : callD G n "placing_at" [encT (.group ps), .tuple [.str s]] = .ok (encL q.2.1) := by
  have e := ev_placing_at g g' (n := n) (by omega) (path := [.nm s]) h.wf h.scl
  rw [found1 hf (wf_group.mp h.wf q (find_mem hf).1).1] at e
  exact e
end
theorem find_upd {s z : Str} {f : Pl → Pl} {ps : List Pa} {q : Pa} (h : ps.find? (named s) = some q) : (updP z f ps).find? (named s) = some (if named z q = true then (q.1, f q.2.1, q.2.2) else q) := by
  rw [updP, List.find?_map]
  have : (named s ∘ fun q : Pa => if named z q = true then (q.1, f q.2.1, q.2.2) else q) = named s := by
    funext r; simp only [Function.comp]; split <;> rfl
  rw [this, h]; rfl
theorem find_del {s z : Str} (hs : s ≠ z) {ps : List Pa} : (delP z ps).find? (named s) = ps.find? (named s) := by
  rw [delP, List.find?_filter]
  apply congrFun
  congr 1
  funext r
  simp only [named]
  by_cases h : r.1 = s
  · simp [h, hs]
  · simp [h]
/-- raised once, the part stands one further behind -/
theorem up_step (q : Pa) (b : List Pa) (k : Nat) : b.take k ++ swapUp q (b.drop k) = b.take (k + 1) ++ q :: b.drop (k + 1) := by
  rcases Nat.lt_or_ge k b.length with h | h
  · rw [List.drop_eq_getElem_cons h, swapUp, List.take_succ_eq_append_getElem h, List.append_assoc]; rfl
  · rw [List.drop_of_length_le h, List.drop_of_length_le (by omega), List.take_of_length_le h, List.take_of_length_le (by omega), swapUp]
theorem perm_up (a : List Pa) (q : Pa) (b : List Pa) (k : Nat) : ((a ++ b.take k) ++ q :: b.drop k).Perm (a ++ q :: b) := by
  rw [List.append_assoc]
  apply List.Perm.append_left
  refine List.perm_middle.trans ?_
  rw [List.take_append_drop]
end DP

/-! ## Pat -/
set_option Elab.async false
set_option linter.all false
set_option maxRecDepth 100000
set_option maxHeartbeats 4000000
set_option autoImplicit false
/-! The laws' own paths, and what they find at one. -/
namespace DP
open PySem
local macro_rules | `(tactic| exists $es,*) => `(tactic| simp -implicitDefEqProofs (disch := first | assumption | omega | (simp only [List.length_map, List.length_append, List.length_cons, List.length_nil]; omega) | decide | (simp [nd, ndAll, PyData.depth, PyData.depthAll]; done)) only [q_b1, q_bL, q_b2, q_mkT, q_mkL, q_cons2, q_notK, q_andK, q_andKf, q_andKt, q_orK, q_orKt, q_orKf, q_chainK, q_slcK, q_tK, q_tKf, q_cmplK, q_cl0, q_cl1, q_cl1o, q_selt, q_self, q_seqn, q_seqr, q_seqe, q_seqi, q_asgK, q_asgOK, q_nxE, q_unpK, q_unpLK, q_parK, q_exprK, q_appK, q_extK, q_retK, q_retOK, q_iteK, q_forK, q_lp0, q_lp1, q_lpS, q_lpKn, q_lpKr, q_lpKe, q_lpKi, q_frzo, q_frzv, q_slotV, q_slotLv, q_slotLo, q_optV, q_outr, q_outn, q_oute, q_outi, q_w0, q_w1, q_sa0, q_sa1, q_stn, q_stt, q_tgn, q_tgt, q_eint, q_ebl, q_enon, q_estr, q_evar, q_eglob, q_etup, q_elst, q_ebin, q_eneg, q_enot, q_eand, q_eor, q_and1, q_and2, q_or1, q_or2, q_ecmp, q_echain, q_ecall, q_etold, q_told1, q_told2, q_told3, q_told4, q_low59, q_otold, q_eblt, q_eisi, q_eidx, q_eslc, q_erev, q_ecomp, q_es0, q_es1, q_bs0, q_bs1, q_t0, q_t1, q_iplain, q_irng, q_irng2, q_fplain, q_frng, q_frng2, q_ienum, q_izip, q_irev, q_fenum, q_fzip, q_frev, q_ovar, q_oint, q_obl, q_onon, q_ostr, q_oglob, q_otup, q_olst, q_obin, q_oneg, q_onot, q_oand, q_oor, q_ocmp, q_ochain, q_ochain3, q_ocall, q_oblt, q_oisi, q_oidx, q_oslc, q_orev, q_ometh, q_ocomp, q_odctget, q_odctidx, q_pint, q_pnon, q_pglob, q_pbin, q_pneg, q_pcall, q_pblt, q_pidx, q_pvar, q_ss0, q_ss1, q_sasg, q_sasgOlst, q_sasgOcomp, q_sasgObin, q_sasgOslc, q_sasgOrev, q_sasgOlist, q_sasgOsorted, q_sunp, q_sunpL, q_spar, q_sexpr, q_sapp, q_sext, q_sret, q_sretO, q_site, q_sfor, q_spass, q_zvar, q_zint, q_zbl, q_znon, q_zstr, q_zglob, q_ztup, q_zlst, q_zbin, q_zneg, q_znot, q_zand, q_zor, q_zcmp, q_zchain, q_zchain3, q_zcall, q_zblt, q_zisi, q_zidx, q_zslc, q_zrev, q_zmeth, q_zcomp, q_zdctget, q_zdctidx, q_zrng, q_zrng2, q_zenum, q_zzip, q_zirev, q_add, q_sub, q_mulR, q_mulL, q_fdiv, q_mod, q_neg, q_cI, q_cnI, q_cS, q_cnS, q_cB, q_cnB, q_clt, q_cle, q_cgt, q_cge, q_isN, q_isnN, q_ist, q_isnt, q_isl, q_isnl, q_isi, q_isni, q_iss, q_isns, q_isb, q_isnb, q_ixt0, q_ixl0, q_ixt1, q_ixl1, q_ixt2, q_ixl2, q_ixt3, q_ixl3, q_ixt4, q_ixl4, q_ixt5, q_ixl5, q_ixt6, q_ixl6, q_ixt7, q_ixl7, q_ixt8, q_ixl8, q_lent0, q_lenl0, q_lent1, q_lenl1, q_lent2, q_lenl2, q_lent3, q_lenl3, q_lent4, q_lenl4, q_lent5, q_lenl5, q_lent6, q_lenl6, q_lent7, q_lenl7, q_lent8, q_lenl8, q_lenTm, q_lenLm, q_bint, q_bintb, q_babs, q_blst, q_blstT, q_btup, q_btupT, q_bmin, q_bmax, q_isi_int_int, q_isi_int_bool, q_isi_int_str, q_isi_int_tuple, q_isi_int_list, q_isi_int_none, q_isi_bool_int, q_isi_bool_bool, q_isi_bool_str, q_isi_bool_tuple, q_isi_bool_list, q_isi_bool_none, q_isi_str_int, q_isi_str_bool, q_isi_str_str, q_isi_str_tuple, q_isi_str_list, q_isi_str_none, q_isi_tuple_int, q_isi_tuple_bool, q_isi_tuple_str, q_isi_tuple_tuple, q_isi_tuple_list, q_isi_tuple_none, q_isi_list_int, q_isi_list_bool, q_isi_list_str, q_isi_list_tuple, q_isi_list_list, q_isi_list_none, q_itL, q_itT, q_rng0, q_rng1, q_rng2, q_rng3, q_rng4, q_revL, q_revT, q_rvL, q_rvT, q_slT, q_slL, q_xasg, q_xret, q_xb1, q_xbL, q_xb2l, q_xb2r, q_xc2l, q_xc2r, q_xmkT, q_xmkL, q_xexpr, q_xunp, q_xite, q_xparl, q_xparr, q_xnot, q_xfor, q_xslc, q_srais, q_emeth, q_mthi, q_mthz, q_mthj, q_sel, q_seqnil, q_lpTn, q_lpTr, q_lpTe, q_lpTi, q_s_line_box, q_s_line_ring, q_s_line_field, q_s_line_row, q_s_line_group, q_s_box_line, q_s_box_ring, q_s_box_field, q_s_box_row, q_s_box_group, q_s_ring_line, q_s_ring_box, q_s_ring_field, q_s_ring_row, q_s_ring_group, q_s_field_line, q_s_field_box, q_s_field_ring, q_s_field_row, q_s_field_group, q_s_row_line, q_s_row_box, q_s_row_ring, q_s_row_field, q_s_row_group, q_s_group_line, q_s_group_box, q_s_group_ring, q_s_group_field, q_s_group_row, q_Pteta, q_Pleta, q_Mteta, q_cLL0, q_cTT0, q_cnLL0, q_cnTT0, List.getD_cons_zero, List.getD_cons_succ, List.set_cons_zero, List.set_cons_succ, List.map_cons, List.map_nil, List.cons_append, List.nil_append, List.append_assoc, List.length_cons, List.length_nil, List.length_map, List.length_append, List.replicate_succ, List.replicate_zero, ↓reduceIte, decide_eq_true_eq, Bool.not_eq_true', Bool.not_true, Bool.not_false, Bool.true_and, Bool.false_and, Bool.and_true, Bool.and_false, Bool.or_true, Bool.or_false, Bool.true_or, Bool.false_or, Bool.and_eq_true, Bool.or_eq_true, Bool.not_not, decide_eq_false_iff_not, decide_true, decide_false, Bool.false_eq_true, eq_self, not_true_eq_false, not_false_eq_true, true_and, and_true, false_and, and_false, or_true, true_or, or_false, false_or, Int.reduceAdd, Int.reduceMul, Int.reduceSub, Int.reduceNeg, Int.reduceLT, Int.reduceLE, Int.reduceEq, Int.reduceMod, Int.reduceDiv, Nat.reduceAdd, Nat.reduceSub, Int.reduceNe, $[$es:term],*])
theorem lp_appF {C : Ctx} {β γ : Type} {enc : β → PyData} {tg : Tg} {ws : List Nat} {body : DSs} (St : List γ → DEnv) (f : β → List γ) (B : Nat) (a : List γ) (xs : List β) (hB : a.length + (xs.flatMap f).length ≤ B)
    (hs : ∀ acc x, x ∈ xs → acc.length + (f x).length ≤ B → lpT ws (lpS C body (setTg tg (enc x) (St acc))) = .ok (.next (St (acc ++ f x)))) :
    lpD C tg ws body (xs.map enc) (St a) = .ok (.next (St (a ++ xs.flatMap f))) := by
  have := lp_fold (C := C) (enc := enc) (tg := tg) (ws := ws) (body := body) St (fun acc x => acc ++ f x) (fun acc ys => (∀ y ∈ ys, y ∈ xs) ∧ acc.length + (ys.flatMap f).length ≤ B) (fun acc x ys h => by
    obtain ⟨h1, h2⟩ := h
    rw [List.flatMap_cons, List.length_append] at h2
    refine ⟨⟨fun y hy => h1 y (List.mem_cons_of_mem _ hy), by rw [List.length_append]; omega⟩, hs acc x (h1 x List.mem_cons_self) (by omega)⟩) xs a ⟨fun y hy => hy, hB⟩
  rw [foldl_app] at this
  exact this
mutual
def paths : Th → List Path
  | .group ps => [] :: pathsL ps
  | .row n _ _ t => [] :: (List.range n.toNat).flatMap fun k : Nat => (paths t).map (Stp.ix k :: ·)
  | _ => [[]]
def pathsL : List (Str × Pl × Th) → List Path
  | [] => []
  | (nm, _, t) :: r => (paths t).map (Stp.nm nm :: ·) ++ pathsL r
end
theorem pathsL_eq : ∀ ps : List Pa, pathsL ps = ps.flatMap fun q => (paths q.2.2).map (Stp.nm q.1 :: ·)
  | [] => rfl
  | (nm, p, t) :: r => by rw [pathsL, pathsL_eq r, List.flatMap_cons]
theorem paths_group {ps : List Pa} : paths (.group ps) = [[]] ++ ps.flatMap fun q => (paths q.2.2).map (Stp.nm q.1 :: ·) := by rw [paths, pathsL_eq]; rfl
theorem paths_row {n x y : Int} {t : Th} : paths (.row n x y t) = [[]] ++ (List.range n.toNat).flatMap fun k : Nat => (paths t).map (Stp.ix k :: ·) := by rw [paths]; rfl
theorem paths_smp {t : Th} (h : smp t = true) : paths t = [[]] := by
  cases t <;> first | rfl | cases h
theorem paths_len (t : Th) : (paths t).length ≤ cnt t := by
  induction t using Th.ind with
  | group ps ih =>
    rw [paths_group, cnt_group, List.length_append, cntL_sum]
    have := flatMap_len (f := fun q : Pa => (paths q.2.2).map (Stp.nm q.1 :: ·)) (g := fun q => cnt q.2.2) (l := ps) fun q hq => by rw [List.length_map]; exact ih q hq
    simp only [List.length_cons, List.length_nil]; omega
  | row n x y t ih =>
    rw [paths_row, cnt_row, List.length_append]
    have := flatMap_len (f := fun k : Nat => (paths t).map (Stp.ix (k : Int) :: ·)) (g := fun _ => cnt t) (l := List.range n.toNat) fun q _ => by rw [List.length_map]; exact ih
    rw [map_const_sum, List.length_range] at this
    simp only [List.length_cons, List.length_nil]; omega
  | _ => simp [paths, cnt]
theorem paths_dep (t : Th) : ∀ p ∈ paths t, p.length ≤ dep t := by
  induction t using Th.ind with
  | group ps ih =>
    intro p hp
    rw [paths_group] at hp
    rcases List.mem_append.mp hp with h | h
    · simp at h; subst h; simp
    · obtain ⟨q, hq, h⟩ := List.mem_flatMap.mp h
      obtain ⟨r, hr, rfl⟩ := List.mem_map.mp h
      have := ih q hq r hr
      have := dep_mem hq
      rw [dep_group]; simp; omega
  | row n x y t ih =>
    intro p hp
    rw [paths_row] at hp
    rcases List.mem_append.mp hp with h | h
    · simp at h; subst h; simp
    · obtain ⟨q, hq, h⟩ := List.mem_flatMap.mp h
      obtain ⟨r, hr, rfl⟩ := List.mem_map.mp h
      have := ih r hr
      rw [dep_row]; simp; omega
  | _ => intro p hp; simp [paths] at hp; subst hp; simp
/-- every path of the laws' leads somewhere -/
theorem paths_found (t : Th) : unl t → wf t → ∀ path ∈ paths t, ∀ p, (foundFrom p t path).isSome = true := by
  induction t using Th.ind with
  | group ps ih =>
    intro hu hw path hp p
    rw [unl_group] at hu
    rw [wf_group] at hw
    rw [paths_group] at hp
    rcases List.mem_append.mp hp with h | h
    · simp at h; subst h; rfl
    · obtain ⟨q, hq, h⟩ := List.mem_flatMap.mp h
      obtain ⟨r, hr, rfl⟩ := List.mem_map.mp h
      obtain ⟨_, q', _, _, h1, _, _, hf⟩ := around (s := q.1) (List.mem_map.mpr ⟨q, hq, rfl⟩) hu.1.1
      have e : q' = q := nodup_names hu.1.1 (find_mem hf).1 hq h1
      subst e
      simp only [foundFrom, innerOf, hf, Option.map_some]
      exact ih q' hq (hu.2 q' hq) (hw q' hq).2.2 r hr _
  | row n x y t ih =>
    intro hu hw path hp p
    rw [paths_row] at hp
    rcases List.mem_append.mp hp with h | h
    · simp at h; subst h; rfl
    · obtain ⟨k, hk, h⟩ := List.mem_flatMap.mp h
      obtain ⟨r, hr, rfl⟩ := List.mem_map.mp h
      have := List.mem_range.mp hk
      simp only [foundFrom, innerOf, if_pos (show 0 ≤ (k : Int) ∧ (k : Int) < n by omega)]
      exact ih (by rw [unl] at hu; exact hu) hw.2.2 r hr _
  | _ => intro _ _ path hp p; simp [paths] at hp; subst hp; rfl
theorem add_NPs {nm : Str} {path : Path} (h : path.length ≤ 1000) : binD .add (.tuple [.str nm]) (encPath path) = .ok (encPath (Stp.nm nm :: path)) := by
  have : path.length + 1 ≤ LIM := by unfold LIM; omega
  simp [binD, addD, encPath, encStp]
  omega
theorem add_IPs {k : Int} {path : Path} (h : path.length ≤ 1000) : binD .add (.tuple [.int k]) (encPath path) = .ok (encPath (Stp.ix k :: path)) := by
  have : path.length + 1 ≤ LIM := by unfold LIM; omega
  simp [binD, addD, encPath, encStp]
  omega
theorem add_Ps {xs ys : List Path} (h : xs.length + ys.length ≤ 1000000) : binD .add (.list (xs.map encPath)) (.list (ys.map encPath)) = .ok (.list ((xs ++ ys).map encPath)) := by
  simp [binD, addD, LIM, h]
section
variable {G : Prog} {n : Nat}
theorem ev_paths (g : Has G "_law_paths" d_law_paths) (t : Th) : ∀ {n : Nat}, dep t + 2 ≤ n → dep t ≤ 900 → wf t → cnt t ≤ 1000000 → callD G n "_law_paths" [encT t] = .ok (.list ((paths t).map encPath)) := by
  induction t using Th.ind with
  | group ps ih =>
    intro n hn h9 hw hc
    have pl := paths_len (.group ps)
    have pd := paths_dep (.group ps)
    rw [wf_group] at hw
    rw [paths_group] at pl ⊢
    rw [cnt_group] at hc pl
    rw [dep_group] at hn h9
    rw [encT_group]
    refine k_go g (by omega) rfl ?_
    exists d_law_paths
    refine k_seq (lp_appF (fun acc : List Path => [.val (.tuple [.str "group", .tuple (ps.map encPa)]), .val (.list (acc.map encPath)), .un, .un, .un, .un, .un]) (fun q => (paths q.2.2).map (Stp.nm q.1 :: ·)) 1000000 [[]] ps (by rw [List.length_append] at pl; omega) fun acc q hq hB => ?_) ?_
    · have d1 := dep_mem hq
      have c1 := cnt_mem hq
      have e := ih q hq (n := n - 1) (by omega) (by omega) (hw q hq).2.2 (by omega)
      rw [List.length_map] at hB
      have pq := paths_dep q.2.2
      exists e
      rw [cmpl_map (fun r => encPath (Stp.nm q.1 :: r)) (paths q.2.2) fun r hr rs => by
        have := pq r hr
        exists add_NPs]
      rw [show (paths q.2.2).map (fun r => encPath (Stp.nm q.1 :: r)) = ((paths q.2.2).map (Stp.nm q.1 :: ·)).map encPath by rw [List.map_map]; rfl]
      exists add_Ps
    · exists True.intro
  | row m x y u ih =>
    intro n hn h9 hw hc
    have pl := paths_len (.row m x y u)
    obtain ⟨m0, m6, hw⟩ := hw
    rw [paths_row] at pl ⊢
    rw [cnt_row] at hc pl
    rw [dep_row] at hn h9
    rw [encT]
    refine k_go g (by omega) rfl ?_
    exists d_law_paths, rng_n
    refine k_seq (lp_appF (fun acc : List Path => [.val (.tuple [.str "row", .int m, .int x, .int y, encT u]), .val (.list (acc.map encPath)), .un, .un, .un, .un, .un]) (fun k : Nat => (paths u).map (Stp.ix (k : Int) :: ·)) 1000000 [[]] (List.range m.toNat) (by rw [List.length_append] at pl; omega) fun acc k hk hB => ?_) ?_
    · have k6 := List.mem_range.mp hk
      have c1 : 1 * cnt u ≤ m.toNat * cnt u := Nat.mul_le_mul_right _ (by omega)
      have e := ih (n := n - 1) (by omega) (by omega) hw (by omega)
      rw [List.length_map] at hB
      have pq := paths_dep u
      exists e
      rw [cmpl_map (fun r => encPath (Stp.ix k :: r)) (paths u) fun r hr rs => by
        have := pq r hr
        exists add_IPs]
      rw [show (paths u).map (fun r => encPath (Stp.ix k :: r)) = ((paths u).map (Stp.ix (k : Int) :: ·)).map encPath by rw [List.map_map]; rfl]
      exists add_Ps
    · exists True.intro
  | _ =>
    intro n hn h9 hw hc
    rw [paths_smp rfl, encT]
    refine k_go g (by omega) rfl ?_
    exists d_law_paths
    rfl
end
end DP

/-! ## Pat2 -/
set_option Elab.async false
set_option linter.all false
set_option maxRecDepth 100000
set_option maxHeartbeats 4000000
set_option autoImplicit false
/-! What the laws find at a path. -/
namespace DP
open PySem
local macro_rules | `(tactic| exists $es,*) => `(tactic| simp -implicitDefEqProofs (disch := first | assumption | omega | (simp only [List.length_map, List.length_append, List.length_cons, List.length_nil]; omega) | decide | (simp [nd, ndAll, PyData.depth, PyData.depthAll]; done)) only [q_b1, q_bL, q_b2, q_mkT, q_mkL, q_cons2, q_notK, q_andK, q_andKf, q_andKt, q_orK, q_orKt, q_orKf, q_chainK, q_slcK, q_tK, q_tKf, q_cmplK, q_cl0, q_cl1, q_cl1o, q_selt, q_self, q_seqn, q_seqr, q_seqe, q_seqi, q_asgK, q_asgOK, q_nxE, q_unpK, q_unpLK, q_parK, q_exprK, q_appK, q_extK, q_retK, q_retOK, q_iteK, q_forK, q_lp0, q_lp1, q_lpS, q_lpKn, q_lpKr, q_lpKe, q_lpKi, q_frzo, q_frzv, q_slotV, q_slotLv, q_slotLo, q_optV, q_outr, q_outn, q_oute, q_outi, q_w0, q_w1, q_sa0, q_sa1, q_stn, q_stt, q_tgn, q_tgt, q_eint, q_ebl, q_enon, q_estr, q_evar, q_eglob, q_etup, q_elst, q_ebin, q_eneg, q_enot, q_eand, q_eor, q_and1, q_and2, q_or1, q_or2, q_ecmp, q_echain, q_ecall, q_etold, q_told1, q_told2, q_told3, q_told4, q_low59, q_otold, q_eblt, q_eisi, q_eidx, q_eslc, q_erev, q_ecomp, q_es0, q_es1, q_bs0, q_bs1, q_t0, q_t1, q_iplain, q_irng, q_irng2, q_fplain, q_frng, q_frng2, q_ienum, q_izip, q_irev, q_fenum, q_fzip, q_frev, q_ovar, q_oint, q_obl, q_onon, q_ostr, q_oglob, q_otup, q_olst, q_obin, q_oneg, q_onot, q_oand, q_oor, q_ocmp, q_ochain, q_ochain3, q_ocall, q_oblt, q_oisi, q_oidx, q_oslc, q_orev, q_ometh, q_ocomp, q_odctget, q_odctidx, q_pint, q_pnon, q_pglob, q_pbin, q_pneg, q_pcall, q_pblt, q_pidx, q_pvar, q_ss0, q_ss1, q_sasg, q_sasgOlst, q_sasgOcomp, q_sasgObin, q_sasgOslc, q_sasgOrev, q_sasgOlist, q_sasgOsorted, q_sunp, q_sunpL, q_spar, q_sexpr, q_sapp, q_sext, q_sret, q_sretO, q_site, q_sfor, q_spass, q_zvar, q_zint, q_zbl, q_znon, q_zstr, q_zglob, q_ztup, q_zlst, q_zbin, q_zneg, q_znot, q_zand, q_zor, q_zcmp, q_zchain, q_zchain3, q_zcall, q_zblt, q_zisi, q_zidx, q_zslc, q_zrev, q_zmeth, q_zcomp, q_zdctget, q_zdctidx, q_zrng, q_zrng2, q_zenum, q_zzip, q_zirev, q_add, q_sub, q_mulR, q_mulL, q_fdiv, q_mod, q_neg, q_cI, q_cnI, q_cS, q_cnS, q_cB, q_cnB, q_clt, q_cle, q_cgt, q_cge, q_isN, q_isnN, q_ist, q_isnt, q_isl, q_isnl, q_isi, q_isni, q_iss, q_isns, q_isb, q_isnb, q_ixt0, q_ixl0, q_ixt1, q_ixl1, q_ixt2, q_ixl2, q_ixt3, q_ixl3, q_ixt4, q_ixl4, q_ixt5, q_ixl5, q_ixt6, q_ixl6, q_ixt7, q_ixl7, q_ixt8, q_ixl8, q_lent0, q_lenl0, q_lent1, q_lenl1, q_lent2, q_lenl2, q_lent3, q_lenl3, q_lent4, q_lenl4, q_lent5, q_lenl5, q_lent6, q_lenl6, q_lent7, q_lenl7, q_lent8, q_lenl8, q_lenTm, q_lenLm, q_bint, q_bintb, q_babs, q_blst, q_blstT, q_btup, q_btupT, q_bmin, q_bmax, q_isi_int_int, q_isi_int_bool, q_isi_int_str, q_isi_int_tuple, q_isi_int_list, q_isi_int_none, q_isi_bool_int, q_isi_bool_bool, q_isi_bool_str, q_isi_bool_tuple, q_isi_bool_list, q_isi_bool_none, q_isi_str_int, q_isi_str_bool, q_isi_str_str, q_isi_str_tuple, q_isi_str_list, q_isi_str_none, q_isi_tuple_int, q_isi_tuple_bool, q_isi_tuple_str, q_isi_tuple_tuple, q_isi_tuple_list, q_isi_tuple_none, q_isi_list_int, q_isi_list_bool, q_isi_list_str, q_isi_list_tuple, q_isi_list_list, q_isi_list_none, q_itL, q_itT, q_rng0, q_rng1, q_rng2, q_rng3, q_rng4, q_revL, q_revT, q_rvL, q_rvT, q_slT, q_slL, q_xasg, q_xret, q_xb1, q_xbL, q_xb2l, q_xb2r, q_xc2l, q_xc2r, q_xmkT, q_xmkL, q_xexpr, q_xunp, q_xite, q_xparl, q_xparr, q_xnot, q_xfor, q_xslc, q_srais, q_emeth, q_mthi, q_mthz, q_mthj, q_sel, q_seqnil, q_lpTn, q_lpTr, q_lpTe, q_lpTi, q_s_line_box, q_s_line_ring, q_s_line_field, q_s_line_row, q_s_line_group, q_s_box_line, q_s_box_ring, q_s_box_field, q_s_box_row, q_s_box_group, q_s_ring_line, q_s_ring_box, q_s_ring_field, q_s_ring_row, q_s_ring_group, q_s_field_line, q_s_field_box, q_s_field_ring, q_s_field_row, q_s_field_group, q_s_row_line, q_s_row_box, q_s_row_ring, q_s_row_field, q_s_row_group, q_s_group_line, q_s_group_box, q_s_group_ring, q_s_group_field, q_s_group_row, q_Pteta, q_Pleta, q_Mteta, q_cLL0, q_cTT0, q_cnLL0, q_cnTT0, List.getD_cons_zero, List.getD_cons_succ, List.set_cons_zero, List.set_cons_succ, List.map_cons, List.map_nil, List.cons_append, List.nil_append, List.append_assoc, List.length_cons, List.length_nil, List.length_map, List.length_append, List.replicate_succ, List.replicate_zero, ↓reduceIte, decide_eq_true_eq, Bool.not_eq_true', Bool.not_true, Bool.not_false, Bool.true_and, Bool.false_and, Bool.and_true, Bool.and_false, Bool.or_true, Bool.or_false, Bool.true_or, Bool.false_or, Bool.and_eq_true, Bool.or_eq_true, Bool.not_not, decide_eq_false_iff_not, decide_true, decide_false, Bool.false_eq_true, eq_self, not_true_eq_false, not_false_eq_true, true_and, and_true, false_and, and_false, or_true, true_or, or_false, false_or, Int.reduceAdd, Int.reduceMul, Int.reduceSub, Int.reduceNeg, Int.reduceLT, Int.reduceLE, Int.reduceEq, Int.reduceMod, Int.reduceDiv, Nat.reduceAdd, Nat.reduceSub, Int.reduceNe, $[$es:term],*])
theorem cmp_SI {a : Str} {i : Int} : cmpD .eq (.str a) (.int i) = .ok (.bool false) := cmp_eqv rfl rfl (by simp [PyData.depth])
theorem ndPas (ps : List Pa) : ndAll (ps.map encPa) = true := ndAll_mem ps fun x _ => by simp [nd, ndAll, nd_T]
def latR : Option (Pl × Th) → PyData
  | none => .none
  | some r => .tuple [encT r.2, encM (matrix r.1)]
def lstep (r : Pl × Th) (s : Stp) : Trn (Pl × Th) := match innerOf r.2 s with
  | some (m, t') => .nx (together r.1 m, t')
  | none => .rt .none
theorem trns_lat : ∀ (path : Path) (p : Pl) (t : Th), trns lstep path (p, t) = match foundFrom p t path with
    | some r => .nx r
    | none => .rt .none
  | [], p, t => rfl
  | s :: r, p, t => by
    rw [trns, foundFrom, lstep]
    cases h : innerOf t s with
    | none => simp only [h]
    | some z => obtain ⟨m, t'⟩ := z; simp only [h]; exact trns_lat r _ _
structure LatOk (G : Prog) : Prop extends MatOk G where
  at_ : Has G "_law_at" d_law_at
section
variable {G : Prog} {n : Nat}
theorem ev_plain (g : Has G "_law_is_plain" d_law_is_plain) (hn : 1 ≤ n) {path : Path} : callD G n "_law_is_plain" [.tuple (path.map encStp)] = .ok (.bool (!path.any isIx)) := by
  refine k_go g (by omega) rfl ?_
  exists d_law_is_plain
  rw [cmpl_filter isIx encStp path fun s _ rs => by
    cases s with
    | nm s => exists encStp, isIx
    | ix i => exists encStp, isIx]
  exists cmp_LL0 (enc_Stp.ndAll _)
  cases h : path.any isIx with
  | true =>
    obtain ⟨s, hs, hi⟩ := List.any_eq_true.mp h
    have : path.filter isIx ≠ [] := fun e => by
      have := List.mem_filter.mpr ⟨hs, hi⟩
      rw [e] at this; cases this
    simp [this]
  | false =>
    have : path.filter isIx = [] := List.filter_eq_nil_iff.mpr fun s hs hi => by
      have := List.any_eq_true.mpr ⟨s, hs, hi⟩
      rw [h] at this; cases this
    simp [this]
theorem ev_lat (g : LatOk G) (hn : 3 ≤ n) {t : Th} {path : Path} (hw : wf t) (hs : scl t < 1073741824) : callD G n "_law_at" [encT t, .tuple (path.map encStp)] = .ok (latR (foundFrom plain t path)) := by
  have gp := g.toMatOk
  refine k_go g.at_ (by omega) rfl ?_
  exists d_law_at
  refine k_seq (lp_trn (fun r : Pl × Th => [.val (encT t), .val (.tuple (path.map encStp)), .val (encT r.2), .val (encM (matrix r.1)), .un, .un, .un]) lstep (fun r _ => PlW r.1 ∧ wf r.2 ∧ r.1.s * scl r.2 < 1073741824) (fun r s xs hI => ?_) path (plain, t) ⟨plain_w, hw, by show (1 : Int) * scl t < _; omega⟩) ?_
  · obtain ⟨h1, h2, h3⟩ := hI
    obtain ⟨p, u⟩ := r
    simp only at h1 h2 h3
    have mw := matrix_w h1
    unfold lstep
    refine ⟨fun s' e => ?_, ?_⟩
    · cases z : innerOf u s with
      | none => rw [z] at e; cases e
      | some r =>
        obtain ⟨m, t'⟩ := r
        rw [z] at e
        cases e
        obtain ⟨k1, k2, k3, k4, _⟩ := inner_ok z h2 h1 h3
        exact ⟨k3, k2, k4⟩
    · cases u with
      | group ps =>
        cases s with
        | nm s =>
          rw [encStp, encT_group]
          exists True.intro
          rw [cmpl_filter (named s) encPa ps fun q _ rs => by exists enc_str.cmp (by decide), named]
          have hh := List.head?_filter (p := named s) (l := ps)
          cases hf : ps.filter (named s) with
          | nil =>
            rw [hf] at hh
            have hz : ps.find? (named s) = none := hh.symm
            exists innerOf, hz, Trn.res, Option.map_none
          | cons q r =>
            rw [hf] at hh
            have hz : ps.find? (named s) = some q := hh.symm
            have hm := (find_mem hz).1
            rw [wf_group] at h2
            obtain ⟨q1, q2, q3⟩ := h2 q hm
            rw [scl_group] at h3
            obtain ⟨b1, b2⟩ := bud_in h1 q1 q2 (scl_pos q.2.2) (scl_mem hm) h3
            have w1 : PlW q.2.1 := PlW.of q1 q2 (by
              have l1 : 1 * q.2.1.s ≤ p.s * q.2.1.s := Int.mul_le_mul_of_nonneg_right h1.s1 (by omega)
              have : p.s * q.2.1.s < 1073741824 := b2.s9
              omega)
            have hn := ndPas (q :: r)
            rw [List.map_cons] at hn
            have e5 : callD G (n - 1) "_law_both" [encM (matrix p), encM (matrix q.2.1)] = .ok (encM (mboth (matrix p) (matrix q.2.1))) := ev_mboth gp (by omega) mw
            exists e5, innerOf, hz, Trn.res, Option.map_some, cmp_LLc hn, ev_matrix gp _ w1, ev_mboth gp _ mw, together_matT h1.T q1
        | ix i =>
          rw [encStp, encT_group]
          exists True.intro
          rw [cmpl_filter (fun _ => false) encPa ps fun q _ rs => by exists cmp_SI]
          have : ps.filter (fun _ => false) = [] := by simp
          exists this, innerOf, Trn.res
      | row k x y u =>
        cases s with
        | nm s =>
          rw [encStp, encT]
          exists innerOf, Trn.res
        | ix i =>
          obtain ⟨h0, h6, _⟩ := h2
          rw [encStp, encT, innerOf]
          have hd := nd_T u
          by_cases c1 : 0 ≤ i
          · by_cases c2 : i < k
            · have hi : sm i := ⟨by omega, by omega⟩
              have w1 := step_w i x y
              have e5 : callD G (n - 1) "_law_both" [encM (matrix p), encM (matrix (stepPl i x y))] = .ok (encM (mboth (matrix p) (matrix (stepPl i x y)))) := ev_mboth gp (by omega) mw
              simp only [stepPl] at e5 w1
              exists e5, c1, c2, cmp_LLc (show ndAll [PyData.tuple [.int i, encL (stepPl i x y), encT u]] = true by simp [nd, ndAll, hd]), ev_matrix gp _ w1, ev_mboth gp _ mw, Trn.res, together_matT h1.T w1.T
            · exists c1, c2, Trn.res
          · exists c1, Trn.res
      | _ =>
        rw [encT]
        cases s <;> exists innerOf, Trn.res
  · rw [trns_lat]
    cases z : foundFrom plain t path with
    | none => exists Trn.res, latR
    | some r => exists Trn.res, latR
end
end DP

/-! ## Tld -/
set_option Elab.async false
set_option linter.all false
set_option maxRecDepth 100000
set_option maxHeartbeats 4000000
set_option autoImplicit false
/-! A path that is drawn, and what is told. -/
namespace DP
open PySem
local macro_rules | `(tactic| exists $es,*) => `(tactic| simp -implicitDefEqProofs (disch := first | assumption | omega | (simp only [List.length_map, List.length_append, List.length_cons, List.length_nil]; omega) | decide | (simp [nd, ndAll, PyData.depth, PyData.depthAll]; done)) only [q_b1, q_bL, q_b2, q_mkT, q_mkL, q_cons2, q_notK, q_andK, q_andKf, q_andKt, q_orK, q_orKt, q_orKf, q_chainK, q_slcK, q_tK, q_tKf, q_cmplK, q_cl0, q_cl1, q_cl1o, q_selt, q_self, q_seqn, q_seqr, q_seqe, q_seqi, q_asgK, q_asgOK, q_nxE, q_unpK, q_unpLK, q_parK, q_exprK, q_appK, q_extK, q_retK, q_retOK, q_iteK, q_forK, q_lp0, q_lp1, q_lpS, q_lpKn, q_lpKr, q_lpKe, q_lpKi, q_frzo, q_frzv, q_slotV, q_slotLv, q_slotLo, q_optV, q_outr, q_outn, q_oute, q_outi, q_w0, q_w1, q_sa0, q_sa1, q_stn, q_stt, q_tgn, q_tgt, q_eint, q_ebl, q_enon, q_estr, q_evar, q_eglob, q_etup, q_elst, q_ebin, q_eneg, q_enot, q_eand, q_eor, q_and1, q_and2, q_or1, q_or2, q_ecmp, q_echain, q_ecall, q_etold, q_told1, q_told2, q_told3, q_told4, q_low59, q_otold, q_eblt, q_eisi, q_eidx, q_eslc, q_erev, q_ecomp, q_es0, q_es1, q_bs0, q_bs1, q_t0, q_t1, q_iplain, q_irng, q_irng2, q_fplain, q_frng, q_frng2, q_ienum, q_izip, q_irev, q_fenum, q_fzip, q_frev, q_ovar, q_oint, q_obl, q_onon, q_ostr, q_oglob, q_otup, q_olst, q_obin, q_oneg, q_onot, q_oand, q_oor, q_ocmp, q_ochain, q_ochain3, q_ocall, q_oblt, q_oisi, q_oidx, q_oslc, q_orev, q_ometh, q_ocomp, q_odctget, q_odctidx, q_pint, q_pnon, q_pglob, q_pbin, q_pneg, q_pcall, q_pblt, q_pidx, q_pvar, q_ss0, q_ss1, q_sasg, q_sasgOlst, q_sasgOcomp, q_sasgObin, q_sasgOslc, q_sasgOrev, q_sasgOlist, q_sasgOsorted, q_sunp, q_sunpL, q_spar, q_sexpr, q_sapp, q_sext, q_sret, q_sretO, q_site, q_sfor, q_spass, q_zvar, q_zint, q_zbl, q_znon, q_zstr, q_zglob, q_ztup, q_zlst, q_zbin, q_zneg, q_znot, q_zand, q_zor, q_zcmp, q_zchain, q_zchain3, q_zcall, q_zblt, q_zisi, q_zidx, q_zslc, q_zrev, q_zmeth, q_zcomp, q_zdctget, q_zdctidx, q_zrng, q_zrng2, q_zenum, q_zzip, q_zirev, q_add, q_sub, q_mulR, q_mulL, q_fdiv, q_mod, q_neg, q_cI, q_cnI, q_cS, q_cnS, q_cB, q_cnB, q_clt, q_cle, q_cgt, q_cge, q_isN, q_isnN, q_ist, q_isnt, q_isl, q_isnl, q_isi, q_isni, q_iss, q_isns, q_isb, q_isnb, q_ixt0, q_ixl0, q_ixt1, q_ixl1, q_ixt2, q_ixl2, q_ixt3, q_ixl3, q_ixt4, q_ixl4, q_ixt5, q_ixl5, q_ixt6, q_ixl6, q_ixt7, q_ixl7, q_ixt8, q_ixl8, q_lent0, q_lenl0, q_lent1, q_lenl1, q_lent2, q_lenl2, q_lent3, q_lenl3, q_lent4, q_lenl4, q_lent5, q_lenl5, q_lent6, q_lenl6, q_lent7, q_lenl7, q_lent8, q_lenl8, q_lenTm, q_lenLm, q_bint, q_bintb, q_babs, q_blst, q_blstT, q_btup, q_btupT, q_bmin, q_bmax, q_isi_int_int, q_isi_int_bool, q_isi_int_str, q_isi_int_tuple, q_isi_int_list, q_isi_int_none, q_isi_bool_int, q_isi_bool_bool, q_isi_bool_str, q_isi_bool_tuple, q_isi_bool_list, q_isi_bool_none, q_isi_str_int, q_isi_str_bool, q_isi_str_str, q_isi_str_tuple, q_isi_str_list, q_isi_str_none, q_isi_tuple_int, q_isi_tuple_bool, q_isi_tuple_str, q_isi_tuple_tuple, q_isi_tuple_list, q_isi_tuple_none, q_isi_list_int, q_isi_list_bool, q_isi_list_str, q_isi_list_tuple, q_isi_list_list, q_isi_list_none, q_itL, q_itT, q_rng0, q_rng1, q_rng2, q_rng3, q_rng4, q_revL, q_revT, q_rvL, q_rvT, q_slT, q_slL, q_xasg, q_xret, q_xb1, q_xbL, q_xb2l, q_xb2r, q_xc2l, q_xc2r, q_xmkT, q_xmkL, q_xexpr, q_xunp, q_xite, q_xparl, q_xparr, q_xnot, q_xfor, q_xslc, q_srais, q_emeth, q_mthi, q_mthz, q_mthj, q_sel, q_seqnil, q_lpTn, q_lpTr, q_lpTe, q_lpTi, q_s_line_box, q_s_line_ring, q_s_line_field, q_s_line_row, q_s_line_group, q_s_box_line, q_s_box_ring, q_s_box_field, q_s_box_row, q_s_box_group, q_s_ring_line, q_s_ring_box, q_s_ring_field, q_s_ring_row, q_s_ring_group, q_s_field_line, q_s_field_box, q_s_field_ring, q_s_field_row, q_s_field_group, q_s_row_line, q_s_row_box, q_s_row_ring, q_s_row_field, q_s_row_group, q_s_group_line, q_s_group_box, q_s_group_ring, q_s_group_field, q_s_group_row, q_Pteta, q_Pleta, q_Mteta, q_cLL0, q_cTT0, q_cnLL0, q_cnTT0, List.getD_cons_zero, List.getD_cons_succ, List.set_cons_zero, List.set_cons_succ, List.map_cons, List.map_nil, List.cons_append, List.nil_append, List.append_assoc, List.length_cons, List.length_nil, List.length_map, List.length_append, List.replicate_succ, List.replicate_zero, ↓reduceIte, decide_eq_true_eq, Bool.not_eq_true', Bool.not_true, Bool.not_false, Bool.true_and, Bool.false_and, Bool.and_true, Bool.and_false, Bool.or_true, Bool.or_false, Bool.true_or, Bool.false_or, Bool.and_eq_true, Bool.or_eq_true, Bool.not_not, decide_eq_false_iff_not, decide_true, decide_false, Bool.false_eq_true, eq_self, not_true_eq_false, not_false_eq_true, true_and, and_true, false_and, and_false, or_true, true_or, or_false, false_or, Int.reduceAdd, Int.reduceMul, Int.reduceSub, Int.reduceNeg, Int.reduceLT, Int.reduceLE, Int.reduceEq, Int.reduceMod, Int.reduceDiv, Nat.reduceAdd, Nat.reduceSub, Int.reduceNe, $[$es:term],*])
theorem idx_memL {α : Type} {f : α → PyData} {xs : List α} (i : Int) (h : xs ≠ []) : ∃ q ∈ xs, idxD (.list (xs.map f)) (.int (i % (xs.length : Int))) = .ok (f q) := by
  cases xs with
  | nil => exact absurd rfl h
  | cons z r =>
    have h0 : 0 ≤ i % (((z :: r).length : Nat) : Int) := Int.emod_nonneg _ (by simp; try omega)
    have h1 : i % (((z :: r).length : Nat) : Int) < ((z :: r).length : Nat) := Int.emod_lt_of_pos _ (by simp; try omega)
    refine ⟨pick (z :: r) z (i % (((z :: r).length : Nat) : Int)), pick_mem h0 h1, ?_⟩
    rw [← pick_map f]
    simp only [idxD]
    rw [atI_pick (xs := (z :: r).map f) (d := f z) h0 (by simpa using h1)]
theorem paths_ne (t : Th) : paths t ≠ [] := by
  cases t with
  | group ps => rw [paths_group]; simp
  | row n x y t => rw [paths_row]; simp
  | _ => simp [paths]
theorem found_dep : ∀ {path : Path} {p : Pl} {t : Th} {r : Pl × Th}, foundFrom p t path = some r → dep r.2 ≤ dep t
  | [], _, _, _, h => by cases h; exact Nat.le_refl _
  | s :: path, p, t, w, h => by
    rw [foundFrom] at h
    cases z : innerOf t s with
    | none => rw [z] at h; cases h
    | some v =>
      obtain ⟨m, t'⟩ := v
      rw [z] at h
      refine Nat.le_trans (found_dep h) ?_
      cases t with
      | group ps =>
        cases s with
        | ix i => cases z
        | nm s =>
          simp only [innerOf, Option.map_eq_some_iff] at z
          obtain ⟨q, hq, e⟩ := z
          have := dep_mem (find_mem hq).1
          rw [e] at this
          rw [dep_group]; exact Nat.le_succ_of_le this
      | row n x y u =>
        cases s with
        | nm s => cases z
        | ix i =>
          simp only [innerOf] at z
          split at z
          · cases z; rw [dep_row]; omega
          · cases z
      | _ => cases s <;> cases z
theorem dp_told {a : Th} (h : dep a ≤ 19) : (PyData.tuple [.str "told", encT a]).depth ≤ 64 := by
  have := dp_T a
  simp [PyData.depth, PyData.depthAll]; omega
theorem cmp_told {a b : Th} [Decidable (a = b)] (h : dep a ≤ 19) : cmpD .eq (.tuple [.str "told", encT a]) (.tuple [.str "told", encT b]) = .ok (.bool (decide (a = b))) := by
  rw [cmp_eqv (by simp [nd, ndAll, nd_T]) (by simp [nd, ndAll, nd_T]) (dp_told h)]
  congr 2
  rw [Bool.eq_iff_iff]
  simp [PyData.eqv, PyData.eqvAll, eqv_T]
theorem cmp_ntold {a b : Th} [Decidable (a = b)] (h : dep a ≤ 19) : cmpD .ne (.tuple [.str "told", encT a]) (.tuple [.str "told", encT b]) = .ok (.bool (!decide (a = b))) := by
  rw [cmp_neqv (by simp [nd, ndAll, nd_T]) (by simp [nd, ndAll, nd_T]) (dp_told h)]
  congr 3
  rw [Bool.eq_iff_iff]
  simp [PyData.eqv, PyData.eqvAll, eqv_T]
theorem cmp_tolds {a : Th} (h : dep a ≤ 19) : cmpD .eq (.tuple [.str "told", encT a]) (.tuple [.str "told", encT a]) = .ok (.bool true) := by
  classical
  rw [cmp_told h]; simp
theorem cmp_ntolds {a : Th} (h : dep a ≤ 19) : cmpD .ne (.tuple [.str "told", encT a]) (.tuple [.str "told", encT a]) = .ok (.bool false) := by
  classical
  rw [cmp_ntold h]; simp
section
variable {G : Prog} {n : Nat}
theorem ev_lpath (g : Has G "_law_path" d_law_path) (gp : Has G "_law_paths" d_law_paths) (gn : Has G "_law_name" d_law_name) {t : Th} (hn : dep t + 3 ≤ n) (h9 : dep t ≤ 900) (hw : wf t) (hc : cnt t ≤ 1000000) (a : Int) : ∃ w : Path, w.length ≤ dep t + 1 ∧ callD G n "_law_path" [encT t, .int a] = .ok (encPath w) := by
  have e1 := ev_paths gp t (n := n - 1) (by omega) h9 hw hc
  have e2 : ∀ b : Int, callD G (n - 1) "_law_name" [.int b] = .ok (.str (nmOf b)) := fun b => by
    refine k_go gn (by omega) rfl ?_
    exists d_law_name, tab10
    rfl
  obtain ⟨w, hm, ew⟩ := idx_memL (f := encPath) (a / 16) (paths_ne t)
  have hl := paths_dep t w hm
  have lp : 0 < (paths t).length := List.length_pos_iff.mpr (paths_ne t)
  have a1 : binD .add (encPath w) (.tuple [.str (nmOf (a / 4096))]) = .ok (encPath (w ++ [Stp.nm (nmOf (a / 4096))])) := add_PN (by omega)
  have a2 : binD .add (encPath w) (.tuple [.int (a / 4096 % 4 - 1)]) = .ok (encPath (w ++ [Stp.ix (a / 4096 % 4 - 1)])) := add_PI (by omega)
  have a3 : binD .add (.tuple [.str (nmOf (a / 4096))]) (encPath w) = .ok (encPath (Stp.nm (nmOf (a / 4096)) :: w)) := add_NPs (by omega)
  by_cases k1 : a % 16 = 1
  · refine ⟨w ++ [Stp.nm (nmOf (a / 4096))], by simp; omega, ?_⟩
    refine k_go g (by omega) rfl ?_
    exists d_law_path, e1, e2, ew, a1, k1
  · by_cases k2 : a % 16 = 2
    · refine ⟨w ++ [Stp.ix (a / 4096 % 4 - 1)], by simp; omega, ?_⟩
      refine k_go g (by omega) rfl ?_
      exists d_law_path, e1, e2, ew, a2, k1, k2
    · by_cases k3 : a % 16 = 3
      · refine ⟨Stp.nm (nmOf (a / 4096)) :: w, by simp; omega, ?_⟩
        refine k_go g (by omega) rfl ?_
        exists d_law_path, e1, e2, ew, a3, k1, k2, k3
      · refine ⟨w, by omega, ?_⟩
        refine k_go g (by omega) rfl ?_
        exists d_law_path, e1, e2, ew, k1, k2, k3
end
end DP

/-! ## Upd -/
set_option Elab.async false
set_option linter.all false
set_option maxRecDepth 100000
set_option maxHeartbeats 4000000
set_option autoImplicit false
/-! A part's placing changed, at any path of names. -/
namespace DP
open PySem
local macro_rules | `(tactic| exists $es,*) => `(tactic| simp -implicitDefEqProofs (disch := first | assumption | omega | (simp only [List.length_map, List.length_append, List.length_cons, List.length_nil]; omega) | decide | (simp [nd, ndAll, PyData.depth, PyData.depthAll]; done)) only [q_b1, q_bL, q_b2, q_mkT, q_mkL, q_cons2, q_notK, q_andK, q_andKf, q_andKt, q_orK, q_orKt, q_orKf, q_chainK, q_slcK, q_tK, q_tKf, q_cmplK, q_cl0, q_cl1, q_cl1o, q_selt, q_self, q_seqn, q_seqr, q_seqe, q_seqi, q_asgK, q_asgOK, q_nxE, q_unpK, q_unpLK, q_parK, q_exprK, q_appK, q_extK, q_retK, q_retOK, q_iteK, q_forK, q_lp0, q_lp1, q_lpS, q_lpKn, q_lpKr, q_lpKe, q_lpKi, q_frzo, q_frzv, q_slotV, q_slotLv, q_slotLo, q_optV, q_outr, q_outn, q_oute, q_outi, q_w0, q_w1, q_sa0, q_sa1, q_stn, q_stt, q_tgn, q_tgt, q_eint, q_ebl, q_enon, q_estr, q_evar, q_eglob, q_etup, q_elst, q_ebin, q_eneg, q_enot, q_eand, q_eor, q_and1, q_and2, q_or1, q_or2, q_ecmp, q_echain, q_ecall, q_etold, q_told1, q_told2, q_told3, q_told4, q_low59, q_otold, q_eblt, q_eisi, q_eidx, q_eslc, q_erev, q_ecomp, q_es0, q_es1, q_bs0, q_bs1, q_t0, q_t1, q_iplain, q_irng, q_irng2, q_fplain, q_frng, q_frng2, q_ienum, q_izip, q_irev, q_fenum, q_fzip, q_frev, q_ovar, q_oint, q_obl, q_onon, q_ostr, q_oglob, q_otup, q_olst, q_obin, q_oneg, q_onot, q_oand, q_oor, q_ocmp, q_ochain, q_ochain3, q_ocall, q_oblt, q_oisi, q_oidx, q_oslc, q_orev, q_ometh, q_ocomp, q_odctget, q_odctidx, q_pint, q_pnon, q_pglob, q_pbin, q_pneg, q_pcall, q_pblt, q_pidx, q_pvar, q_ss0, q_ss1, q_sasg, q_sasgOlst, q_sasgOcomp, q_sasgObin, q_sasgOslc, q_sasgOrev, q_sasgOlist, q_sasgOsorted, q_sunp, q_sunpL, q_spar, q_sexpr, q_sapp, q_sext, q_sret, q_sretO, q_site, q_sfor, q_spass, q_zvar, q_zint, q_zbl, q_znon, q_zstr, q_zglob, q_ztup, q_zlst, q_zbin, q_zneg, q_znot, q_zand, q_zor, q_zcmp, q_zchain, q_zchain3, q_zcall, q_zblt, q_zisi, q_zidx, q_zslc, q_zrev, q_zmeth, q_zcomp, q_zdctget, q_zdctidx, q_zrng, q_zrng2, q_zenum, q_zzip, q_zirev, q_add, q_sub, q_mulR, q_mulL, q_fdiv, q_mod, q_neg, q_cI, q_cnI, q_cS, q_cnS, q_cB, q_cnB, q_clt, q_cle, q_cgt, q_cge, q_isN, q_isnN, q_ist, q_isnt, q_isl, q_isnl, q_isi, q_isni, q_iss, q_isns, q_isb, q_isnb, q_ixt0, q_ixl0, q_ixt1, q_ixl1, q_ixt2, q_ixl2, q_ixt3, q_ixl3, q_ixt4, q_ixl4, q_ixt5, q_ixl5, q_ixt6, q_ixl6, q_ixt7, q_ixl7, q_ixt8, q_ixl8, q_lent0, q_lenl0, q_lent1, q_lenl1, q_lent2, q_lenl2, q_lent3, q_lenl3, q_lent4, q_lenl4, q_lent5, q_lenl5, q_lent6, q_lenl6, q_lent7, q_lenl7, q_lent8, q_lenl8, q_lenTm, q_lenLm, q_bint, q_bintb, q_babs, q_blst, q_blstT, q_btup, q_btupT, q_bmin, q_bmax, q_isi_int_int, q_isi_int_bool, q_isi_int_str, q_isi_int_tuple, q_isi_int_list, q_isi_int_none, q_isi_bool_int, q_isi_bool_bool, q_isi_bool_str, q_isi_bool_tuple, q_isi_bool_list, q_isi_bool_none, q_isi_str_int, q_isi_str_bool, q_isi_str_str, q_isi_str_tuple, q_isi_str_list, q_isi_str_none, q_isi_tuple_int, q_isi_tuple_bool, q_isi_tuple_str, q_isi_tuple_tuple, q_isi_tuple_list, q_isi_tuple_none, q_isi_list_int, q_isi_list_bool, q_isi_list_str, q_isi_list_tuple, q_isi_list_list, q_isi_list_none, q_itL, q_itT, q_rng0, q_rng1, q_rng2, q_rng3, q_rng4, q_revL, q_revT, q_rvL, q_rvT, q_slT, q_slL, q_xasg, q_xret, q_xb1, q_xbL, q_xb2l, q_xb2r, q_xc2l, q_xc2r, q_xmkT, q_xmkL, q_xexpr, q_xunp, q_xite, q_xparl, q_xparr, q_xnot, q_xfor, q_xslc, q_srais, q_emeth, q_mthi, q_mthz, q_mthj, q_sel, q_seqnil, q_lpTn, q_lpTr, q_lpTe, q_lpTi, q_s_line_box, q_s_line_ring, q_s_line_field, q_s_line_row, q_s_line_group, q_s_box_line, q_s_box_ring, q_s_box_field, q_s_box_row, q_s_box_group, q_s_ring_line, q_s_ring_box, q_s_ring_field, q_s_ring_row, q_s_ring_group, q_s_field_line, q_s_field_box, q_s_field_ring, q_s_field_row, q_s_field_group, q_s_row_line, q_s_row_box, q_s_row_ring, q_s_row_field, q_s_row_group, q_s_group_line, q_s_group_box, q_s_group_ring, q_s_group_field, q_s_group_row, q_Pteta, q_Pleta, q_Mteta, q_cLL0, q_cTT0, q_cnLL0, q_cnTT0, List.getD_cons_zero, List.getD_cons_succ, List.set_cons_zero, List.set_cons_succ, List.map_cons, List.map_nil, List.cons_append, List.nil_append, List.append_assoc, List.length_cons, List.length_nil, List.length_map, List.length_append, List.replicate_succ, List.replicate_zero, ↓reduceIte, decide_eq_true_eq, Bool.not_eq_true', Bool.not_true, Bool.not_false, Bool.true_and, Bool.false_and, Bool.and_true, Bool.and_false, Bool.or_true, Bool.or_false, Bool.true_or, Bool.false_or, Bool.and_eq_true, Bool.or_eq_true, Bool.not_not, decide_eq_false_iff_not, decide_true, decide_false, Bool.false_eq_true, eq_self, not_true_eq_false, not_false_eq_true, true_and, and_true, false_and, and_false, or_true, true_or, or_false, false_or, Int.reduceAdd, Int.reduceMul, Int.reduceSub, Int.reduceNeg, Int.reduceLT, Int.reduceLE, Int.reduceEq, Int.reduceMod, Int.reduceDiv, Nat.reduceAdd, Nat.reduceSub, Int.reduceNe, $[$es:term],*])
def updA (f : Pl → Pl) (s : Str) : Path → Th → Th
  | [], .group ps => .group (updP s f ps)
  | .nm z :: r, .group ps => .group (ps.map fun q => if named z q = true then (q.1, q.2.1, updA f s r q.2.2) else q)
  | _, t => t
theorem updA_nil {f : Pl → Pl} {s : Str} {ps : List Pa} : updA f s [] (.group ps) = .group (updP s f ps) := by rw [updA]
theorem updA_cons {f : Pl → Pl} {s z : Str} {r : Path} {ps : List Pa} : updA f s (.nm z :: r) (.group ps) = .group (ps.map fun q => if named z q = true then (q.1, q.2.1, updA f s r q.2.2) else q) := by rw [updA]
/-- a path of names that leads to a group -/
theorem found_cons {z : Str} {r : Path} {p : Pl} {t : Th} {R : Pl × Th} (h : foundFrom p t (.nm z :: r) = some R) : ∃ ps q, t = .group ps ∧ ps.find? (named z) = some q ∧ foundFrom (together p q.2.1) q.2.2 r = some R := by
  rw [foundFrom] at h
  cases t with
  | group ps =>
    simp only [innerOf] at h
    cases hf : ps.find? (named z) with
    | none => rw [hf] at h; cases h
    | some q => rw [hf] at h; exact ⟨ps, q, rfl, hf, h⟩
  | _ => cases h
theorem map_one {ps : List Pa} {z : Str} {q : Pa} (hn : (ps.map (·.1)).Nodup) (hf : ps.find? (named z) = some q) {w : Pa} (hw : w ∈ ps) (hz : named z w = true) : w = q :=
  nodup_names hn hw (find_mem hf).1 ((named_eq.mp hz).trans (find_mem hf).2.symm)
section
variable {f : Pl → Pl} {s : Str}
theorem withP_upd : ∀ {pre : Path} {p p0 : Pl} {t : Th} {qs : List Pa}, foundFrom p t pre = some (p0, .group qs) → pre.any isIx = false → unl t → withP pre t (updP s f qs) = updA f s pre t
  | [], p, p0, t, qs, h, _, _ => by cases h; rw [withP, updA_nil]
  | .ix i :: r, p, p0, t, qs, h, hi, _ => by simp [isIx] at hi
  | .nm z :: r, p, p0, t, qs, h, hi, hu => by
    obtain ⟨ps, q, rfl, hf, h'⟩ := found_cons h
    rw [unl_group] at hu
    rw [withP, updA_cons]
    congr 1
    apply List.map_congr_left
    intro w hw
    split
    · rename_i hz
      have e := map_one hu.1.1 hf hw hz
      subst e
      rw [withP_upd h' (by simpa [isIx] using hi) (hu.2 w hw)]
    · rfl
theorem found_upd : ∀ {pre : Path} {p p0 : Pl} {t : Th} {qs : List Pa}, foundFrom p t pre = some (p0, .group qs) → pre.any isIx = false → foundFrom p (updA f s pre t) pre = some (p0, .group (updP s f qs))
  | [], p, p0, t, qs, h, _ => by cases h; rw [updA_nil]; rfl
  | .ix i :: r, p, p0, t, qs, h, hi => by simp [isIx] at hi
  | .nm z :: r, p, p0, t, qs, h, hi => by
    obtain ⟨ps, q, rfl, hf, h'⟩ := found_cons h
    have hz := named_eq.mpr (find_mem hf).2
    rw [updA_cons, foundFrom]
    simp only [innerOf]
    rw [List.find?_map, show (named z ∘ fun q : Pa => if named z q = true then (q.1, q.2.1, updA f s r q.2.2) else q) = named z by
      funext w; simp only [Function.comp]; split <;> rfl, hf]
    simp only [Option.map_some, hz, if_true]
    exact found_upd h' (by simpa [isIx] using hi)
theorem updA_updA {g : Pl → Pl} : ∀ (pre : Path) (t : Th), updA g s pre (updA f s pre t) = updA (fun p => g (f p)) s pre t
  | [], t => by
    cases t with
    | group ps => rw [updA_nil, updA_nil, updA_nil, upd_upd]
    | _ => rfl
  | .ix i :: r, t => by cases t <;> rfl
  | .nm z :: r, t => by
    cases t with
    | group ps =>
      rw [updA_cons, updA_cons, updA_cons, List.map_map]
      congr 1
      apply List.map_congr_left
      intro w _
      simp only [Function.comp]
      cases hz : named z w with
      | true =>
        have hz' : named z (w.1, w.2.1, updA f s r w.2.2) = true := hz
        simp only [if_true, hz', updA_updA r]
      | false => simp [hz]
    | _ => rfl
theorem updA_id : ∀ (pre : Path) (t : Th), wf t → (∀ p, PlT p → f p = p) → updA f s pre t = t
  | [], t, hw, h => by
    cases t with
    | group ps => rw [updA_nil, upd_id s fun q hq => h _ (wf_group.mp hw q hq).1]
    | _ => rfl
  | .ix i :: r, t, _, _ => by cases t <;> rfl
  | .nm z :: r, t, hw, h => by
    cases t with
    | group ps =>
      rw [updA_cons]
      congr 1
      conv => rhs; rw [← List.map_id ps]
      apply List.map_congr_left
      intro w hm
      split
      · rw [updA_id r _ (wf_group.mp hw w hm).2.2 h]; rfl
      · rfl
    | _ => rfl
end
/-! measures -/
theorem depL_map {g : Pa → Pa} : ∀ {ps : List Pa}, (∀ q ∈ ps, dep (g q).2.2 = dep q.2.2) → depL (ps.map g) = depL ps
  | [], _ => rfl
  | (nm, p, t) :: r, h => by
    have e := h _ List.mem_cons_self
    rw [List.map_cons]
    rw [depL, depL, e, depL_map fun q hq => h q (List.mem_cons_of_mem _ hq)]
theorem cntL_map {g : Pa → Pa} : ∀ {ps : List Pa}, (∀ q ∈ ps, cnt (g q).2.2 = cnt q.2.2) → cntL (ps.map g) = cntL ps
  | [], _ => rfl
  | (nm, p, t) :: r, h => by
    have e := h _ List.mem_cons_self
    rw [List.map_cons]
    rw [cntL, cntL, e, cntL_map fun q hq => h q (List.mem_cons_of_mem _ hq)]
theorem sclL_map {g : Pa → Pa} : ∀ {ps : List Pa}, (∀ q ∈ ps, (g q).2.1.s = q.2.1.s ∧ scl (g q).2.2 = scl q.2.2) → sclL (ps.map g) = sclL ps
  | [], _ => rfl
  | (nm, p, t) :: r, h => by
    obtain ⟨e, e'⟩ := h _ List.mem_cons_self
    rw [List.map_cons]
    rw [sclL, sclL, e, e', sclL_map fun q hq => h q (List.mem_cons_of_mem _ hq)]
section
variable {f : Pl → Pl} {s : Str} (hs : ∀ p, (f p).s = p.s) (hT : ∀ p, PlT p → PlT (f p))
include hs hT
theorem updA_ok : ∀ (pre : Path) (t : Th), dep (updA f s pre t) = dep t ∧ cnt (updA f s pre t) = cnt t ∧ scl (updA f s pre t) = scl t ∧ (wf t → wf (updA f s pre t)) ∧ (unl t → unl (updA f s pre t))
  | [], t => by
    cases t with
    | group ps =>
      rw [updA_nil, dep_group, cnt_group, scl_group, dep_group, cnt_group, scl_group, wf_group, wf_group, unl_group, unl_group, upd_names]
      refine ⟨congrArg (· + 1) (depL_map fun q _ => ?_), congrArg (· + 1) (cntL_map fun q _ => ?_), sclL_map fun q _ => ?_, fun h q hq => ?_, fun h => ⟨⟨h.1.1, by simpa [updP] using h.1.2⟩, fun q hq => ?_⟩⟩
      · split <;> rfl
      · split <;> rfl
      · split
        · exact ⟨hs _, rfl⟩
        · exact ⟨rfl, rfl⟩
      · obtain ⟨r, hr, rfl⟩ := List.mem_map.mp hq
        obtain ⟨h1, h2, h3⟩ := h r hr
        split
        · exact ⟨hT _ h1, by rw [hs]; exact h2, h3⟩
        · exact ⟨h1, h2, h3⟩
      · obtain ⟨r, hr, rfl⟩ := List.mem_map.mp hq
        split <;> exact h.2 r hr
    | _ => exact ⟨rfl, rfl, rfl, id, id⟩
  | .ix i :: r, t => by cases t <;> exact ⟨rfl, rfl, rfl, id, id⟩
  | .nm z :: r, t => by
    cases t with
    | group ps =>
      have ih := updA_ok r
      rw [updA_cons, dep_group, cnt_group, scl_group, dep_group, cnt_group, scl_group, wf_group, wf_group, unl_group, unl_group]
      refine ⟨congrArg (· + 1) (depL_map fun q _ => ?_), congrArg (· + 1) (cntL_map fun q _ => ?_), sclL_map fun q _ => ?_, fun h q hq => ?_, fun h => ⟨⟨?_, by simpa using h.1.2⟩, fun q hq => ?_⟩⟩
      · split
        · exact (ih _).1
        · rfl
      · split
        · exact (ih _).2.1
        · rfl
      · split
        · exact ⟨rfl, (ih _).2.2.1⟩
        · exact ⟨rfl, rfl⟩
      · obtain ⟨w, hw, rfl⟩ := List.mem_map.mp hq
        obtain ⟨h1, h2, h3⟩ := h w hw
        split
        · exact ⟨h1, h2, (ih _).2.2.2.1 h3⟩
        · exact ⟨h1, h2, h3⟩
      · rw [List.map_map]
        have : ((fun q : Pa => q.1) ∘ fun q : Pa => if named z q = true then (q.1, q.2.1, updA f s r q.2.2) else q) = fun q => q.1 := by
          funext w; simp only [Function.comp]; split <;> rfl
        rw [this]; exact h.1.1
      · obtain ⟨w, hw, rfl⟩ := List.mem_map.mp hq
        split
        · exact (ih _).2.2.2.2 (h.2 w hw)
        · exact h.2 w hw
    | _ => exact ⟨rfl, rfl, rfl, id, id⟩
end
/-! moved, turned, mirrored at a path -/
section
variable {pre : Path} {s : Str} {t : Th} {p0 : Pl} {qs : List Pa} (hf : foundFrom plain t pre = some (p0, .group qs)) (hi : pre.any isIx = false) (hu : unl t) (hs : s ∈ qs.map (·.1))
include hf hi hu hs
theorem chg_upd {f : Pl → Pl} {F : Pl → Pa → Except String (List Pa)} (hF : ∀ q ∈ qs, q.1 = s → F p0 q = .ok [(q.1, f q.2.1, q.2.2)]) : chg t (pre ++ [.nm s]) F = .ok (updA f s pre t) := by
  have hk := found_unl hf hu
  simp only at hk
  rw [unl_group] at hk
  obtain ⟨a, q, b, rfl, h1, h2, h3, h4⟩ := around hs hk.1.1
  have hm : mustN t (pre ++ [.nm s]) = .ok () := by
    unfold mustN
    rw [found_app, hf]
    simp only [Option.bind_some, foundFrom, innerOf, h4, Option.map_some]
    rw [if_neg (by simp only [List.any_append, hi]; simp [isIx])]
  have hp : partAt t (pre ++ [.nm s]) = .ok (p0, a, q, b) := by
    simp only [partAt, hm, List.getLast?_concat, List.dropLast_concat, hf, splitN_of h1 h2]
  simp only [chg, hp, hF q (by simp) h1, List.dropLast_concat]
  rw [← upd_at h1 h2 h3, withP_upd hf hi hu]
theorem moved_upd {x y : Int} {st : Int × Int} (hb : back ⟨p0.t, p0.f, p0.s, 0, 0⟩ (x, y) = some st) : moved t (pre ++ [.nm s]) x y = .ok (updA (shP st.1 st.2) s pre t) :=
  chg_upd hf hi hu hs fun q _ _ => by simp only [movePl, hb, Option.map_some, shP]
theorem turned_upd : turned t (pre ++ [.nm s]) = .ok (updA turnPl s pre t) := chg_upd hf hi hu hs fun q _ _ => rfl
theorem mirrored_upd : mirrored t (pre ++ [.nm s]) = .ok (updA flipPl s pre t) := chg_upd hf hi hu hs fun q _ _ => rfl
end
end DP

/-! ## Upd2 -/
set_option Elab.async false
set_option linter.all false
set_option maxRecDepth 100000
set_option maxHeartbeats 4000000
set_option autoImplicit false
/-! What is flat, a part moved. -/
namespace DP
open PySem
local macro_rules | `(tactic| exists $es,*) => `(tactic| simp -implicitDefEqProofs (disch := first | assumption | omega | (simp only [List.length_map, List.length_append, List.length_cons, List.length_nil]; omega) | decide | (simp [nd, ndAll, PyData.depth, PyData.depthAll]; done)) only [q_b1, q_bL, q_b2, q_mkT, q_mkL, q_cons2, q_notK, q_andK, q_andKf, q_andKt, q_orK, q_orKt, q_orKf, q_chainK, q_slcK, q_tK, q_tKf, q_cmplK, q_cl0, q_cl1, q_cl1o, q_selt, q_self, q_seqn, q_seqr, q_seqe, q_seqi, q_asgK, q_asgOK, q_nxE, q_unpK, q_unpLK, q_parK, q_exprK, q_appK, q_extK, q_retK, q_retOK, q_iteK, q_forK, q_lp0, q_lp1, q_lpS, q_lpKn, q_lpKr, q_lpKe, q_lpKi, q_frzo, q_frzv, q_slotV, q_slotLv, q_slotLo, q_optV, q_outr, q_outn, q_oute, q_outi, q_w0, q_w1, q_sa0, q_sa1, q_stn, q_stt, q_tgn, q_tgt, q_eint, q_ebl, q_enon, q_estr, q_evar, q_eglob, q_etup, q_elst, q_ebin, q_eneg, q_enot, q_eand, q_eor, q_and1, q_and2, q_or1, q_or2, q_ecmp, q_echain, q_ecall, q_etold, q_told1, q_told2, q_told3, q_told4, q_low59, q_otold, q_eblt, q_eisi, q_eidx, q_eslc, q_erev, q_ecomp, q_es0, q_es1, q_bs0, q_bs1, q_t0, q_t1, q_iplain, q_irng, q_irng2, q_fplain, q_frng, q_frng2, q_ienum, q_izip, q_irev, q_fenum, q_fzip, q_frev, q_ovar, q_oint, q_obl, q_onon, q_ostr, q_oglob, q_otup, q_olst, q_obin, q_oneg, q_onot, q_oand, q_oor, q_ocmp, q_ochain, q_ochain3, q_ocall, q_oblt, q_oisi, q_oidx, q_oslc, q_orev, q_ometh, q_ocomp, q_odctget, q_odctidx, q_pint, q_pnon, q_pglob, q_pbin, q_pneg, q_pcall, q_pblt, q_pidx, q_pvar, q_ss0, q_ss1, q_sasg, q_sasgOlst, q_sasgOcomp, q_sasgObin, q_sasgOslc, q_sasgOrev, q_sasgOlist, q_sasgOsorted, q_sunp, q_sunpL, q_spar, q_sexpr, q_sapp, q_sext, q_sret, q_sretO, q_site, q_sfor, q_spass, q_zvar, q_zint, q_zbl, q_znon, q_zstr, q_zglob, q_ztup, q_zlst, q_zbin, q_zneg, q_znot, q_zand, q_zor, q_zcmp, q_zchain, q_zchain3, q_zcall, q_zblt, q_zisi, q_zidx, q_zslc, q_zrev, q_zmeth, q_zcomp, q_zdctget, q_zdctidx, q_zrng, q_zrng2, q_zenum, q_zzip, q_zirev, q_add, q_sub, q_mulR, q_mulL, q_fdiv, q_mod, q_neg, q_cI, q_cnI, q_cS, q_cnS, q_cB, q_cnB, q_clt, q_cle, q_cgt, q_cge, q_isN, q_isnN, q_ist, q_isnt, q_isl, q_isnl, q_isi, q_isni, q_iss, q_isns, q_isb, q_isnb, q_ixt0, q_ixl0, q_ixt1, q_ixl1, q_ixt2, q_ixl2, q_ixt3, q_ixl3, q_ixt4, q_ixl4, q_ixt5, q_ixl5, q_ixt6, q_ixl6, q_ixt7, q_ixl7, q_ixt8, q_ixl8, q_lent0, q_lenl0, q_lent1, q_lenl1, q_lent2, q_lenl2, q_lent3, q_lenl3, q_lent4, q_lenl4, q_lent5, q_lenl5, q_lent6, q_lenl6, q_lent7, q_lenl7, q_lent8, q_lenl8, q_lenTm, q_lenLm, q_bint, q_bintb, q_babs, q_blst, q_blstT, q_btup, q_btupT, q_bmin, q_bmax, q_isi_int_int, q_isi_int_bool, q_isi_int_str, q_isi_int_tuple, q_isi_int_list, q_isi_int_none, q_isi_bool_int, q_isi_bool_bool, q_isi_bool_str, q_isi_bool_tuple, q_isi_bool_list, q_isi_bool_none, q_isi_str_int, q_isi_str_bool, q_isi_str_str, q_isi_str_tuple, q_isi_str_list, q_isi_str_none, q_isi_tuple_int, q_isi_tuple_bool, q_isi_tuple_str, q_isi_tuple_tuple, q_isi_tuple_list, q_isi_tuple_none, q_isi_list_int, q_isi_list_bool, q_isi_list_str, q_isi_list_tuple, q_isi_list_list, q_isi_list_none, q_itL, q_itT, q_rng0, q_rng1, q_rng2, q_rng3, q_rng4, q_revL, q_revT, q_rvL, q_rvT, q_slT, q_slL, q_xasg, q_xret, q_xb1, q_xbL, q_xb2l, q_xb2r, q_xc2l, q_xc2r, q_xmkT, q_xmkL, q_xexpr, q_xunp, q_xite, q_xparl, q_xparr, q_xnot, q_xfor, q_xslc, q_srais, q_emeth, q_mthi, q_mthz, q_mthj, q_sel, q_seqnil, q_lpTn, q_lpTr, q_lpTe, q_lpTi, q_s_line_box, q_s_line_ring, q_s_line_field, q_s_line_row, q_s_line_group, q_s_box_line, q_s_box_ring, q_s_box_field, q_s_box_row, q_s_box_group, q_s_ring_line, q_s_ring_box, q_s_ring_field, q_s_ring_row, q_s_ring_group, q_s_field_line, q_s_field_box, q_s_field_ring, q_s_field_row, q_s_field_group, q_s_row_line, q_s_row_box, q_s_row_ring, q_s_row_field, q_s_row_group, q_s_group_line, q_s_group_box, q_s_group_ring, q_s_group_field, q_s_group_row, q_Pteta, q_Pleta, q_Mteta, q_cLL0, q_cTT0, q_cnLL0, q_cnTT0, List.getD_cons_zero, List.getD_cons_succ, List.set_cons_zero, List.set_cons_succ, List.map_cons, List.map_nil, List.cons_append, List.nil_append, List.append_assoc, List.length_cons, List.length_nil, List.length_map, List.length_append, List.replicate_succ, List.replicate_zero, ↓reduceIte, decide_eq_true_eq, Bool.not_eq_true', Bool.not_true, Bool.not_false, Bool.true_and, Bool.false_and, Bool.and_true, Bool.and_false, Bool.or_true, Bool.or_false, Bool.true_or, Bool.false_or, Bool.and_eq_true, Bool.or_eq_true, Bool.not_not, decide_eq_false_iff_not, decide_true, decide_false, Bool.false_eq_true, eq_self, not_true_eq_false, not_false_eq_true, true_and, and_true, false_and, and_false, or_true, true_or, or_false, false_or, Int.reduceAdd, Int.reduceMul, Int.reduceSub, Int.reduceNeg, Int.reduceLT, Int.reduceLE, Int.reduceEq, Int.reduceMod, Int.reduceDiv, Nat.reduceAdd, Nat.reduceSub, Int.reduceNe, $[$es:term],*])
abbrev mvP (x y : Int) : Pl := ⟨0, 0, 1, x, y⟩
theorem mv_T (x y : Int) : PlT (mvP x y) := ⟨Int.le_refl 0, (by decide : (0 : Int) ≤ 3), .inl rfl⟩
theorem put_add {p : Pl} (h : PlT p) (a b x y : Int) : put p (a + x, b + y) = ((put p (a, b)).1 + (put ⟨p.t, p.f, p.s, 0, 0⟩ (x, y)).1, (put p (a, b)).2 + (put ⟨p.t, p.f, p.s, 0, 0⟩ (x, y)).2) := by
  obtain ⟨t, f, s, u, v⟩ := p
  obtain ⟨h0, h3, hf⟩ := h
  simp only at h0 h3 hf
  rcases t_cases h0 h3 with rfl | rfl | rfl | rfl <;> rcases hf with rfl | rfl <;> simp [put, rot, flp, Int.add_mul, Int.neg_mul] <;> constructor <;> omega
theorem tog_sh {p q : Pl} (h : PlT p) {x y X Y : Int} (e : put ⟨p.t, p.f, p.s, 0, 0⟩ (x, y) = (X, Y)) : together p (shP x y q) = together (mvP X Y) (together p q) := by
  have T := together_T p q
  have a := put_add h q.x q.y x y
  rw [e] at a
  simp only at a
  obtain ⟨t0, t3, tf⟩ := T
  simp only [together] at t0 t3 tf
  simp only [together, shP, mvP, a, Pl.mk.injEq]
  refine ⟨?_, ?_, ?_, ?_, ?_⟩
  · omega
  · omega
  · omega
  · simp [put, rot, flp]
  · simp [put, rot, flp]
theorem flat_pre (t : Th) : ∀ (p : Pl) (P : Path), ∀ r ∈ flat t p P, P <+: r.1 := by
  induction t using Th.ind with
  | group ps ih =>
    intro p P r hr
    rw [flat_group] at hr
    obtain ⟨q, hq, hr⟩ := List.mem_flatMap.mp hr
    exact (List.prefix_append _ _).trans (ih q hq _ _ r hr)
  | row n x y t ih =>
    intro p P r hr
    rw [flat_row] at hr
    obtain ⟨q, hq, hr⟩ := List.mem_flatMap.mp hr
    exact (List.prefix_append _ _).trans (ih _ _ r hr)
  | _ => intro p P r hr; rw [flat_smp rfl] at hr; simp at hr; subst hr; exact List.prefix_rfl
theorem not_pre {P w x : Path} {a z : Str} (h : a ≠ z) (hp : P ++ [Stp.nm a] <+: x) : ¬ (P ++ Stp.nm z :: w <+: x) := by
  rintro ⟨y, rfl⟩
  obtain ⟨y', e⟩ := hp
  simp only [List.append_assoc, List.cons_append, List.nil_append] at e
  have := List.append_cancel_left e
  simp at this
  exact h this.1
/-- the rows of a part, moved -/
def mvR (path : Path) (x y : Int) (r : Rw) : Rw := if path.isPrefixOf r.1 = true then (r.1, shPut (mvP x y) r.2) else r
theorem map_id_of {α : Type} {f : α → α} {l : List α} (h : ∀ x ∈ l, f x = x) : l.map f = l := by
  conv => rhs; rw [← List.map_id l]
  exact List.map_congr_left fun x hx => h x hx
theorem flat_upd {s : Str} {x y X Y : Int} : ∀ {pre : Path} {p p0 : Pl} {t : Th} {qs : List Pa} (P : Path), foundFrom p t pre = some (p0, .group qs) → pre.any isIx = false → unl t → wf t → PlT p → PlT p0 → put ⟨p0.t, p0.f, p0.s, 0, 0⟩ (x, y) = (X, Y) →
    flat (updA (shP x y) s pre t) p P = (flat t p P).map (mvR (P ++ (pre ++ [.nm s])) X Y)
  | [], p, p0, t, qs, P, h, hi, hu, hw, hp, hp0, e => by
    cases h
    rw [wf_group] at hw
    rw [updA_nil, flat_group, flat_group, updP, List.flatMap_map, List.map_flatMap]
    refine flatMap_congr fun q hq => ?_
    by_cases hz : named s q = true
    · have hs := named_eq.mp hz
      simp only [hz, if_true]
      rw [tog_sh hp e, ← List.nil_append (P ++ [Stp.nm q.1]), flat_tog _ [] _ (hw q hq).2.2 (mv_T X Y) (by decide : (0 : Int) ≤ 1) (together_T _ _)]
      refine List.map_congr_left fun r hr => ?_
      have hpr := flat_pre _ _ _ r hr
      rw [hs] at hpr
      simp only [List.nil_append, mvR, rwPut]
      rw [if_pos (List.isPrefixOf_iff_prefix.mpr hpr)]
    · simp only [Bool.not_eq_true] at hz
      simp only [hz, Bool.false_eq_true, if_false]
      refine (map_id_of fun r hr => ?_).symm
      have hpr := flat_pre _ _ _ r hr
      rw [mvR, if_neg fun hc => not_pre (named_ne.mp hz) hpr (List.isPrefixOf_iff_prefix.mp (by simpa using hc))]
  | .ix i :: r, p, p0, t, qs, P, h, hi, _, _, _, _, _ => by simp [isIx] at hi
  | .nm z :: r, p, p0, t, qs, P, h, hi, hu, hw, hp, hp0, e => by
    obtain ⟨ps, q, rfl, hf, h'⟩ := found_cons h
    rw [unl_group] at hu
    rw [wf_group] at hw
    rw [updA_cons, flat_group, flat_group, List.flatMap_map, List.map_flatMap]
    refine flatMap_congr fun w hwm => ?_
    by_cases hz : named z w = true
    · have ew := map_one hu.1.1 hf hwm hz
      subst ew
      simp only [hz, if_true]
      rw [flat_upd (P ++ [Stp.nm w.1]) h' (by simpa [isIx] using hi) (hu.2 w hwm) (hw w hwm).2.2 (together_T _ _) hp0 e, named_eq.mp hz]
      simp
    · simp only [Bool.not_eq_true] at hz
      simp only [hz, Bool.false_eq_true, if_false]
      refine (map_id_of fun r hr => ?_).symm
      have hpr := flat_pre _ _ _ r hr
      rw [mvR, if_neg fun hc => not_pre (named_ne.mp hz) hpr (List.isPrefixOf_iff_prefix.mp (by simpa using hc))]
/-! steps back -/
theorem unrot_neg : ∀ (k : Nat) (a b : Int), unrot k (-a, -b) = (-(unrot k (a, b)).1, -(unrot k (a, b)).2)
  | 0, a, b => rfl
  | k + 1, a, b => by
    rw [unrot, unrot]
    exact unrot_neg k b (-a)
theorem back_mul {p : Pl} (hs : 1 ≤ p.s) (x y : Int) : back ⟨p.t, p.f, p.s, 0, 0⟩ (x * p.s, y * p.s) = some (flp p.f (unrot p.t.toNat (x, y))) := by
  have h0 : p.s ≠ 0 := by omega
  simp [back, Int.mul_emod_left, Int.mul_ediv_cancel _ h0]
theorem flp_neg (f a b : Int) : flp f (-a, -b) = (-(flp f (a, b)).1, -(flp f (a, b)).2) := by unfold flp; split <;> rfl
end DP

/-! ## Mvd -/
set_option Elab.async false
set_option linter.all false
set_option maxRecDepth 100000
set_option maxHeartbeats 4000000
set_option autoImplicit false
/-! What the laws change at a path. -/
namespace DP
open PySem
local macro_rules | `(tactic| exists $es,*) => `(tactic| simp -implicitDefEqProofs (disch := first | assumption | omega | (simp only [List.length_map, List.length_append, List.length_cons, List.length_nil]; omega) | decide | (simp [nd, ndAll, PyData.depth, PyData.depthAll]; done)) only [q_b1, q_bL, q_b2, q_mkT, q_mkL, q_cons2, q_notK, q_andK, q_andKf, q_andKt, q_orK, q_orKt, q_orKf, q_chainK, q_slcK, q_tK, q_tKf, q_cmplK, q_cl0, q_cl1, q_cl1o, q_selt, q_self, q_seqn, q_seqr, q_seqe, q_seqi, q_asgK, q_asgOK, q_nxE, q_unpK, q_unpLK, q_parK, q_exprK, q_appK, q_extK, q_retK, q_retOK, q_iteK, q_forK, q_lp0, q_lp1, q_lpS, q_lpKn, q_lpKr, q_lpKe, q_lpKi, q_frzo, q_frzv, q_slotV, q_slotLv, q_slotLo, q_optV, q_outr, q_outn, q_oute, q_outi, q_w0, q_w1, q_sa0, q_sa1, q_stn, q_stt, q_tgn, q_tgt, q_eint, q_ebl, q_enon, q_estr, q_evar, q_eglob, q_etup, q_elst, q_ebin, q_eneg, q_enot, q_eand, q_eor, q_and1, q_and2, q_or1, q_or2, q_ecmp, q_echain, q_ecall, q_etold, q_told1, q_told2, q_told3, q_told4, q_low59, q_otold, q_eblt, q_eisi, q_eidx, q_eslc, q_erev, q_ecomp, q_es0, q_es1, q_bs0, q_bs1, q_t0, q_t1, q_iplain, q_irng, q_irng2, q_fplain, q_frng, q_frng2, q_ienum, q_izip, q_irev, q_fenum, q_fzip, q_frev, q_ovar, q_oint, q_obl, q_onon, q_ostr, q_oglob, q_otup, q_olst, q_obin, q_oneg, q_onot, q_oand, q_oor, q_ocmp, q_ochain, q_ochain3, q_ocall, q_oblt, q_oisi, q_oidx, q_oslc, q_orev, q_ometh, q_ocomp, q_odctget, q_odctidx, q_pint, q_pnon, q_pglob, q_pbin, q_pneg, q_pcall, q_pblt, q_pidx, q_pvar, q_ss0, q_ss1, q_sasg, q_sasgOlst, q_sasgOcomp, q_sasgObin, q_sasgOslc, q_sasgOrev, q_sasgOlist, q_sasgOsorted, q_sunp, q_sunpL, q_spar, q_sexpr, q_sapp, q_sext, q_sret, q_sretO, q_site, q_sfor, q_spass, q_zvar, q_zint, q_zbl, q_znon, q_zstr, q_zglob, q_ztup, q_zlst, q_zbin, q_zneg, q_znot, q_zand, q_zor, q_zcmp, q_zchain, q_zchain3, q_zcall, q_zblt, q_zisi, q_zidx, q_zslc, q_zrev, q_zmeth, q_zcomp, q_zdctget, q_zdctidx, q_zrng, q_zrng2, q_zenum, q_zzip, q_zirev, q_add, q_sub, q_mulR, q_mulL, q_fdiv, q_mod, q_neg, q_cI, q_cnI, q_cS, q_cnS, q_cB, q_cnB, q_clt, q_cle, q_cgt, q_cge, q_isN, q_isnN, q_ist, q_isnt, q_isl, q_isnl, q_isi, q_isni, q_iss, q_isns, q_isb, q_isnb, q_ixt0, q_ixl0, q_ixt1, q_ixl1, q_ixt2, q_ixl2, q_ixt3, q_ixl3, q_ixt4, q_ixl4, q_ixt5, q_ixl5, q_ixt6, q_ixl6, q_ixt7, q_ixl7, q_ixt8, q_ixl8, q_lent0, q_lenl0, q_lent1, q_lenl1, q_lent2, q_lenl2, q_lent3, q_lenl3, q_lent4, q_lenl4, q_lent5, q_lenl5, q_lent6, q_lenl6, q_lent7, q_lenl7, q_lent8, q_lenl8, q_lenTm, q_lenLm, q_bint, q_bintb, q_babs, q_blst, q_blstT, q_btup, q_btupT, q_bmin, q_bmax, q_isi_int_int, q_isi_int_bool, q_isi_int_str, q_isi_int_tuple, q_isi_int_list, q_isi_int_none, q_isi_bool_int, q_isi_bool_bool, q_isi_bool_str, q_isi_bool_tuple, q_isi_bool_list, q_isi_bool_none, q_isi_str_int, q_isi_str_bool, q_isi_str_str, q_isi_str_tuple, q_isi_str_list, q_isi_str_none, q_isi_tuple_int, q_isi_tuple_bool, q_isi_tuple_str, q_isi_tuple_tuple, q_isi_tuple_list, q_isi_tuple_none, q_isi_list_int, q_isi_list_bool, q_isi_list_str, q_isi_list_tuple, q_isi_list_list, q_isi_list_none, q_itL, q_itT, q_rng0, q_rng1, q_rng2, q_rng3, q_rng4, q_revL, q_revT, q_rvL, q_rvT, q_slT, q_slL, q_xasg, q_xret, q_xb1, q_xbL, q_xb2l, q_xb2r, q_xc2l, q_xc2r, q_xmkT, q_xmkL, q_xexpr, q_xunp, q_xite, q_xparl, q_xparr, q_xnot, q_xfor, q_xslc, q_srais, q_emeth, q_mthi, q_mthz, q_mthj, q_sel, q_seqnil, q_lpTn, q_lpTr, q_lpTe, q_lpTi, q_s_line_box, q_s_line_ring, q_s_line_field, q_s_line_row, q_s_line_group, q_s_box_line, q_s_box_ring, q_s_box_field, q_s_box_row, q_s_box_group, q_s_ring_line, q_s_ring_box, q_s_ring_field, q_s_ring_row, q_s_ring_group, q_s_field_line, q_s_field_box, q_s_field_ring, q_s_field_row, q_s_field_group, q_s_row_line, q_s_row_box, q_s_row_ring, q_s_row_field, q_s_row_group, q_s_group_line, q_s_group_box, q_s_group_ring, q_s_group_field, q_s_group_row, q_Pteta, q_Pleta, q_Mteta, q_cLL0, q_cTT0, q_cnLL0, q_cnTT0, List.getD_cons_zero, List.getD_cons_succ, List.set_cons_zero, List.set_cons_succ, List.map_cons, List.map_nil, List.cons_append, List.nil_append, List.append_assoc, List.length_cons, List.length_nil, List.length_map, List.length_append, List.replicate_succ, List.replicate_zero, ↓reduceIte, decide_eq_true_eq, Bool.not_eq_true', Bool.not_true, Bool.not_false, Bool.true_and, Bool.false_and, Bool.and_true, Bool.and_false, Bool.or_true, Bool.or_false, Bool.true_or, Bool.false_or, Bool.and_eq_true, Bool.or_eq_true, Bool.not_not, decide_eq_false_iff_not, decide_true, decide_false, Bool.false_eq_true, eq_self, not_true_eq_false, not_false_eq_true, true_and, and_true, false_and, and_false, or_true, true_or, or_false, false_or, Int.reduceAdd, Int.reduceMul, Int.reduceSub, Int.reduceNeg, Int.reduceLT, Int.reduceLE, Int.reduceEq, Int.reduceMod, Int.reduceDiv, Nat.reduceAdd, Nat.reduceSub, Int.reduceNe, $[$es:term],*])
/-- a part moved, by the matrix around -/
theorem movePl_eq {p0 p : Pl} (h : PlW p0) (x y : Int) : movePl p0 p x y = if x % p0.s ≠ 0 ∨ y % p0.s ≠ 0 then none else some ⟨p.t, p.f, p.s, p.x + ((matrix p0).a * x + (matrix p0).c * y) / (p0.s * p0.s), p.y + ((matrix p0).b * x + (matrix p0).d * y) / (p0.s * p0.s)⟩ := by
  have hs := h.s1
  have h0 : p0.s ≠ 0 := by omega
  have h00 : p0.s * p0.s ≠ 0 := Int.mul_ne_zero h0 h0
  by_cases hc : x % p0.s ≠ 0 ∨ y % p0.s ≠ 0
  · rw [if_pos hc]
    simp only [movePl, back]
    rw [if_pos (by simpa using hc)]; rfl
  · rw [if_neg hc]
    have hx : x % p0.s = 0 := by omega
    have hy : y % p0.s = 0 := by omega
    obtain ⟨u, rfl⟩ := Int.dvd_of_emod_eq_zero hx
    obtain ⟨v, rfl⟩ := Int.dvd_of_emod_eq_zero hy
    have key : ∀ a b : Int, (a * p0.s * (p0.s * u) + b * p0.s * (p0.s * v)) / (p0.s * p0.s) = a * u + b * v := fun a b => by
      rw [show a * p0.s * (p0.s * u) + b * p0.s * (p0.s * v) = (a * u + b * v) * (p0.s * p0.s) by grind]
      exact Int.mul_ediv_cancel _ h00
    have e := back_mul (p := p0) hs u v
    rw [Int.mul_comm u, Int.mul_comm v] at e
    rw [movePl, e]
    simp only [matrix, Option.map_some, key]
    obtain ⟨t, f, s, x, y⟩ := p0
    have t0 := h.t0
    have t3 := h.t3
    have hf := h.f
    simp only at t0 t3 hf
    rcases t_cases t0 t3 with rfl | rfl | rfl | rfl <;> rcases hf with rfl | rfl <;> simp [cosT, sinT, unrot, flp]
/-! measures of a sheet with other parts -/
theorem withP_ok {parts : List Pa} : ∀ {pre : Path} {p p0 : Pl} {t : Th} {qs : List Pa}, foundFrom p t pre = some (p0, .group qs) → pre.any isIx = false → unl t → wf t → depL parts ≤ depL qs → cntL parts ≤ cntL qs → sclL parts ≤ sclL qs → wf (.group parts) →
    dep (withP pre t parts) ≤ dep t ∧ cnt (withP pre t parts) ≤ cnt t ∧ scl (withP pre t parts) ≤ scl t ∧ wf (withP pre t parts)
  | [], p, p0, t, qs, h, _, _, _, h1, h2, h3, h4 => by
    cases h
    rw [withP, dep_group, dep_group, cnt_group, cnt_group, scl_group, scl_group]
    exact ⟨by omega, by omega, h3, h4⟩
  | .ix i :: r, p, p0, t, qs, h, hi, _, _, _, _, _, _ => by simp [isIx] at hi
  | .nm z :: r, p, p0, t, qs, h, hi, hu, hw, h1, h2, h3, h4 => by
    obtain ⟨ps, q, rfl, hf, h'⟩ := found_cons h
    rw [unl_group] at hu
    rw [wf_group] at hw
    have ih := withP_ok h' (by simpa [isIx] using hi) (hu.2 q (find_mem hf).1) (hw q (find_mem hf).1).2.2 h1 h2 h3 h4
    obtain ⟨i1, i2, i3, i4⟩ := ih
    rw [withP, dep_group, dep_group, cnt_group, cnt_group, scl_group, scl_group, wf_group]
    have one : ∀ w ∈ ps, named z w = true → w = q := fun w hw hz => map_one hu.1.1 hf hw hz
    refine ⟨?_, ?_, ?_, fun w hw' => ?_⟩
    · refine Nat.succ_le_succ (depL_le fun w hw' => ?_)
      obtain ⟨v, hv, rfl⟩ := List.mem_map.mp hw'
      split
      · rename_i hz
        rw [one v hv hz]
        exact Nat.le_trans i1 (dep_mem (find_mem hf).1)
      · exact dep_mem hv
    · refine Nat.succ_le_succ ?_
      have : ∀ l : List Pa, (∀ w ∈ l, named z w = true → w = q) → cntL (l.map fun q => if named z q = true then (q.1, q.2.1, withP r q.2.2 parts) else q) ≤ cntL l := by
        intro l
        induction l with
        | nil => intro _; exact Nat.le_refl _
        | cons v l ihl =>
          intro hl
          obtain ⟨a, b, c⟩ := v
          have := ihl fun w hw => hl w (List.mem_cons_of_mem _ hw)
          rw [List.map_cons]
          split
          · rename_i hz
            have e := hl _ List.mem_cons_self hz
            rw [cntL, cntL]
            rw [← e] at i2
            simp only at i2
            simp only
            omega
          · rw [cntL, cntL]; omega
      exact this ps one
    · refine sclL_le (sclL_pos ps) fun w hw' => ?_
      obtain ⟨v, hv, rfl⟩ := List.mem_map.mp hw'
      split
      · rename_i hz
        rw [one v hv hz]
        have := (hw q (find_mem hf).1).2.1
        show q.2.1.s * scl (withP r q.2.2 parts) ≤ _
        exact Int.le_trans (Int.mul_le_mul_of_nonneg_left i3 (by omega)) (scl_mem (find_mem hf).1)
      · exact scl_mem hv
    · obtain ⟨v, hv, rfl⟩ := List.mem_map.mp hw'
      split
      · rename_i hz
        rw [one v hv hz]
        exact ⟨(hw q (find_mem hf).1).1, (hw q (find_mem hf).1).2.1, i4⟩
      · exact hw v hv
theorem withP_dep {parts : List Pa} : ∀ {pre : Path} {p p0 : Pl} {t : Th} {qs : List Pa}, foundFrom p t pre = some (p0, .group qs) → pre.any isIx = false → unl t → depL parts ≤ depL qs → dep (withP pre t parts) ≤ dep t
  | [], p, p0, t, qs, h, _, _, h1 => by
    cases h
    rw [withP, dep_group, dep_group]
    omega
  | .ix i :: r, p, p0, t, qs, h, hi, _, _ => by simp [isIx] at hi
  | .nm z :: r, p, p0, t, qs, h, hi, hu, h1 => by
    obtain ⟨ps, q, rfl, hf, h'⟩ := found_cons h
    rw [unl_group] at hu
    have i1 := withP_dep h' (by simpa [isIx] using hi) (hu.2 q (find_mem hf).1) h1
    rw [withP, dep_group, dep_group]
    refine Nat.succ_le_succ (depL_le fun w hw' => ?_)
    obtain ⟨v, hv, rfl⟩ := List.mem_map.mp hw'
    split
    · rename_i hz
      rw [map_one hu.1.1 hf hv hz]
      exact Nat.le_trans i1 (dep_mem (find_mem hf).1)
    · exact dep_mem hv
theorem chg_dep {pre : Path} {p p0 : Pl} {t : Th} {a b zs : List Pa} {q : Pa} (h : foundFrom p t pre = some (p0, .group (a ++ q :: b))) (hi : pre.any isIx = false) (hu : unl t) (hz : ∀ z ∈ zs, dep z.2.2 ≤ dep q.2.2) : dep (withP pre t (a ++ zs ++ b)) ≤ dep t :=
  withP_dep h hi hu (depL_le fun w hw => by
    rcases List.mem_append.mp hw with hw | hw
    · rcases List.mem_append.mp hw with hw | hw
      · exact dep_mem (List.mem_append.mpr (.inl hw))
      · exact Nat.le_trans (hz w hw) (dep_mem (by simp))
    · exact dep_mem (by simp [hw]))
/-- what stands in a flat sheet without a part -/
theorem flat_del {s : Str} {a b : List Pa} {q0 : Pa} (hq : q0.1 = s) (ha : ∀ z ∈ a, z.1 ≠ s) (hb : ∀ z ∈ b, z.1 ≠ s) : ∀ {pre : Path} {p p0 : Pl} {t : Th} (P : Path), foundFrom p t pre = some (p0, .group (a ++ q0 :: b)) → pre.any isIx = false → unl t →
    flat (withP pre t (a ++ b)) p P = (flat t p P).filter (fun r => !(P ++ (pre ++ [Stp.nm s])).isPrefixOf r.1)
  | [], p, p0, t, P, h, hi, hu => by
    cases h
    have keep : ∀ l : List Pa, (∀ z ∈ l, z.1 ≠ s) → (l.flatMap fun q => flat q.2.2 (together p q.2.1) (P ++ [Stp.nm q.1])).filter (fun r : Rw => !(P ++ ([] ++ [Stp.nm s])).isPrefixOf r.1) = l.flatMap fun q => flat q.2.2 (together p q.2.1) (P ++ [Stp.nm q.1]) := fun l hl => by
      refine List.filter_eq_self.mpr fun r hr => ?_
      obtain ⟨q, hq, hr⟩ := List.mem_flatMap.mp hr
      have hpr := flat_pre _ _ _ r hr
      simp only [Bool.not_eq_true', Bool.eq_false_iff]
      intro hc
      exact not_pre (hl q hq) hpr (List.isPrefixOf_iff_prefix.mp (by simpa using hc))
    rw [withP, flat_group, flat_group, List.flatMap_append, List.flatMap_append, List.flatMap_cons, List.filter_append, List.filter_append, keep a ha, keep b hb]
    have : (flat q0.2.2 (together p q0.2.1) (P ++ [Stp.nm q0.1])).filter (fun r : Rw => !(P ++ ([] ++ [Stp.nm s])).isPrefixOf r.1) = [] := by
      refine List.filter_eq_nil_iff.mpr fun r hr => ?_
      have hpr := flat_pre _ _ _ r hr
      rw [hq] at hpr
      simp only [List.nil_append, Bool.not_eq_true', Bool.not_eq_false]
      exact List.isPrefixOf_iff_prefix.mpr hpr
    rw [this, List.nil_append]
  | .ix i :: r, p, p0, t, P, h, hi, _ => by simp [isIx] at hi
  | .nm z :: r, p, p0, t, P, h, hi, hu => by
    obtain ⟨ps, q, rfl, hf, h'⟩ := found_cons h
    rw [unl_group] at hu
    rw [withP, flat_group, flat_group, List.flatMap_map, List.filter_flatMap]
    refine flatMap_congr fun w hwm => ?_
    by_cases hz : named z w = true
    · have ew := map_one hu.1.1 hf hwm hz
      subst ew
      simp only [hz, if_true]
      rw [flat_del hq ha hb (P ++ [Stp.nm w.1]) h' (by simpa [isIx] using hi) (hu.2 w hwm), named_eq.mp hz]
      simp
    · simp only [Bool.not_eq_true] at hz
      simp only [hz, Bool.false_eq_true, if_false]
      refine (List.filter_eq_self.mpr fun r hr => ?_).symm
      have hpr := flat_pre _ _ _ r hr
      simp only [Bool.not_eq_true', Bool.eq_false_iff]
      intro hc
      exact not_pre (named_ne.mp hz) hpr (List.isPrefixOf_iff_prefix.mp (by simpa using hc))
/-- no scale grows past the sheet's own -/
theorem found_scl : ∀ {path : Path} {p : Pl} {t : Th} {r : Pl × Th}, foundFrom p t path = some r → wf t → 1 ≤ p.s → 1 ≤ r.1.s ∧ r.1.s * scl r.2 ≤ p.s * scl t
  | [], _, _, _, h, _, h1 => by cases h; exact ⟨h1, Int.le_refl _⟩
  | s :: path, p, t, w, h, hw, h1 => by
    rw [foundFrom] at h
    cases z : innerOf t s with
    | none => rw [z] at h; cases h
    | some v =>
      obtain ⟨m, t'⟩ := v
      rw [z] at h
      have key : wf t' ∧ 1 ≤ m.s ∧ m.s * scl t' ≤ scl t := by
        cases t with
        | group ps =>
          cases s with
          | ix i => cases z
          | nm s =>
            simp only [innerOf, Option.map_eq_some_iff] at z
            obtain ⟨q, hq, e⟩ := z
            have hm := (find_mem hq).1
            have hq' := (wf_group.mp hw) q hm
            have := scl_mem hm
            rw [scl_group]
            rw [e] at hq' this
            exact ⟨hq'.2.2, hq'.2.1, this⟩
        | row n x y u =>
          cases s with
          | nm s => cases z
          | ix i =>
            simp only [innerOf] at z
            split at z
            · cases z
              exact ⟨hw.2.2, by simp [stepPl], by rw [scl_row]; simp [stepPl]⟩
            · cases z
        | _ => cases s <;> cases z
      obtain ⟨k1, k2, k3⟩ := key
      have h2 : 1 ≤ (together p m).s := by
        show 1 ≤ p.s * m.s
        have : 1 * 1 ≤ p.s * m.s := Int.mul_le_mul h1 k2 (by omega) (by omega)
        omega
      obtain ⟨i1, i2⟩ := found_scl h k1 h2
      refine ⟨i1, Int.le_trans i2 ?_⟩
      show p.s * m.s * scl t' ≤ p.s * scl t
      rw [Int.mul_assoc]
      exact Int.mul_le_mul_of_nonneg_left k3 (by omega)
theorem found_s {path : Path} {t : Th} {r : Pl × Th} (h : foundFrom plain t path = some r) (hw : wf t) : r.1.s ≤ scl t := by
  obtain ⟨h1, h2⟩ := found_scl h hw (by decide)
  rw [show plain.s * scl t = scl t from Int.one_mul _] at h2
  have h3 : r.1.s * 1 ≤ r.1.s * scl r.2 := Int.mul_le_mul_of_nonneg_left (scl_pos _) (by omega)
  omega
structure LchOk (G : Prog) : Prop where
  lat : LatOk G
  with_ : Has G "_law_with" d_law_with
section
variable {G : Prog} {n : Nat}
theorem ev_lwith (g : Has G "_law_with" d_law_with) : ∀ (path : Path) {n : Nat} (t : Th) (parts : List Pa), path.length + 1 ≤ n → Can path t → callD G n "_law_with" [encT t, .tuple (path.map encStp), .tuple (parts.map encPa)] = .ok (encT (withP path t parts))
  | [], n, t, parts, hn, _ => by
    rw [withP, encT_group]
    refine k_go g (by omega) rfl ?_
    exists d_law_with, cmp_same
  | .ix i :: r, n, t, parts, hn, hc => by cases t <;> exact hc.elim
  | .nm s :: r, n, t, parts, hn, hc => by
    cases t with
    | group ps =>
      obtain ⟨hc, hl⟩ := hc
      have hn' : r.length + 1 ≤ n - 1 := by simp at hn; omega
      have h0 := cmp_TT0 (enc_Stp.ndAll (.nm s :: r))
      rw [List.map_cons, encStp] at h0
      simp only [List.cons_ne_nil, reduceCtorEq, decide_false] at h0
      rw [withP, encT_group, encT_group, List.map_cons, encStp]
      refine k_go g (by omega) rfl ?_
      exists d_law_with, h0
      refine k_seq (lp_app (fun acc : List Pa => [.val (.tuple [.str "group", .tuple (ps.map encPa)]), .val (.tuple (.str s :: r.map encStp)), .val (.tuple (parts.map encPa)), .val (.tuple (acc.map encPa)), .un, .un, .un]) (fun q => [if named s q = true then (q.1, q.2.1, withP r q.2.2 parts) else q]) 1000000 ps (by rw [flatMap_one, List.length_map]; omega) fun acc q hq hB => ?_) ?_
      · simp only [List.map_append]
        simp only [List.length_cons, List.length_nil] at hB
        have ad : ∀ z : Pa, binD .add (.tuple (acc.map encPa)) (.tuple [encPa z]) = .ok (.tuple (acc.map encPa ++ [encPa z])) := fun z => by
          have : acc.length + 1 ≤ LIM := by unfold LIM; omega
          simp [binD, addD, this]
        by_cases h : q.1 = s
        · have hq' : named s q = true := by simp [named, h]
          have e := ev_lwith g r (n := n - 1) q.2.2 parts hn' (hc q hq hq')
          have a1 := ad (s, q.2.1, withP r q.2.2 parts)
          rw [if_pos hq']
          exists enc_str.cmp (by decide), h, cut_1, e, a1
        · have hq' : ¬ named s q = true := by simp [named, h]
          have a1 := ad q
          rw [if_neg hq']
          exists enc_str.cmp (by decide), h, a1
      · rw [flatMap_one]
        exists True.intro
    | _ => exact hc.elim
section
variable {t : Th} {pre : Path} {s : Str} {p0 : Pl} {a b : List Pa} {q : Pa}
theorem lat_pre (g : LatOk G) (hn : 3 ≤ n) (hw : wf t) (hs : scl t < 1073741824) (hf : foundFrom plain t pre = some (p0, .group (a ++ q :: b))) : callD G n "_law_at" [encT t, .tuple (pre.map encStp)] = .ok (.tuple [.tuple [.str "group", .tuple ((a ++ q :: b).map encPa)], encM (matrix p0)]) := by
  have e := ev_lat g hn (path := pre) hw hs
  rw [hf] at e
  rw [e, latR, encT_group]
theorem ev_lpart (g : LatOk G) (gl : Has G "_law_part" d_law_part) (hn : 4 ≤ n) (hw : wf t) (hs : scl t < 1073741824) (hf : foundFrom plain t pre = some (p0, .group (a ++ q :: b))) (hq : q.1 = s) (ha : ∀ z ∈ a, z.1 ≠ s) : callD G n "_law_part" [encT t, .tuple ((pre ++ [Stp.nm s]).map encStp)] = .ok (encPa q) := by
  have e := lat_pre g (n := n - 1) (by omega) hw hs hf
  refine k_go gl (by omega) rfl ?_
  exists d_law_part, cut_last, e
  rw [cmpl_filter (named s) encPa (a ++ q :: b) fun z _ rs => by exists idx_last, encStp, enc_str.cmp (by decide), named]
  have : (a ++ q :: b).filter (named s) = q :: b.filter (named s) := by
    rw [List.filter_append, List.filter_eq_nil_iff.mpr fun z hz => by simpa [named] using ha z hz, List.filter_cons, if_pos (by simp [named, hq])]; rfl
  exists this
theorem ev_lchange (g : LchOk G) (gl : Has G "_law_change" d_law_change) (hn : pre.length + 7 ≤ n) (hw : wf t) (hs : scl t < 1073741824) (hu : unl t) (hi : pre.any isIx = false) (hf : foundFrom plain t pre = Option.some (p0, .group (a ++ q :: b))) (hq : q.1 = s) (ha : ∀ z ∈ a, z.1 ≠ s) {zs : List Pa} (hl : zs.length ≤ 1000) :
    callD G n "_law_change" [encT t, .tuple ((pre ++ [Stp.nm s]).map encStp), .tuple (zs.map encPa)] = .ok (encT (withP pre t (a ++ zs ++ b))) := by
  have e := lat_pre g.lat (n := n - 1) (by omega) hw hs hf
  have hc := can_of hf hi hu
  have hk := found_unl hf hu
  simp only at hk
  rw [unl_group] at hk
  have hkl := hk.1.2
  simp at hkl
  have e2 := ev_lwith g.with_ pre (n := n - 1) t (a ++ zs ++ b) (by omega) hc
  refine k_go gl (by omega) rfl ?_
  exists d_law_change, e, cut_last, cmpl_fst, idx_last, encStp, index_Pa hq ha, cut_pre, cut_post, add_Pa
  rw [← List.append_assoc, e2]
  rfl
theorem ev_lmoved (g : LchOk G) (gl : Has G "_law_moved" d_law_moved) (gc : Has G "_law_change" d_law_change) (gp : Has G "_law_part" d_law_part) (hn : pre.length + 8 ≤ n) (hw : wf t) (hs : scl t < 1073741824) (hu : unl t) (hi : pre.any isIx = false) (hf : foundFrom plain t pre = Option.some (p0, .group (a ++ q :: b))) (hq : q.1 = s) (ha : ∀ z ∈ a, z.1 ≠ s) (h32 : scl t ≤ 32767) (x y : Int) :
    callD G n "_law_moved" [encT t, .tuple ((pre ++ [Stp.nm s]).map encStp), .int x, .int y] = .ok (match movePl p0 q.2.1 x y with
      | none => .tuple [.str "refused", .int 2]
      | some p => .tuple [.str "told", encT (withP pre t (a ++ [(q.1, p, q.2.2)] ++ b))]) := by
  have e := lat_pre g.lat (n := n - 1) (by omega) hw hs hf
  obtain ⟨w1, w2, w3⟩ := found_fit hf hw plain_w (by show (1 : Int) * scl t < _; omega)
  simp only at w2
  have hs1 := w2.s1
  have hs9 := w2.s9
  have ⟨⟨_, _⟩, ⟨_, _⟩, ⟨_, _⟩, ⟨_, _⟩⟩ := matrix_w w2
  have hab : ((if (matrix p0).a < 0 then -(matrix p0).a else (matrix p0).a) + if (matrix p0).b < 0 then -(matrix p0).b else (matrix p0).b) = p0.s := abs_mat w2.T (by omega)
  have s0 : ¬ p0.s = 0 := by omega
  rw [movePl_eq w2]
  by_cases hc : x % p0.s ≠ 0 ∨ y % p0.s ≠ 0
  · rw [if_pos hc]
    by_cases hx : x % p0.s = 0
    · have hy : ¬ y % p0.s = 0 := by omega
      refine k_go gl (by omega) rfl ?_
      exists d_law_moved, e, cut_last, hab, s0, hx, hy
    · refine k_go gl (by omega) rfl ?_
      exists d_law_moved, e, cut_last, hab, s0, hx
  · have hx : x % p0.s = 0 := by omega
    have hy : y % p0.s = 0 := by omega
    rw [if_neg hc]
    obtain ⟨nx, ny, pp⟩ : ∃ X Y, X = q.2.1.x + ((matrix p0).a * x + (matrix p0).c * y) / (p0.s * p0.s) ∧ Y = q.2.1.y + ((matrix p0).b * x + (matrix p0).d * y) / (p0.s * p0.s) := ⟨_, _, rfl, rfl⟩
    have e4 := ev_lpart g.lat gp (n := n - 1) (by omega) hw hs hf hq ha
    have e5 := ev_lchange g gc (n := n - 1) (by omega) hw hs hu hi hf hq ha (zs := [(q.1, ⟨q.2.1.t, q.2.1.f, q.2.1.s, q.2.1.x + ((matrix p0).a * x + (matrix p0).c * y) / (p0.s * p0.s), q.2.1.y + ((matrix p0).b * x + (matrix p0).d * y) / (p0.s * p0.s)⟩, q.2.2)]) (by simp)
    simp only [List.map_cons, List.map_nil] at e5
    have s2 : ¬ p0.s * p0.s = 0 := Int.mul_ne_zero s0 s0
    have hs32 := found_s hf hw
    simp only at hs32
    have s3 : p0.s * p0.s ≤ 32767 * 32767 := Int.mul_le_mul (by omega) (by omega) (by omega) (by omega)
    have s4 : 0 ≤ p0.s * p0.s := Int.mul_nonneg (by omega) (by omega)
    refine k_go gl (by omega) rfl ?_
    exists d_law_moved, e, cut_last, hab, s0, hx, hy, e4, slc_a3, o_addT, e5, s2
end
end
end DP

/-! ## Grp -/
set_option Elab.async false
set_option linter.all false
set_option maxRecDepth 100000
set_option maxHeartbeats 4000000
set_option autoImplicit false
/-! Parts grouped, ungrouped, spread. -/
namespace DP
open PySem
local macro_rules | `(tactic| exists $es,*) => `(tactic| simp -implicitDefEqProofs (disch := first | assumption | omega | (simp only [List.length_map, List.length_append, List.length_cons, List.length_nil]; omega) | decide | (simp [nd, ndAll, PyData.depth, PyData.depthAll]; done)) only [q_b1, q_bL, q_b2, q_mkT, q_mkL, q_cons2, q_notK, q_andK, q_andKf, q_andKt, q_orK, q_orKt, q_orKf, q_chainK3, q_chainK, q_slcK, q_tK, q_tKf, q_cmplK, q_cl0, q_cl1, q_cl1o, q_selt, q_self, q_seqn, q_seqr, q_seqe, q_seqi, q_asgK, q_asgOK, q_nxE, q_unpK, q_unpLK, q_parK, q_exprK, q_appK, q_extK, q_retK, q_retOK, q_iteK, q_forK, q_lp0, q_lp1, q_lpS, q_lpKn, q_lpKr, q_lpKe, q_lpKi, q_frzo, q_frzv, q_slotV, q_slotLv, q_slotLo, q_optV, q_outr, q_outn, q_oute, q_outi, q_w0, q_w1, q_sa0, q_sa1, q_stn, q_stt, q_tgn, q_tgt, q_eint, q_ebl, q_enon, q_estr, q_evar, q_eglob, q_etup, q_elst, q_ebin, q_eneg, q_enot, q_eand, q_eor, q_and1, q_and2, q_or1, q_or2, q_ecmp, q_echain3, q_echain, q_ecall, q_etold, q_told1, q_told2, q_told3, q_told4, q_low59, q_otold, q_eblt, q_eisi, q_eidx, q_eslc, q_erev, q_ecomp, q_es0, q_es1, q_bs0, q_bs1, q_t0, q_t1, q_iplain, q_irng, q_irng2, q_fplain, q_frng, q_frng2, q_ienum, q_izip, q_irev, q_fenum, q_fzip, q_frev, q_ovar, q_oint, q_obl, q_onon, q_ostr, q_oglob, q_otup, q_olst, q_obin, q_oneg, q_onot, q_oand, q_oor, q_ocmp, q_ochain, q_ochain3, q_ocall, q_oblt, q_oisi, q_oidx, q_oslc, q_orev, q_ometh, q_ocomp, q_odctget, q_odctidx, q_pint, q_pnon, q_pglob, q_pbin, q_pneg, q_pcall, q_pblt, q_pidx, q_pvar, q_ss0, q_ss1, q_sasg, q_sasgOlst, q_sasgOcomp, q_sasgObin, q_sasgOslc, q_sasgOrev, q_sasgOlist, q_sasgOsorted, q_sunp, q_sunpL, q_spar, q_sexpr, q_sapp, q_sext, q_sret, q_sretO, q_site, q_sfor, q_spass, q_zvar, q_zint, q_zbl, q_znon, q_zstr, q_zglob, q_ztup, q_zlst, q_zbin, q_zneg, q_znot, q_zand, q_zor, q_zcmp, q_zchain, q_zchain3, q_zcall, q_zblt, q_zisi, q_zidx, q_zslc, q_zrev, q_zmeth, q_zcomp, q_zdctget, q_zdctidx, q_zrng, q_zrng2, q_zenum, q_zzip, q_zirev, q_add, q_sub, q_mulR, q_mulL, q_fdiv, q_mod, q_neg, q_cI, q_cnI, q_cS, q_cnS, q_cB, q_cnB, q_clt, q_cle, q_cgt, q_cge, q_isN, q_isnN, q_ist, q_isnt, q_isl, q_isnl, q_isi, q_isni, q_iss, q_isns, q_isb, q_isnb, q_ixt0, q_ixl0, q_ixt1, q_ixl1, q_ixt2, q_ixl2, q_ixt3, q_ixl3, q_ixt4, q_ixl4, q_ixt5, q_ixl5, q_ixt6, q_ixl6, q_ixt7, q_ixl7, q_ixt8, q_ixl8, q_lent0, q_lenl0, q_lent1, q_lenl1, q_lent2, q_lenl2, q_lent3, q_lenl3, q_lent4, q_lenl4, q_lent5, q_lenl5, q_lent6, q_lenl6, q_lent7, q_lenl7, q_lent8, q_lenl8, q_lenTm, q_lenLm, q_bint, q_bintb, q_babs, q_blst, q_blstT, q_btup, q_btupT, q_bmin, q_bmax, q_isi_int_int, q_isi_int_bool, q_isi_int_str, q_isi_int_tuple, q_isi_int_list, q_isi_int_none, q_isi_bool_int, q_isi_bool_bool, q_isi_bool_str, q_isi_bool_tuple, q_isi_bool_list, q_isi_bool_none, q_isi_str_int, q_isi_str_bool, q_isi_str_str, q_isi_str_tuple, q_isi_str_list, q_isi_str_none, q_isi_tuple_int, q_isi_tuple_bool, q_isi_tuple_str, q_isi_tuple_tuple, q_isi_tuple_list, q_isi_tuple_none, q_isi_list_int, q_isi_list_bool, q_isi_list_str, q_isi_list_tuple, q_isi_list_list, q_isi_list_none, q_itL, q_itT, q_rng0, q_rng1, q_rng2, q_rng3, q_rng4, q_revL, q_revT, q_rvL, q_rvT, q_slT, q_slL, q_xasg, q_xret, q_xb1, q_xbL, q_xb2l, q_xb2r, q_xc2l, q_xc2r, q_xmkT, q_xmkL, q_xexpr, q_xunp, q_xite, q_xparl, q_xparr, q_xnot, q_xfor, q_xslc, q_srais, q_emeth, q_mthi, q_mthz, q_mths, q_mthj, q_sel, q_seqnil, q_lpTn, q_lpTr, q_lpTe, q_lpTi, q_s_line_box, q_s_line_ring, q_s_line_field, q_s_line_row, q_s_line_group, q_s_box_line, q_s_box_ring, q_s_box_field, q_s_box_row, q_s_box_group, q_s_ring_line, q_s_ring_box, q_s_ring_field, q_s_ring_row, q_s_ring_group, q_s_field_line, q_s_field_box, q_s_field_ring, q_s_field_row, q_s_field_group, q_s_row_line, q_s_row_box, q_s_row_ring, q_s_row_field, q_s_row_group, q_s_group_line, q_s_group_box, q_s_group_ring, q_s_group_field, q_s_group_row, q_Pteta, q_Pleta, q_Mteta, q_cLL0, q_cTT0, q_cnLL0, q_cnTT0, List.getD_cons_zero, List.getD_cons_succ, List.set_cons_zero, List.set_cons_succ, List.map_cons, List.map_nil, List.cons_append, List.nil_append, List.append_assoc, List.length_cons, List.length_nil, List.length_map, List.length_append, List.replicate_succ, List.replicate_zero, ↓reduceIte, decide_eq_true_eq, Bool.not_eq_true', Bool.not_true, Bool.not_false, Bool.true_and, Bool.false_and, Bool.and_true, Bool.and_false, Bool.or_true, Bool.or_false, Bool.true_or, Bool.false_or, Bool.and_eq_true, Bool.or_eq_true, Bool.not_not, decide_eq_false_iff_not, decide_true, decide_false, Bool.false_eq_true, eq_self, not_true_eq_false, not_false_eq_true, true_and, and_true, false_and, and_false, or_true, true_or, or_false, false_or, Int.reduceAdd, Int.reduceMul, Int.reduceSub, Int.reduceNeg, Int.reduceLT, Int.reduceLE, Int.reduceEq, Int.reduceMod, Int.reduceDiv, Nat.reduceAdd, Nat.reduceSub, Int.reduceNe, $[$es:term],*])
theorem strsOf_map : ∀ l : List Str, strsOf (l.map .str) = some l
  | [] => rfl
  | x :: l => by rw [List.map_cons, strsOf, strsOf_map l]; rfl
theorem dstf_le : ∀ (l acc : List Str), (l.foldl (fun acc x => if x ∈ acc then acc else x :: acc) acc).length ≤ acc.length + l.length
  | [], acc => Nat.le_refl _
  | x :: l, acc => by
    rw [List.foldl_cons, List.length_cons]
    by_cases h : x ∈ acc
    · rw [if_pos h]
      have := dstf_le l acc
      omega
    · rw [if_neg h]
      have := dstf_le l (x :: acc)
      rw [List.length_cons] at this
      omega
theorem dstf_eq : ∀ (l acc : List Str), (l.foldl (fun acc x => if x ∈ acc then acc else x :: acc) acc).length = acc.length + l.length ↔ l.Nodup ∧ ∀ x ∈ l, x ∉ acc
  | [], acc => by simp
  | x :: l, acc => by
    rw [List.foldl_cons, List.length_cons]
    by_cases h : x ∈ acc
    · rw [if_pos h]
      have := dstf_le l acc
      refine ⟨fun e => by omega, fun e => absurd h (e.2 x List.mem_cons_self)⟩
    · rw [if_neg h]
      have := dstf_eq l (x :: acc)
      rw [List.length_cons] at this
      rw [show acc.length + (l.length + 1) = acc.length + 1 + l.length by omega, this, List.nodup_cons]
      constructor
      · rintro ⟨h1, h2⟩
        refine ⟨⟨fun hx => h2 x hx List.mem_cons_self, h1⟩, fun z hz => ?_⟩
        rcases List.mem_cons.mp hz with rfl | hz
        · exact h
        · exact fun hc => h2 z hz (List.mem_cons_of_mem _ hc)
      · rintro ⟨⟨h1, h2⟩, h3⟩
        refine ⟨h2, fun z hz hc => ?_⟩
        rcases List.mem_cons.mp hc with rfl | hc
        · exact h1 hz
        · exact h3 z (List.mem_cons_of_mem _ hz) hc
theorem dst_iff (l : List Str) : (dst l).length = l.length ↔ l.Nodup := by
  have := dstf_eq l []
  unfold dst
  simpa using this
theorem lset_map {l : List Str} (h : l.length ≤ 4000) : lsetD (.list (l.map .str)) [] = .ok (.int ((dst l).length : Int)) := by
  simp only [lsetD, strsOf_map, h, if_true]
theorem enumD_zip {α : Type} {f : α → PyData} : ∀ (xs : List α) (k : Nat), enumD k (xs.map f) = (xs.zipIdx k).map fun q => .tuple [.int (q.2 : Int), f q.1]
  | [], k => rfl
  | x :: xs, k => by rw [List.map_cons, enumD, enumD_zip xs, List.zipIdx_cons, List.map_cons]
/-! changed twice at one place -/
theorem withP_withP {X Y : List Pa} : ∀ (path : Path) (t : Th), withP path (withP path t X) Y = withP path t Y
  | [], t => rfl
  | .ix i :: r, t => by cases t <;> rfl
  | .nm z :: r, t => by
    cases t with
    | group ps =>
      rw [withP, withP, withP, List.map_map]
      congr 1
      apply List.map_congr_left
      intro w _
      simp only [Function.comp]
      cases hz : named z w with
      | true =>
        have hz' : named z (w.1, w.2.1, withP r w.2.2 X) = true := hz
        simp only [if_true, hz', withP_withP r]
      | false => simp [hz]
    | _ => rfl
theorem withP_self : ∀ {pre : Path} {p p0 : Pl} {t : Th} {qs : List Pa}, foundFrom p t pre = some (p0, .group qs) → pre.any isIx = false → unl t → withP pre t qs = t
  | [], p, p0, t, qs, h, _, _ => by cases h; rw [withP]
  | .ix i :: r, p, p0, t, qs, h, hi, _ => by simp [isIx] at hi
  | .nm z :: r, p, p0, t, qs, h, hi, hu => by
    obtain ⟨ps, q, rfl, hf, h'⟩ := found_cons h
    rw [unl_group] at hu
    rw [withP]
    congr 1
    conv => rhs; rw [← List.map_id ps]
    apply List.map_congr_left
    intro w hw
    split
    · rename_i hz
      have e := map_one hu.1.1 hf hw hz
      subst e
      rw [withP_self h' (by simpa [isIx] using hi) (hu.2 w hw)]; rfl
    · rfl
theorem found_withP {X : List Pa} : ∀ {pre : Path} {p p0 : Pl} {t : Th} {qs : List Pa}, foundFrom p t pre = some (p0, .group qs) → pre.any isIx = false → foundFrom p (withP pre t X) pre = some (p0, .group X)
  | [], p, p0, t, qs, h, _ => by cases h; rfl
  | .ix i :: r, p, p0, t, qs, h, hi => by simp [isIx] at hi
  | .nm z :: r, p, p0, t, qs, h, hi => by
    obtain ⟨ps, q, rfl, hf, h'⟩ := found_cons h
    have hz := named_eq.mpr (find_mem hf).2
    rw [withP, foundFrom]
    simp only [innerOf]
    rw [List.find?_map, show (named z ∘ fun q : Pa => if named z q = true then (q.1, q.2.1, withP r q.2.2 X) else q) = named z by
      funext w; simp only [Function.comp]; split <;> rfl, hf]
    simp only [Option.map_some, hz, if_true]
    exact found_withP h' (by simpa [isIx] using hi)
/-! the picture -/
def shps (t : Th) (p : Pl) : List Sh := (flat t p []).map (·.2)
theorem flat_path (t : Th) : ∀ (p : Pl) (P Q : Path), (flat t p P).map (·.2) = (flat t p Q).map (·.2) := by
  induction t using Th.ind with
  | group ps ih =>
    intro p P Q
    rw [flat_group, flat_group, List.map_flatMap, List.map_flatMap]
    exact flatMap_congr fun q hq => ih q hq _ _ _
  | row n x y t ih =>
    intro p P Q
    rw [flat_row, flat_row, List.map_flatMap, List.map_flatMap]
    exact flatMap_congr fun k _ => ih _ _ _
  | _ => intro p P Q; rw [flat_smp rfl, flat_smp rfl]; rfl
theorem shps_group (ps : List Pa) (p : Pl) : shps (.group ps) p = ps.flatMap fun q => shps q.2.2 (together p q.2.1) := by
  unfold shps
  rw [flat_group, List.map_flatMap]
  exact flatMap_congr fun q _ => flat_path _ _ _ _
theorem shps_row (n x y : Int) (t : Th) (p : Pl) : shps (.row n x y t) p = (List.range n.toNat).flatMap fun k : Nat => shps t (together p (stepPl k x y)) := by
  unfold shps
  rw [flat_row, List.map_flatMap]
  exact flatMap_congr fun q _ => flat_path _ _ _ _
theorem shps_withP {X : List Pa} : ∀ {pre : Path} {p p0 p1 : Pl} {t : Th} {qs : List Pa}, foundFrom p t pre = some (p0, .group qs) → pre.any isIx = false → unl t → (∀ p, PlT p → shps (.group X) p = shps (.group qs) p) → PlT p1 → shps (withP pre t X) p1 = shps t p1
  | [], p, p0, p1, t, qs, h, _, _, hX, hp => by cases h; rw [withP]; exact hX _ hp
  | .ix i :: r, p, p0, p1, t, qs, h, hi, _, _, _ => by simp [isIx] at hi
  | .nm z :: r, p, p0, p1, t, qs, h, hi, hu, hX, hp => by
    obtain ⟨ps, q, rfl, hf, h'⟩ := found_cons h
    rw [unl_group] at hu
    rw [withP, shps_group, shps_group, List.flatMap_map]
    refine flatMap_congr fun w hw => ?_
    split
    · rename_i hz
      have e := map_one hu.1.1 hf hw hz
      subst e
      exact shps_withP h' (by simpa [isIx] using hi) (hu.2 w hw) hX (together_T _ _)
    · rfl
theorem shps_grp {A B C : List Pa} {s : Str} (p : Pl) (h : PlT p) : shps (.group (A ++ (s, plain, .group B) :: C)) p = shps (.group (A ++ B ++ C)) p := by
  rw [shps_group, shps_group]
  simp only [List.flatMap_append, List.flatMap_cons, shps_group, tog_plain h, List.append_assoc]
theorem shps_ung {a b B : List Pa} {s : Str} {r : Pl} (hr : PlT r) (p : Pl) (h : PlT p) : shps (.group (a ++ B.map (fun z => (z.1, together r z.2.1, z.2.2)) ++ b)) p = shps (.group (a ++ (s, r, .group B) :: b)) p := by
  rw [shps_group, shps_group]
  simp only [List.flatMap_append, List.flatMap_cons, shps_group, List.append_assoc, List.flatMap_map]
  congr 2
  exact flatMap_congr fun z _ => by rw [tog_assoc _ h hr]
def sprd (r : Pl) (x y : Int) (u : Th) (names : List Str) : List Pa := names.zipIdx.map fun q => (q.1, together r (stepPl q.2 x y), u)
theorem flat_zipIdx {β : Type} {f : Nat → List β} : ∀ (names : List Str) (k : Nat), (names.zipIdx k).flatMap (fun q => f q.2) = (List.range' k names.length).flatMap f
  | [], k => rfl
  | x :: l, k => by rw [List.zipIdx_cons, List.flatMap_cons, flat_zipIdx l, List.length_cons, List.range'_succ, List.flatMap_cons]
theorem shps_sprd {a b : List Pa} {s : Str} {r : Pl} {n x y : Int} {u : Th} {names : List Str} (hr : PlT r) (hn : (names.length : Int) = n) (p : Pl) (h : PlT p) : shps (.group (a ++ sprd r x y u names ++ b)) p = shps (.group (a ++ (s, r, .row n x y u) :: b)) p := by
  rw [shps_group, shps_group]
  simp only [List.flatMap_append, List.flatMap_cons, shps_row, List.append_assoc, sprd, List.flatMap_map]
  congr 2
  have e : n.toNat = names.length := by omega
  rw [e, List.range_eq_range']
  rw [← flat_zipIdx (f := fun k => shps u (together (together p r) (stepPl k x y))) names 0]
  exact flatMap_congr fun z _ => by rw [tog_assoc _ h hr]
theorem sprd_names {r : Pl} {x y : Int} {u : Th} {names : List Str} : (sprd r x y u names).map (·.1) = names := by
  unfold sprd
  rw [List.map_map]
  show (names.zipIdx.map fun q => q.1) = names
  exact List.zipIdx_map_fst 0 names
/-! one group more -/
theorem withP_ok2 {parts : List Pa} : ∀ {pre : Path} {p p0 : Pl} {t : Th} {qs : List Pa}, foundFrom p t pre = some (p0, .group qs) → pre.any isIx = false → unl t → wf t → depL parts ≤ depL qs + 1 → cntL parts ≤ 2 * cntL qs + 1 → sclL parts ≤ sclL qs → wf (.group parts) →
    dep (withP pre t parts) ≤ dep t + 1 ∧ cnt (withP pre t parts) ≤ 2 * cnt t ∧ scl (withP pre t parts) ≤ scl t ∧ wf (withP pre t parts)
  | [], p, p0, t, qs, h, _, _, _, h1, h2, h3, h4 => by
    cases h
    rw [withP, dep_group, dep_group, cnt_group, cnt_group, scl_group, scl_group]
    exact ⟨by omega, by omega, h3, h4⟩
  | .ix i :: r, p, p0, t, qs, h, hi, _, _, _, _, _, _ => by simp [isIx] at hi
  | .nm z :: r, p, p0, t, qs, h, hi, hu, hw, h1, h2, h3, h4 => by
    obtain ⟨ps, q, rfl, hf, h'⟩ := found_cons h
    rw [unl_group] at hu
    rw [wf_group] at hw
    obtain ⟨i1, i2, i3, i4⟩ := withP_ok2 h' (by simpa [isIx] using hi) (hu.2 q (find_mem hf).1) (hw q (find_mem hf).1).2.2 h1 h2 h3 h4
    rw [withP, dep_group, dep_group, cnt_group, cnt_group, scl_group, scl_group, wf_group]
    have one : ∀ w ∈ ps, named z w = true → w = q := fun w hw hz => map_one hu.1.1 hf hw hz
    refine ⟨?_, ?_, ?_, fun w hw' => ?_⟩
    · refine Nat.succ_le_succ (depL_le fun w hw' => ?_)
      obtain ⟨v, hv, rfl⟩ := List.mem_map.mp hw'
      split
      · rename_i hz
        rw [one v hv hz]
        exact Nat.le_trans i1 (Nat.succ_le_succ (dep_mem (find_mem hf).1))
      · exact Nat.le_trans (dep_mem hv) (Nat.le_succ _)
    · have : ∀ l : List Pa, (∀ w ∈ l, named z w = true → w = q) → cntL (l.map fun q => if named z q = true then (q.1, q.2.1, withP r q.2.2 parts) else q) ≤ 2 * cntL l := by
        intro l
        induction l with
        | nil => intro _; exact Nat.zero_le _
        | cons v l ihl =>
          intro hl
          obtain ⟨a, b, c⟩ := v
          have := ihl fun w hw => hl w (List.mem_cons_of_mem _ hw)
          rw [List.map_cons]
          split
          · rename_i hz
            have e := hl _ List.mem_cons_self hz
            rw [cntL, cntL]
            rw [← e] at i2
            simp only at i2
            simp only
            omega
          · rw [cntL, cntL]; omega
      have := this ps one
      omega
    · refine sclL_le (sclL_pos ps) fun w hw' => ?_
      obtain ⟨v, hv, rfl⟩ := List.mem_map.mp hw'
      split
      · rename_i hz
        rw [one v hv hz]
        have := (hw q (find_mem hf).1).2.1
        show q.2.1.s * scl (withP r q.2.2 parts) ≤ _
        exact Int.le_trans (Int.mul_le_mul_of_nonneg_left i3 (by omega)) (scl_mem (find_mem hf).1)
      · exact scl_mem hv
    · obtain ⟨v, hv, rfl⟩ := List.mem_map.mp hw'
      split
      · rename_i hz
        rw [one v hv hz]
        exact ⟨(hw q (find_mem hf).1).1, (hw q (find_mem hf).1).2.1, i4⟩
      · exact hw v hv
theorem unl_withP {parts : List Pa} (hp : unl (.group parts)) : ∀ (pre : Path) (t : Th), unl t → unl (withP pre t parts)
  | [], t, _ => by rw [withP]; exact hp
  | .ix i :: r, t, h => by cases t <;> exact h
  | .nm z :: r, t, h => by
    cases t with
    | group ps =>
      rw [unl_group] at h
      rw [withP, unl_group]
      refine ⟨⟨?_, by simpa using h.1.2⟩, fun q hq => ?_⟩
      · rw [List.map_map]
        have : ((fun q : Pa => q.1) ∘ fun q : Pa => if named z q = true then (q.1, q.2.1, withP r q.2.2 parts) else q) = fun q => q.1 := by
          funext w; simp only [Function.comp]; split <;> rfl
        rw [this]; exact h.1.1
      · obtain ⟨w, hw, rfl⟩ := List.mem_map.mp hq
        split
        · exact unl_withP hp r _ (h.2 w hw)
        · exact h.2 w hw
    | _ => exact h
end DP

/-! ## Grp2 -/
set_option Elab.async false
set_option linter.all false
set_option maxRecDepth 100000
set_option maxHeartbeats 4000000
set_option autoImplicit false
/-! What grouped, ungrouped and spread compute. -/
namespace DP
open PySem
local macro_rules | `(tactic| exists $es,*) => `(tactic| simp -implicitDefEqProofs (disch := first | assumption | omega | (simp only [List.length_map, List.length_append, List.length_cons, List.length_nil]; omega) | decide | (simp [nd, ndAll, PyData.depth, PyData.depthAll]; done)) only [q_b1, q_bL, q_b2, q_mkT, q_mkL, q_cons2, q_notK, q_andK, q_andKf, q_andKt, q_orK, q_orKt, q_orKf, q_chainK3, q_chainK, q_slcK, q_tK, q_tKf, q_cmplK, q_cl0, q_cl1, q_cl1o, q_selt, q_self, q_seqn, q_seqr, q_seqe, q_seqi, q_asgK, q_asgOK, q_nxE, q_unpK, q_unpLK, q_parK, q_exprK, q_appK, q_extK, q_retK, q_retOK, q_iteK, q_forK, q_lp0, q_lp1, q_lpS, q_lpKn, q_lpKr, q_lpKe, q_lpKi, q_frzo, q_frzv, q_slotV, q_slotLv, q_slotLo, q_optV, q_outr, q_outn, q_oute, q_outi, q_w0, q_w1, q_sa0, q_sa1, q_stn, q_stt, q_tgn, q_tgt, q_eint, q_ebl, q_enon, q_estr, q_evar, q_eglob, q_etup, q_elst, q_ebin, q_eneg, q_enot, q_eand, q_eor, q_and1, q_and2, q_or1, q_or2, q_ecmp, q_echain3, q_echain, q_ecall, q_etold, q_told1, q_told2, q_told3, q_told4, q_low59, q_otold, q_eblt, q_eisi, q_eidx, q_eslc, q_erev, q_ecomp, q_es0, q_es1, q_bs0, q_bs1, q_t0, q_t1, q_iplain, q_irng, q_irng2, q_fplain, q_frng, q_frng2, q_ienum, q_izip, q_irev, q_fenum, q_fzip, q_frev, q_ovar, q_oint, q_obl, q_onon, q_ostr, q_oglob, q_otup, q_olst, q_obin, q_oneg, q_onot, q_oand, q_oor, q_ocmp, q_ochain, q_ochain3, q_ocall, q_oblt, q_oisi, q_oidx, q_oslc, q_orev, q_ometh, q_ocomp, q_odctget, q_odctidx, q_pint, q_pnon, q_pglob, q_pbin, q_pneg, q_pcall, q_pblt, q_pidx, q_pvar, q_ss0, q_ss1, q_sasg, q_sasgOlst, q_sasgOcomp, q_sasgObin, q_sasgOslc, q_sasgOrev, q_sasgOlist, q_sasgOsorted, q_sunp, q_sunpL, q_spar, q_sexpr, q_sapp, q_sext, q_sret, q_sretO, q_site, q_sfor, q_spass, q_zvar, q_zint, q_zbl, q_znon, q_zstr, q_zglob, q_ztup, q_zlst, q_zbin, q_zneg, q_znot, q_zand, q_zor, q_zcmp, q_zchain, q_zchain3, q_zcall, q_zblt, q_zisi, q_zidx, q_zslc, q_zrev, q_zmeth, q_zcomp, q_zdctget, q_zdctidx, q_zrng, q_zrng2, q_zenum, q_zzip, q_zirev, q_add, q_sub, q_mulR, q_mulL, q_fdiv, q_mod, q_neg, q_cI, q_cnI, q_cS, q_cnS, q_cB, q_cnB, q_clt, q_cle, q_cgt, q_cge, q_isN, q_isnN, q_ist, q_isnt, q_isl, q_isnl, q_isi, q_isni, q_iss, q_isns, q_isb, q_isnb, q_ixt0, q_ixl0, q_ixt1, q_ixl1, q_ixt2, q_ixl2, q_ixt3, q_ixl3, q_ixt4, q_ixl4, q_ixt5, q_ixl5, q_ixt6, q_ixl6, q_ixt7, q_ixl7, q_ixt8, q_ixl8, q_lent0, q_lenl0, q_lent1, q_lenl1, q_lent2, q_lenl2, q_lent3, q_lenl3, q_lent4, q_lenl4, q_lent5, q_lenl5, q_lent6, q_lenl6, q_lent7, q_lenl7, q_lent8, q_lenl8, q_lenTm, q_lenLm, q_bint, q_bintb, q_babs, q_blst, q_blstT, q_btup, q_btupT, q_bmin, q_bmax, q_isi_int_int, q_isi_int_bool, q_isi_int_str, q_isi_int_tuple, q_isi_int_list, q_isi_int_none, q_isi_bool_int, q_isi_bool_bool, q_isi_bool_str, q_isi_bool_tuple, q_isi_bool_list, q_isi_bool_none, q_isi_str_int, q_isi_str_bool, q_isi_str_str, q_isi_str_tuple, q_isi_str_list, q_isi_str_none, q_isi_tuple_int, q_isi_tuple_bool, q_isi_tuple_str, q_isi_tuple_tuple, q_isi_tuple_list, q_isi_tuple_none, q_isi_list_int, q_isi_list_bool, q_isi_list_str, q_isi_list_tuple, q_isi_list_list, q_isi_list_none, q_itL, q_itT, q_rng0, q_rng1, q_rng2, q_rng3, q_rng4, q_revL, q_revT, q_rvL, q_rvT, q_slT, q_slL, q_xasg, q_xret, q_xb1, q_xbL, q_xb2l, q_xb2r, q_xc2l, q_xc2r, q_xmkT, q_xmkL, q_xexpr, q_xunp, q_xite, q_xparl, q_xparr, q_xnot, q_xfor, q_xslc, q_srais, q_emeth, q_mthi, q_mthz, q_mths, q_mthj, q_sel, q_seqnil, q_lpTn, q_lpTr, q_lpTe, q_lpTi, q_s_line_box, q_s_line_ring, q_s_line_field, q_s_line_row, q_s_line_group, q_s_box_line, q_s_box_ring, q_s_box_field, q_s_box_row, q_s_box_group, q_s_ring_line, q_s_ring_box, q_s_ring_field, q_s_ring_row, q_s_ring_group, q_s_field_line, q_s_field_box, q_s_field_ring, q_s_field_row, q_s_field_group, q_s_row_line, q_s_row_box, q_s_row_ring, q_s_row_field, q_s_row_group, q_s_group_line, q_s_group_box, q_s_group_ring, q_s_group_field, q_s_group_row, q_Pteta, q_Pleta, q_Mteta, q_cLL0, q_cTT0, q_cnLL0, q_cnTT0, List.getD_cons_zero, List.getD_cons_succ, List.set_cons_zero, List.set_cons_succ, List.map_cons, List.map_nil, List.cons_append, List.nil_append, List.append_assoc, List.length_cons, List.length_nil, List.length_map, List.length_append, List.replicate_succ, List.replicate_zero, ↓reduceIte, decide_eq_true_eq, Bool.not_eq_true', Bool.not_true, Bool.not_false, Bool.true_and, Bool.false_and, Bool.and_true, Bool.and_false, Bool.or_true, Bool.or_false, Bool.true_or, Bool.false_or, Bool.and_eq_true, Bool.or_eq_true, Bool.not_not, decide_eq_false_iff_not, decide_true, decide_false, Bool.false_eq_true, eq_self, not_true_eq_false, not_false_eq_true, true_and, and_true, false_and, and_false, or_true, true_or, or_false, false_or, Int.reduceAdd, Int.reduceMul, Int.reduceSub, Int.reduceNeg, Int.reduceLT, Int.reduceLE, Int.reduceEq, Int.reduceMod, Int.reduceDiv, Nat.reduceAdd, Nat.reduceSub, Int.reduceNe, $[$es:term],*])
section
variable {α : Type} {f : α → PyData} {A B C : List α}
theorem cut_mid : cutL ((A ++ (B ++ C)).map f) (some (A.length : Int)) (some ((A.length : Int) + (B.length : Int))) = B.map f := by
  have h : ¬ (A.length : Int) < 0 := by omega
  have h' : ¬ (A.length : Int) + (B.length : Int) < 0 := by omega
  have e : min ((A.length : Int)).toNat ((A ++ (B ++ C)).map f).length = A.length := by simp only [List.length_map, List.length_append]; omega
  have e2 : min ((A.length : Int) + (B.length : Int)).toNat ((A ++ (B ++ C)).map f).length - A.length = B.length := by simp only [List.length_map, List.length_append]; omega
  simp only [cutL, HT.sIx, h, h', if_false, e, e2]
  rw [List.map_append, List.drop_left' (by simp), List.map_append, List.take_left' (by simp)]
theorem cut_end : cutL ((A ++ (B ++ C)).map f) (some ((A.length : Int) + (B.length : Int))) none = C.map f := by
  have h' : ¬ (A.length : Int) + (B.length : Int) < 0 := by omega
  have e : min ((A.length : Int) + (B.length : Int)).toNat ((A ++ (B ++ C)).map f).length = A.length + B.length := by simp only [List.length_map, List.length_append]; omega
  simp only [cutL, HT.sIx, h', if_false, e]
  rw [← List.append_assoc, List.map_append, List.drop_left' (by simp), List.take_of_length_le (by simp; omega)]
theorem cut_fst : cutL ((A ++ (B ++ C)).map f) none (some (A.length : Int)) = A.map f := by
  exact cut_pre
end
structure GrpOk (G : Prog) : Prop extends ChhOk G where
  unlike : Has G "only_unlike" d_only_unlike
section
variable {G : Prog} {n : Nat}
theorem ev_unlike_ok (g : Has G "only_unlike" d_only_unlike) (hn : 1 ≤ n) {ps : List Pa} (hl : ps.length ≤ 4000) (h : (ps.map (·.1)).Nodup) : callD G n "only_unlike" [.tuple (ps.map encPa)] = .ok (.tuple (ps.map encPa)) := by
  have e : ((dst (ps.map (·.1))).length : Int) = ps.length := by
    have := (dst_iff _).mpr h
    rw [List.length_map] at this
    omega
  have l := lset_map (l := ps.map (·.1)) (by simpa using hl)
  refine k_go g (by omega) rfl ?_
  exists d_only_unlike, cmpl_fst, l, e
theorem ev_unlike_no (g : Has G "only_unlike" d_only_unlike) (hn : 1 ≤ n) {ps : List Pa} (hl : ps.length ≤ 4000) (h : ¬ (ps.map (·.1)).Nodup) : callD G n "only_unlike" [.tuple (ps.map encPa)] = .exc "NoFit" .none := by
  have e : ¬ ((dst (ps.map (·.1))).length : Int) = ps.length := fun e => h ((dst_iff _).mp (by rw [List.length_map]; omega))
  have l := lset_map (l := ps.map (·.1)) (by simpa using hl)
  refine k_go g (by omega) rfl ?_
  exists d_only_unlike, cmpl_fst, l, e
theorem ev_grouped (g : GrpOk G) (gg : Has G "grouped" d_grouped) {t : Th} {path : Path} (hn : path.length + 7 ≤ n) {p0 : Pl} {A B C : List Pa} {s : Str} (hw : wf t) (hs : scl t < 1073741824) (hu : unl t) (hi : path.any isIx = false) (hf : foundFrom plain t path = some (p0, .group (A ++ B ++ C)))
    (hl : A.length + B.length + C.length ≤ 1000) (hd : ((A ++ (s, plain, Th.group B) :: C).map (·.1)).Nodup) :
    callD G n "grouped" [encT t, .tuple (path.map encStp), .int (A.length : Int), .int (B.length : Int), .str s] = .ok (encT (withP path t (A ++ (s, plain, .group B) :: C))) := by
  have hm : mustN t path = .ok () := by simp only [mustN, hf, hi]; rfl
  have e := ev_must g.toChhOk (n := n - 1) (by omega) (path := path) hw hs
  rw [hm] at e
  have e2 := ev_thing_at g.toChgOk g.thing (n := n - 1) (by omega) (path := path) hw hs
  rw [hf] at e2
  simp only [excO] at e2
  rw [encT_group] at e2
  have e3 := ev_with g.with_ path (n := n - 1) t (A ++ (s, plain, .group B) :: C) (by omega) (can_of hf hi hu)
  have e4 := ev_unlike_ok g.unlike (n := n - 1) (by omega) (ps := A ++ (s, plain, .group B) :: C) (by simp; omega) hd
  have a1 : binD .add (.tuple (A.map encPa)) (.tuple [.tuple [.str s, encL plain, .tuple [.str "group", .tuple (B.map encPa)]]]) = .ok (.tuple ((A ++ [(s, plain, Th.group B)]).map encPa)) := by
    have := add_Pa1 (a := A) (q := (s, plain, Th.group B)) (by omega)
    rw [encPa, encT_group] at this
    exact this
  have a2 : binD .add (.tuple ((A ++ [(s, plain, Th.group B)]).map encPa)) (.tuple (C.map encPa)) = .ok (.tuple ((A ++ (s, plain, .group B) :: C).map encPa)) := by
    have := add_Pa (xs := A ++ [(s, plain, Th.group B)]) (ys := C) (by simp; omega)
    rw [List.append_assoc] at this
    exact this
  have k1 : (0 : Int) ≤ (A.length : Int) := by omega
  have k2 : (A.length : Int) ≤ (A.length : Int) + (B.length : Int) := by omega
  have k3 : (A.length : Int) + (B.length : Int) ≤ ((A.length + (B.length + C.length) : Nat) : Int) := by omega
  refine k_go gg (by omega) rfl ?_
  exists d_grouped, e, excE, e2, k1, k2, k3, g.plain, cut_mid, cut_fst, cut_end, a1, a2, e4, e3
/-- parts that may stand in the place of one -/
structure Inst (zs : List Pa) (q : Pa) : Prop where
  ok : ∀ z ∈ zs, PlT z.2.1 ∧ 1 ≤ z.2.1.s ∧ wf z.2.2 ∧ dep z.2.2 ≤ dep q.2.2 ∧ z.2.1.s * scl z.2.2 ≤ q.2.1.s * scl q.2.2
  cnt : cntL zs ≤ cnt q.2.2
  len : zs.length ≤ 1000
theorem inst_le {a b zs : List Pa} {q : Pa} (h : Inst zs q) (hw : wf (.group (a ++ q :: b))) : depL (a ++ zs ++ b) ≤ depL (a ++ q :: b) ∧ cntL (a ++ zs ++ b) ≤ cntL (a ++ q :: b) ∧ sclL (a ++ zs ++ b) ≤ sclL (a ++ q :: b) ∧ wf (.group (a ++ zs ++ b)) := by
  rw [wf_group] at hw
  have qm : q ∈ a ++ q :: b := by simp
  refine ⟨depL_le fun w hw' => ?_, ?_, sclL_le (sclL_pos _) fun w hw' => ?_, wf_group.mpr fun w hw' => ?_⟩
  · rcases List.mem_append.mp hw' with hw' | hw'
    · rcases List.mem_append.mp hw' with hw' | hw'
      · exact dep_mem (List.mem_append.mpr (.inl hw'))
      · exact Nat.le_trans (h.ok w hw').2.2.2.1 (dep_mem qm)
    · exact dep_mem (by simp [hw'])
  · have := h.cnt
    rw [cntL_sum] at this
    rw [cntL_sum, cntL_sum]
    simp only [List.map_append, List.sum_append, List.map_cons, List.sum_cons]
    omega
  · rcases List.mem_append.mp hw' with hw' | hw'
    · rcases List.mem_append.mp hw' with hw' | hw'
      · exact scl_mem (List.mem_append.mpr (.inl hw'))
      · exact Int.le_trans (h.ok w hw').2.2.2.2 (scl_mem qm)
    · exact scl_mem (by simp [hw'])
  · rcases List.mem_append.mp hw' with hw' | hw'
    · rcases List.mem_append.mp hw' with hw' | hw'
      · exact hw w (List.mem_append.mpr (.inl hw'))
      · obtain ⟨h1, h2, h3, _⟩ := h.ok w hw'
        exact ⟨h1, h2, h3⟩
    · exact hw w (by simp [hw'])
section
variable {t : Th} {pre : Path} {s : Str} {p0 : Pl} {a b zs : List Pa} {q : Pa}
theorem inst_ok (h : Inst zs q) (hw : wf t) (hs : scl t < 1073741824) (hu : unl t) (hi : pre.any isIx = false) (hf : foundFrom plain t pre = some (p0, .group (a ++ q :: b))) : dep (withP pre t (a ++ zs ++ b)) ≤ dep t ∧ cnt (withP pre t (a ++ zs ++ b)) ≤ cnt t ∧ scl (withP pre t (a ++ zs ++ b)) ≤ scl t ∧ wf (withP pre t (a ++ zs ++ b)) := by
  have hfw := (found_fit hf hw plain_w (by show (1 : Int) * scl t < _; omega)).1
  obtain ⟨k1, k2, k3, k4⟩ := inst_le h hfw
  exact withP_ok hf hi hu hw k1 k2 k3 k4
theorem ev_inplace (g : GrpOk G) (gi : Has G "in_place" d_in_place) (hn : pre.length + 9 ≤ n) (h : Inst zs q) (hw : wf t) (hs : scl t < 1073741824) (hu : unl t) (hm : mustN t (pre ++ [.nm s]) = .ok ()) (hi : pre.any isIx = false) (hf : foundFrom plain t pre = some (p0, .group (a ++ q :: b))) (hq : q.1 = s) (ha : ∀ z ∈ a, z.1 ≠ s) (hl : (a ++ zs ++ b).length ≤ 4000) :
    callD G n "in_place" [encT t, .tuple ((pre ++ [Stp.nm s]).map encStp), .tuple (zs.map encPa)] = if ((a ++ zs ++ b).map (·.1)).Nodup then .ok (encT (withP pre t (a ++ zs ++ b))) else .exc "NoFit" .none := by
  obtain ⟨w1, w2, w3, w4⟩ := inst_ok h hw hs hu hi hf
  have e := ev_withp g.toChhOk (n := n - 1) (some := zs) (by omega) hw hs hu hm hi hf hq ha h.len
  have e2 := ev_thing_at g.toChgOk g.thing (n := n - 1) (by omega) (path := pre) w4 (by omega)
  rw [found_withP hf hi] at e2
  simp only [excO] at e2
  rw [encT_group] at e2
  by_cases hd : ((a ++ zs ++ b).map (·.1)).Nodup
  · rw [if_pos hd]
    have e3 := ev_unlike_ok g.unlike (n := n - 1) (by omega) hl hd
    simp only [List.append_assoc] at e e2 e3
    refine k_go gi (by omega) rfl ?_
    exists d_in_place, e, cut_last, e2, e3
  · rw [if_neg hd]
    have e3 := ev_unlike_no g.unlike (n := n - 1) (by omega) hl hd
    simp only [List.append_assoc] at e e2 e3
    refine k_go gi (by omega) rfl ?_
    exists d_in_place, e, cut_last, e2, e3
def ungP (r : Pl) (B : List Pa) : List Pa := B.map fun z => (z.1, together r z.2.1, z.2.2)
theorem inst_ung {B : List Pa} {r : Pl} {nm : Str} (hw : wf (.group (a ++ (nm, r, .group B) :: b))) (hl : B.length ≤ 1000) : Inst (ungP r B) (nm, r, .group B) := by
  rw [wf_group] at hw
  obtain ⟨h1, h2, h3⟩ := hw (nm, r, .group B) (by simp)
  rw [wf_group] at h3
  refine ⟨fun z hz => ?_, ?_, by simpa [ungP] using hl⟩
  · obtain ⟨y, hy, rfl⟩ := List.mem_map.mp hz
    obtain ⟨k1, k2, k3⟩ := h3 y hy
    refine ⟨together_T _ _, ?_, k3, ?_, ?_⟩
    · show 1 ≤ r.s * y.2.1.s
      have : 1 * 1 ≤ r.s * y.2.1.s := Int.mul_le_mul h2 k2 (by omega) (by simp only at h2; omega)
      omega
    · simp only [dep_group]
      have := dep_mem hy
      omega
    · show r.s * y.2.1.s * scl y.2.2 ≤ r.s * scl (.group B)
      rw [Int.mul_assoc, scl_group]
      exact Int.mul_le_mul_of_nonneg_left (scl_mem hy) (by simp only at h2; omega)
  · simp only [ungP, cnt_group]
    rw [cntL_map (g := fun z : Pa => (z.1, together r z.2.1, z.2.2)) fun _ _ => rfl]
    omega
theorem part_w (hw : wf t) (hs : scl t < 1073741824) (hf : foundFrom plain t pre = some (p0, .group (a ++ q :: b))) : PlW q.2.1 ∧ wf q.2.2 := by
  obtain ⟨f1, f2, f3⟩ := found_fit hf hw plain_w (by show (1 : Int) * scl t < _; omega)
  simp only at f1 f2 f3
  rw [wf_group] at f1
  obtain ⟨h1, h2, h3⟩ := f1 q (by simp)
  have qm : q ∈ a ++ q :: b := by simp
  have := scl_mem qm
  rw [scl_group] at f3
  have hp := f2.s1
  have l1 : 1 * sclL (a ++ q :: b) ≤ p0.s * sclL (a ++ q :: b) := Int.mul_le_mul_of_nonneg_right hp (by have := sclL_pos (a ++ q :: b); omega)
  have l2 : q.2.1.s * 1 ≤ q.2.1.s * scl q.2.2 := Int.mul_le_mul_of_nonneg_left (scl_pos _) (by omega)
  exact ⟨PlW.of h1 h2 (by omega), h3⟩
theorem ev_ungrouped (g : GrpOk G) (gi : Has G "in_place" d_in_place) (gu : Has G "ungrouped" d_ungrouped) (hn : pre.length + 10 ≤ n) (hw : wf t) (hs : scl t < 1073741824) (hu : unl t) (hm : mustN t (pre ++ [.nm s]) = .ok ()) (hi : pre.any isIx = false) {B : List Pa} {r : Pl} {nm : Str} (hf : foundFrom plain t pre = some (p0, .group (a ++ (nm, r, .group B) :: b))) (hq : nm = s) (ha : ∀ z ∈ a, z.1 ≠ s) (hlB : B.length ≤ 1000) (hl : a.length + B.length + b.length ≤ 4000) :
    callD G n "ungrouped" [encT t, .tuple ((pre ++ [Stp.nm s]).map encStp)] = if ((a ++ ungP r B ++ b).map (·.1)).Nodup then .ok (encT (withP pre t (a ++ ungP r B ++ b))) else .exc "NoFit" .none := by
  obtain ⟨f1, f2, f3⟩ := found_fit hf hw plain_w (by show (1 : Int) * scl t < _; omega)
  simp only at f1 f2 f3
  obtain ⟨pw, _⟩ := part_w hw hs hf
  simp only at pw
  have I := inst_ung f1 hlB
  have e := ev_part g.toChhOk (n := n - 1) (by omega) hw hs hm hf hq ha
  have e2 := ev_inplace g gi (n := n - 1) (by omega) I hw hs hu hm hi hf hq ha (by simp [ungP]; omega)
  refine k_go gu (by omega) rfl ?_
  exists d_ungrouped, e, idx_at, encT_group
  rw [cmpl_map (fun z : Pa => encPa (z.1, together r z.2.1, z.2.2)) B fun z _ rs => by exists ev_together g.toPlcOk _ pw]
  rw [show B.map (fun z : Pa => encPa (z.1, together r z.2.1, z.2.2)) = (ungP r B).map encPa by rw [ungP, List.map_map]; rfl]
  exists True.intro
  simp only [List.append_assoc] at e2
  rw [e2]
  split <;> rfl
theorem sprd_len {r : Pl} {x y : Int} {u : Th} {names : List Str} : (sprd r x y u names).length = names.length := by simp [sprd]
theorem sprd_mem {r : Pl} {x y : Int} {u : Th} {names : List Str} {z : Pa} (h : z ∈ sprd r x y u names) : ∃ k : Nat, z.2 = (together r (stepPl k x y), u) := by
  obtain ⟨w, _, rfl⟩ := List.mem_map.mp h
  exact ⟨w.2, rfl⟩
theorem cntL_same {u : Th} : ∀ {l : List Pa}, (∀ z ∈ l, z.2.2 = u) → cntL l = l.length * cnt u
  | [], _ => by simp [cntL]
  | (a, b, c) :: l, h => by
    have e := h _ List.mem_cons_self
    simp only at e
    rw [cntL, cntL_same fun z hz => h z (List.mem_cons_of_mem _ hz), List.length_cons, e, Nat.add_mul]
    omega
theorem inst_sprd {r : Pl} {nm : Str} {k x y : Int} {u : Th} {names : List Str} (hw : wf (.group (a ++ (nm, r, .row k x y u) :: b))) (hk : (names.length : Int) = k) : Inst (sprd r x y u names) (nm, r, .row k x y u) := by
  rw [wf_group] at hw
  obtain ⟨h1, h2, h0, h6, h3⟩ := hw (nm, r, .row k x y u) (by simp)
  refine ⟨fun z hz => ?_, ?_, by rw [sprd_len]; omega⟩
  · obtain ⟨j, e⟩ := sprd_mem hz
    rw [e]
    refine ⟨together_T _ _, ?_, h3, ?_, ?_⟩
    · show 1 ≤ r.s * 1
      simp only at h2; omega
    · simp only [dep_row]; omega
    · show r.s * 1 * scl u ≤ r.s * scl (.row k x y u)
      rw [Int.mul_one, scl_row]
      exact Int.le_refl _
  · rw [cntL_same (u := u) fun z hz => by obtain ⟨j, e⟩ := sprd_mem hz; rw [e], sprd_len]
    simp only [cnt]
    rw [← hk]
    simp
theorem ev_spread (g : GrpOk G) (gi : Has G "in_place" d_in_place) (gu : Has G "spread" d_spread) (hn : pre.length + 10 ≤ n) (hw : wf t) (hs : scl t < 1073741824) (hu : unl t) (hm : mustN t (pre ++ [.nm s]) = .ok ()) (hi : pre.any isIx = false) {k x y : Int} {u : Th} {r : Pl} {nm : Str} {names : List Str} (hf : foundFrom plain t pre = some (p0, .group (a ++ (nm, r, .row k x y u) :: b))) (hq : nm = s) (ha : ∀ z ∈ a, z.1 ≠ s) (hk : (names.length : Int) = k) (hl : a.length + names.length + b.length ≤ 4000) :
    callD G n "spread" [encT t, .tuple ((pre ++ [Stp.nm s]).map encStp), .tuple (names.map .str)] = if ((a ++ sprd r x y u names ++ b).map (·.1)).Nodup then .ok (encT (withP pre t (a ++ sprd r x y u names ++ b))) else .exc "NoFit" .none := by
  obtain ⟨f1, f2, f3⟩ := found_fit hf hw plain_w (by show (1 : Int) * scl t < _; omega)
  simp only at f1 f2 f3
  obtain ⟨pw, h0, h6, _⟩ := part_w hw hs hf
  simp only at pw
  have I := inst_sprd f1 hk
  have e := ev_part g.toChhOk (n := n - 1) (by omega) hw hs hm hf hq ha
  have e2 := ev_inplace g gi (n := n - 1) (by omega) I hw hs hu hm hi hf hq ha (by simp [sprd_len]; omega)
  have eT : encT (.row k x y u) = .tuple [.str "row", .int k, .int x, .int y, encT u] := by rw [encT]
  have hen : enumIt (.tuple (names.map .str)) = .ok (names.zipIdx.map fun q => .tuple [.int (q.2 : Int), .str q.1]) := congrArg Res.ok (enumD_zip names 0)
  refine k_go gu (by omega) rfl ?_
  exists d_spread, e, idx_at, eT, hk, hen
  refine k_seq (lp_app (enc := fun q : Str × Nat => PyData.tuple [.int (q.2 : Int), .str q.1]) (fun acc : List Pa => [.val (encT t), .val (.tuple ((pre ++ [Stp.nm s]).map encStp)), .val (.tuple (names.map .str)), .own (.list (acc.map encPa)), .val (.tuple ((a ++ (nm, r, .row k x y u) :: b).map encPa)), .val (.int (a.length : Int)), .val (.str nm), .val (encL r), .val (.tuple [.str "row", .int k, .int x, .int y, encT u]), .un, .un]) (fun q => [(q.1, together r (stepPl q.2 x y), u)]) 1000000 names.zipIdx (by rw [flatMap_one]; simp; omega) fun acc q hq' hB => ?_) ?_
  · simp only [List.map_append]
    simp only [List.length_cons, List.length_nil] at hB
    obtain ⟨nm', j⟩ := q
    have hj : j < names.length := by
      have := List.snd_lt_of_mem_zipIdx hq'
      simpa using this
    have sj : sm (j : Int) := ⟨by omega, by omega⟩
    have e5 : callD G (n - 1) "copy_placing" [.tuple [.str "row", .int k, .int x, .int y, encT u], .int (j : Int)] = .ok (encL (stepPl j x y)) := ev_copyH g.copy (by omega) sj
    exists e5, ev_together g.toPlcOk _ pw
  · rw [flatMap_one]
    simp only [List.append_assoc] at e2
    rw [show (names.zipIdx.map fun q => (q.1, together r (stepPl q.2 x y), u)) = sprd r x y u names from rfl]
    exists e2
    split <;> rfl
end
end
end DP

/-! ## K44Prog -/
set_option Elab.async false
set_option linter.all false
set_option maxRecDepth 100000
set_option autoImplicit false
namespace DP.K44
open DP PySem
def d_law : Def := ⟨"law", ["_law_script", "_law_sheet", "_law_some", "_law_number", "_law_path_here", "_law_thing_here", "_law_due", "_law_first", "_law_many", "_law_new", "_law_names"], 1,
  (.cons (.asg 1 (.call "_law_group" (.cons (.call "_law_mixed" (.cons (.var 0) (.cons (.int 0) .nil))) (.cons (.bin .add (.int 2) (.bin .mod (.call "_law_mixed" (.cons (.var 0) (.cons (.int 1) .nil))) (.int 3))) .nil))))
  (.cons (.asg 2 (.comp (.var 4) (.name 4) (.plain (.call "_law_paths" (.cons (.var 1) .nil))) (.cons (.call "_law_is_plain" (.cons (.var 4) .nil)) .nil)))
  (.cons (.asg 3 (.call "_law_mixed" (.cons (.var 0) (.cons (.int 2) .nil))))
  (.cons (.asg 4 (.idx (.var 2) (.bin .mod (.var 3) (.blt .len (.cons (.var 2) .nil)))))
  (.cons (.asg 5 (.idx (.call "_law_at" (.cons (.var 1) (.cons (.var 4) .nil))) (.int 0)))
  (.cons (.asg 6 (.call "picture" (.cons (.var 1) .nil)))
  (.cons (.ite (.and (.cons (.cmp .eq (.idx (.var 5) (.int 0)) (.str "group")) (.cons (.cmp .gt (.blt .len (.cons (.idx (.var 5) (.int 1)) .nil)) (.int 0)) .nil)))
  (.cons (.asg 7 (.bin .mod (.bin .fdiv (.var 3) (.int 64)) (.blt .len (.cons (.idx (.var 5) (.int 1)) .nil))))
  (.cons (.asg 8 (.bin .add (.int 1) (.bin .mod (.bin .fdiv (.var 3) (.int 256)) (.bin .sub (.blt .len (.cons (.idx (.var 5) (.int 1)) .nil)) (.var 7)))))
  (.cons (.asg 9 (.call "grouped" (.cons (.var 1) (.cons (.var 4) (.cons (.var 7) (.cons (.var 8) (.cons (.str "new") .nil)))))))
  (.cons (.ite (.or (.cons (.cmp .ne (.call "picture" (.cons (.var 9) .nil)) (.var 6)) (.cons (.cmp .ne (.call "ungrouped" (.cons (.var 9) (.cons (.bin .add (.var 4) (.tup (.cons (.str "new") .nil))) .nil))) (.var 1)) .nil)))
  (.cons (.ret (.bl false))
  .nil)
  .nil)
  .nil))))
  .nil)
  (.cons (.ite (.and (.cons (.cmp .eq (.idx (.var 5) (.int 0)) (.str "group")) (.cons (.cmp .ne (.var 4) (.tup .nil)) .nil)))
  (.cons (.asg 9 (.told "ungrouped" (.cons (.var 1) (.cons (.var 4) .nil))))
  (.cons (.ite (.and (.cons (.cmp .ne (.var 9) (.tup (.cons (.str "refused") (.cons (.int 2) .nil)))) (.cons (.or (.cons (.cmp .eq (.idx (.var 9) (.int 0)) (.str "refused")) (.cons (.cmp .ne (.call "picture" (.cons (.idx (.var 9) (.int 1)) .nil)) (.var 6)) .nil))) .nil)))
  (.cons (.ret (.bl false))
  .nil)
  .nil)
  .nil))
  .nil)
  (.cons (.ite (.and (.cons (.cmp .eq (.idx (.var 5) (.int 0)) (.str "row")) (.cons (.cmp .ne (.var 4) (.tup .nil)) .nil)))
  (.cons (.asg 10 (.slc (.tup (.cons (.str "new") (.cons (.str "newa") (.cons (.str "newb") (.cons (.str "newc") (.cons (.str "newd") (.cons (.str "newe") .nil))))))) .non (.idx (.var 5) (.int 1))))
  (.cons (.ret (.cmp .eq (.call "picture" (.cons (.call "spread" (.cons (.var 1) (.cons (.var 4) (.cons (.var 10) .nil)))) .nil)) (.var 6)))
  .nil))
  .nil)
  (.cons (.ret (.bl true))
  .nil))))))))))⟩
def theProg : Prog := ⟨[d_put, d_together, d_shape_of, d_copy_placing, d_flat_from, d_flat, d_picture, d_is_number, d_inner_of, d_found_at, d_thing_at, d_must_be_names, d_with_parts, d_part_at, d_with_part, d_only_unlike, d_grouped, d_in_place, d_ungrouped, d_spread, d_law_cell_at, d_law_mixed, d_law_drawn, d_law_far, d_law_point, d_law_placing, d_law_name, d_law_simple, d_law_thing, d_law_group_b, d_law_matrix, d_law_put, d_law_both, d_law_paths_b, d_law_at_b, d_law_is_plain, d_law],
  [("PLAIN", (.tuple [(.int 0), (.int 0), (.int 1), (.int 0), (.int 0)]))], 1000, ["NoFit", "NoPart"], ["law"]⟩
end DP.K44

/-! ## K44Law -/
set_option Elab.async false
set_option linter.all false
set_option maxRecDepth 100000
set_option maxHeartbeats 4000000
set_option autoImplicit false
namespace DP.K44
open DP PySem
local macro_rules | `(tactic| exists $es,*) => `(tactic| simp -implicitDefEqProofs (disch := first | assumption | omega | (simp only [List.length_map, List.length_append, List.length_cons, List.length_nil]; omega) | decide | (simp [nd, ndAll, PyData.depth, PyData.depthAll]; done)) only [q_b1, q_bL, q_b2, q_mkT, q_mkL, q_cons2, q_notK, q_andK, q_andKf, q_andKt, q_orK, q_orKt, q_orKf, q_chainK3, q_chainK, q_slcK, q_tK, q_tKf, q_cmplK, q_cl0, q_cl1, q_cl1o, q_selt, q_self, q_seqn, q_seqr, q_seqe, q_seqi, q_asgK, q_asgOK, q_nxE, q_unpK, q_unpLK, q_parK, q_exprK, q_appK, q_extK, q_retK, q_retOK, q_iteK, q_forK, q_lp0, q_lp1, q_lpS, q_lpKn, q_lpKr, q_lpKe, q_lpKi, q_frzo, q_frzv, q_slotV, q_slotLv, q_slotLo, q_optV, q_outr, q_outn, q_oute, q_outi, q_w0, q_w1, q_sa0, q_sa1, q_stn, q_stt, q_tgn, q_tgt, q_eint, q_ebl, q_enon, q_estr, q_evar, q_eglob, q_etup, q_elst, q_ebin, q_eneg, q_enot, q_eand, q_eor, q_and1, q_and2, q_or1, q_or2, q_ecmp, q_echain3, q_echain, q_ecall, q_etold, q_told1, q_told2, q_told3, q_told4, q_low59, q_otold, q_eblt, q_eisi, q_eidx, q_eslc, q_erev, q_ecomp, q_es0, q_es1, q_bs0, q_bs1, q_t0, q_t1, q_iplain, q_irng, q_irng2, q_fplain, q_frng, q_frng2, q_ienum, q_izip, q_irev, q_fenum, q_fzip, q_frev, q_ovar, q_oint, q_obl, q_onon, q_ostr, q_oglob, q_otup, q_olst, q_obin, q_oneg, q_onot, q_oand, q_oor, q_ocmp, q_ochain, q_ochain3, q_ocall, q_oblt, q_oisi, q_oidx, q_oslc, q_orev, q_ometh, q_ocomp, q_odctget, q_odctidx, q_pint, q_pnon, q_pglob, q_pbin, q_pneg, q_pcall, q_pblt, q_pidx, q_pvar, q_ss0, q_ss1, q_sasg, q_sasgOlst, q_sasgOcomp, q_sasgObin, q_sasgOslc, q_sasgOrev, q_sasgOlist, q_sasgOsorted, q_sunp, q_sunpL, q_spar, q_sexpr, q_sapp, q_sext, q_sret, q_sretO, q_site, q_sfor, q_spass, q_zvar, q_zint, q_zbl, q_znon, q_zstr, q_zglob, q_ztup, q_zlst, q_zbin, q_zneg, q_znot, q_zand, q_zor, q_zcmp, q_zchain, q_zchain3, q_zcall, q_zblt, q_zisi, q_zidx, q_zslc, q_zrev, q_zmeth, q_zcomp, q_zdctget, q_zdctidx, q_zrng, q_zrng2, q_zenum, q_zzip, q_zirev, q_add, q_sub, q_mulR, q_mulL, q_fdiv, q_mod, q_neg, q_cI, q_cnI, q_cS, q_cnS, q_cB, q_cnB, q_clt, q_cle, q_cgt, q_cge, q_isN, q_isnN, q_ist, q_isnt, q_isl, q_isnl, q_isi, q_isni, q_iss, q_isns, q_isb, q_isnb, q_ixt0, q_ixl0, q_ixt1, q_ixl1, q_ixt2, q_ixl2, q_ixt3, q_ixl3, q_ixt4, q_ixl4, q_ixt5, q_ixl5, q_ixt6, q_ixl6, q_ixt7, q_ixl7, q_ixt8, q_ixl8, q_lent0, q_lenl0, q_lent1, q_lenl1, q_lent2, q_lenl2, q_lent3, q_lenl3, q_lent4, q_lenl4, q_lent5, q_lenl5, q_lent6, q_lenl6, q_lent7, q_lenl7, q_lent8, q_lenl8, q_lenTm, q_lenLm, q_bint, q_bintb, q_babs, q_blst, q_blstT, q_btup, q_btupT, q_bmin, q_bmax, q_isi_int_int, q_isi_int_bool, q_isi_int_str, q_isi_int_tuple, q_isi_int_list, q_isi_int_none, q_isi_bool_int, q_isi_bool_bool, q_isi_bool_str, q_isi_bool_tuple, q_isi_bool_list, q_isi_bool_none, q_isi_str_int, q_isi_str_bool, q_isi_str_str, q_isi_str_tuple, q_isi_str_list, q_isi_str_none, q_isi_tuple_int, q_isi_tuple_bool, q_isi_tuple_str, q_isi_tuple_tuple, q_isi_tuple_list, q_isi_tuple_none, q_isi_list_int, q_isi_list_bool, q_isi_list_str, q_isi_list_tuple, q_isi_list_list, q_isi_list_none, q_itL, q_itT, q_rng0, q_rng1, q_rng2, q_rng3, q_rng4, q_revL, q_revT, q_rvL, q_rvT, q_slT, q_slL, q_xasg, q_xret, q_xb1, q_xbL, q_xb2l, q_xb2r, q_xc2l, q_xc2r, q_xmkT, q_xmkL, q_xexpr, q_xunp, q_xite, q_xparl, q_xparr, q_xnot, q_xfor, q_xslc, q_srais, q_emeth, q_mthi, q_mthz, q_mths, q_mthj, q_sel, q_seqnil, q_lpTn, q_lpTr, q_lpTe, q_lpTi, q_s_line_box, q_s_line_ring, q_s_line_field, q_s_line_row, q_s_line_group, q_s_box_line, q_s_box_ring, q_s_box_field, q_s_box_row, q_s_box_group, q_s_ring_line, q_s_ring_box, q_s_ring_field, q_s_ring_row, q_s_ring_group, q_s_field_line, q_s_field_box, q_s_field_ring, q_s_field_row, q_s_field_group, q_s_row_line, q_s_row_box, q_s_row_ring, q_s_row_field, q_s_row_group, q_s_group_line, q_s_group_box, q_s_group_ring, q_s_group_field, q_s_group_row, q_Pteta, q_Pleta, q_Mteta, q_cLL0, q_cTT0, q_cnLL0, q_cnTT0, List.getD_cons_zero, List.getD_cons_succ, List.set_cons_zero, List.set_cons_succ, List.map_cons, List.map_nil, List.cons_append, List.nil_append, List.append_assoc, List.length_cons, List.length_nil, List.length_map, List.length_append, List.replicate_succ, List.replicate_zero, ↓reduceIte, decide_eq_true_eq, Bool.not_eq_true', Bool.not_true, Bool.not_false, Bool.true_and, Bool.false_and, Bool.and_true, Bool.and_false, Bool.or_true, Bool.or_false, Bool.true_or, Bool.false_or, Bool.and_eq_true, Bool.or_eq_true, Bool.not_not, decide_eq_false_iff_not, decide_true, decide_false, Bool.false_eq_true, eq_self, not_true_eq_false, not_false_eq_true, true_and, and_true, false_and, and_false, or_true, true_or, or_false, false_or, Int.reduceAdd, Int.reduceMul, Int.reduceSub, Int.reduceNeg, Int.reduceLT, Int.reduceLE, Int.reduceEq, Int.reduceMod, Int.reduceDiv, Nat.reduceAdd, Nat.reduceSub, Int.reduceNe, $[$es:term],*])
theorem has {f : Str} {d : Def} (h : findDef theProg.defs f = some d) : Has theProg f d := ⟨d, h, rfl, rfl, rfl⟩
theorem has2 {f : Str} {d d' : Def} (h : findDef theProg.defs f = some d) (hb : d.body = d'.body) (ha : d.arity = d'.arity) (hl : d.names.length = d'.names.length) : Has theProg f d' := ⟨d, h, hb, ha, hl⟩
theorem has_law : Has theProg "law" d_law := has rfl
theorem gen : GenOk theProg := ⟨has rfl, has rfl, has rfl, has rfl, has rfl, has rfl⟩
theorem thg : ThgOk theProg := ⟨gen, has rfl, has rfl, has rfl, has2 rfl rfl rfl rfl⟩
theorem plc : PlcOk theProg := ⟨has rfl, has rfl⟩
theorem flt : FltOk theProg := ⟨plc, has rfl, has rfl, has rfl, has rfl, rfl⟩
theorem mat : MatOk theProg := ⟨has rfl, has rfl, has rfl⟩
theorem lat : LatOk theProg := ⟨mat, has2 rfl rfl rfl rfl⟩
theorem cgo : ChgOk theProg := ⟨plc, has rfl, rfl, has rfl, has rfl, has rfl⟩
theorem cho : ChhOk theProg := ⟨cgo, has rfl, has rfl, has rfl, has rfl, has rfl⟩
theorem gro : GrpOk theProg := ⟨cho, has rfl⟩
theorem found_drw : ∀ {path : Path} {p : Pl} {t : Th} {r : Pl × Th}, foundFrom p t path = some r → drw t → drw r.2
  | [], _, _, _, h, hu => by cases h; exact hu
  | s :: path, p, t, w, h, hu => by
    rw [foundFrom] at h
    cases z : innerOf t s with
    | none => rw [z] at h; cases h
    | some v =>
      obtain ⟨m, t'⟩ := v
      rw [z] at h
      refine found_drw h ?_
      cases t with
      | group ps =>
        cases s with
        | ix i => cases z
        | nm s =>
          simp only [innerOf, Option.map_eq_some_iff] at z
          obtain ⟨q, hq, e⟩ := z
          rw [drw, drwL_iff] at hu
          have := (hu.2 q (find_mem hq).1).2.2
          rw [e] at this; exact this
      | row n x y u =>
        cases s with
        | nm s => cases z
        | ix i =>
          simp only [innerOf] at z
          split at z
          · cases z; rw [drw] at hu; exact hu.2
          · cases z
      | _ => cases s <;> cases z
def newNs : List Str := ["new", "newa", "newb", "newc", "newd", "newe"]
theorem nm_old {s : Str} (hs : s ∈ newNs) (a : Int) : nmOf a ≠ s := by
  have h : nmOf a ∈ (["a", "b", "c", "d", "e", "legs", "roof", "x", "door", "z"] : List Str) := by
    unfold nmOf
    exact pick_mem (by omega) (by simp; omega)
  intro e
  rw [e] at h
  revert h hs
  generalize s = z
  intro hs h
  have : ∀ z ∈ newNs, z ∉ (["a", "b", "c", "d", "e", "legs", "roof", "x", "door", "z"] : List Str) := by decide
  exact this z hs h
theorem idx_LE {α : Type} {enc : α → PyData} {xs : List α} {d : α} {i : Int} (h0 : 0 ≤ i) (h1 : i < xs.length) : idxD (.list (xs.map enc)) (.int i) = .ok (enc (pick xs d i)) := by
  rw [← pick_map enc]
  simp [idxD, atI_pick (xs := xs.map enc) (d := enc d) h0 (by simpa using h1)]
structure Sht (t : Th) : Prop where
  wf : wf t
  unl : unl t
  dep : dep t ≤ 6
  cnt : cnt t ≤ 150000
  scl : scl t ≤ 60000
theorem pic {t : Th} (h : Fit t) : callD theProg 59 "picture" [encT t] = .ok (.tuple ((shps t plain).map encS)) :=
  ev_picture (n := 59) flt (has rfl) (th := t) (by have := h.dep; omega) h.wf (by have := h.cnt; omega) h.scl (by have := h.dep; omega)
section
variable {th : Th} (S : Sht th) {path : Path} (hl : path.length ≤ 6) (hi : path.any isIx = false)
include S hl hi
theorem grp_facts {p : Pl} {A B C : List Pa} (hf : foundFrom plain th path = some (p, .group (A ++ B ++ C))) (h4 : (A ++ B ++ C).length ≤ 4) (hn : ∀ q ∈ A ++ B ++ C, q.1 ≠ "new") :
    ∃ nw, callD theProg 59 "grouped" [encT th, .tuple (path.map encStp), .int (A.length : Int), .int (B.length : Int), .str "new"] = .ok (encT nw) ∧
      callD theProg 59 "picture" [encT nw] = .ok (.tuple ((shps th plain).map encS)) ∧
      callD theProg 59 "ungrouped" [encT nw, .tuple ((path ++ [Stp.nm "new"]).map encStp)] = .ok (encT th) := by
  have hs := S.scl
  have hd := S.dep
  have hc := S.cnt
  have hk := found_unl hf S.unl
  simp only at hk
  have hk' := hk
  rw [unl_group] at hk
  obtain ⟨f1, f2, f3⟩ := found_fit hf S.wf plain_w (by show (1 : Int) * scl th < _; omega)
  simp only at f1 f2 f3
  rw [wf_group] at f1
  have hnd := hk.1.1
  simp only [List.length_append] at h4
  have hd' : ((A ++ ((("new" : Str), plain, Th.group B) : Pa) :: C).map (·.1)).Nodup := by
    simp only [List.map_append, List.map_cons] at hnd ⊢
    rw [List.append_assoc, List.nodup_append] at hnd
    obtain ⟨n1, n2, n3⟩ := hnd
    rw [List.nodup_append] at n2
    obtain ⟨n4, n5, n6⟩ := n2
    rw [List.nodup_append, List.nodup_cons]
    refine ⟨n1, ⟨fun hx => ?_, n5⟩, fun x hx y hy => ?_⟩
    · obtain ⟨q, hq, e⟩ := List.mem_map.mp hx
      exact hn q (by simp [hq]) e
    · rcases List.mem_cons.mp hy with rfl | hy
      · obtain ⟨q, hq, e⟩ := List.mem_map.mp hx
        exact fun e' => hn q (by simp [hq]) (e.trans e')
      · exact n3 x hx y (List.mem_append.mpr (.inr hy))
  have g1 := ev_grouped gro (has rfl) (n := 59) (s := "new") (by omega) S.wf (by omega) S.unl hi hf (by omega) hd'
  have subB : ∀ z ∈ B, z ∈ A ++ B ++ C := fun z hz => by simp [hz]
  have wB : wf (.group B) := wf_group.mpr fun z hz => f1 z (subB z hz)
  have sB : scl (.group B) ≤ sclL (A ++ B ++ C) := by
    rw [scl_group]
    exact sclL_le (sclL_pos _) fun z hz => scl_mem (subB z hz)
  have wP : wf (.group (A ++ ((("new" : Str), plain, Th.group B) : Pa) :: C)) := wf_group.mpr fun z hz => by
    rcases List.mem_append.mp hz with hz | hz
    · exact f1 z (by simp [hz])
    · rcases List.mem_cons.mp hz with rfl | hz
      · exact ⟨plain_T, (Int.le_refl 1 : (1 : Int) ≤ 1), wB⟩
      · exact f1 z (by simp [hz])
  have uP : unl (.group (A ++ ((("new" : Str), plain, Th.group B) : Pa) :: C)) := unl_group.mpr ⟨⟨hd', by simp; omega⟩, fun z hz => by
    rcases List.mem_append.mp hz with hz | hz
    · exact hk.2 z (by simp [hz])
    · rcases List.mem_cons.mp hz with rfl | hz
      · refine unl_group.mpr ⟨⟨?_, by omega⟩, fun w hw => hk.2 w (subB w hw)⟩
        simp only [List.map_append] at hnd
        rw [List.append_assoc, List.nodup_append, List.nodup_append] at hnd
        exact hnd.2.1.1
      · exact hk.2 z (by simp [hz])⟩
  obtain ⟨w1, w2, w3, w4⟩ := withP_ok2 (parts := A ++ ((("new" : Str), plain, Th.group B) : Pa) :: C) hf hi S.unl S.wf (depL_le fun z hz => by
      rcases List.mem_append.mp hz with hz | hz
      · exact Nat.le_trans (dep_mem (by simp [hz])) (Nat.le_succ _)
      · rcases List.mem_cons.mp hz with rfl | hz
        · simp only [dep_group]
          exact Nat.succ_le_succ (depL_le fun w hw => dep_mem (subB w hw))
        · exact Nat.le_trans (dep_mem (by simp [hz])) (Nat.le_succ _)) (by
      rw [cntL_sum, cntL_sum]
      simp only [List.map_append, List.map_cons, List.sum_append, List.sum_cons, cnt_group, cntL_sum]
      omega) (sclL_le (sclL_pos _) fun z hz => by
      rcases List.mem_append.mp hz with hz | hz
      · exact scl_mem (by simp [hz])
      · rcases List.mem_cons.mp hz with rfl | hz
        · simp only [Int.one_mul]; exact sB
        · exact scl_mem (by simp [hz])) wP
  refine ⟨_, g1, ?_, ?_⟩
  · rw [pic ⟨w4, by omega, by omega, by omega⟩]
    rw [shps_withP hf hi S.unl (fun p hp => shps_grp p hp) plain_T]
  · have hf2 := found_withP (X := A ++ ((("new" : Str), plain, Th.group B) : Pa) :: C) hf hi
    have hm : mustN (withP path th (A ++ ((("new" : Str), plain, Th.group B) : Pa) :: C)) (path ++ [.nm "new"]) = .ok () := by
      unfold mustN
      rw [found_app, hf2]
      have hfi : (A ++ ((("new" : Str), plain, Th.group B) : Pa) :: C).find? (named "new") = some ((("new" : Str), plain, Th.group B) : Pa) := by
        rw [List.find?_append, List.find?_eq_none.mpr fun z hz => by simpa [named] using hn z (by simp [hz])]
        simp [named]
      simp only [Option.bind_some, foundFrom, innerOf, hfi, Option.map_some]
      rw [if_neg (by simp only [List.any_append, hi]; simp [isIx])]
    have u1 := ev_ungrouped gro (has rfl) (has rfl) (n := 59) (s := "new") (by omega) w4 (by omega) (unl_withP uP path th S.unl) hm hi hf2 rfl (fun z hz => hn z (by simp [hz])) (by omega) (by omega)
    have eB : ungP plain B = B := by
      unfold ungP
      conv => rhs; rw [← List.map_id B]
      exact List.map_congr_left fun z hz => by rw [plain_tog (f1 z (subB z hz)).1]; rfl
    rw [eB, if_pos hnd, withP_withP, withP_self hf hi S.unl] at u1
    exact u1
end
theorem cmp_tr {t : Th} (h : dep t ≤ 19) : cmpD .ne (.tuple [.str "told", encT t]) (.tuple [.str "refused", .int 2]) = .ok (.bool true) := by
  rw [cmp_neqv (by simp [nd, ndAll, nd_T]) rfl (dp_told h)]
  have : PyData.eqv (.tuple [.str "told", encT t]) (.tuple [.str "refused", .int 2]) = false := by
    simp only [PyData.eqv, PyData.eqvAll]
    rw [show (("told" : Str) == "refused") = false by decide]; rfl
  rw [this]; rfl
theorem law_holds : ∀ ns : List Int, ns.length ≤ 63 → callD theProg 60 "law" [scrD ns] = .ok (.bool true) := fun ns _ => by
  obtain ⟨th, hth⟩ : ∃ th, group (2 + mixed ns 1 % 3).toNat (mixed ns 0) = th := ⟨_, rfl⟩
  have D := dr_group_of (2 + mixed ns 1 % 3).toNat (mixed ns 0) (by omega)
  rw [hth] at D
  have S0 : Sml th := sml_of D.1 (by omega)
  have F := S0.fit
  have hw := F.wf
  have hu := drw_unl _ S0.drw
  have hd : DP.dep th ≤ 3 := Nat.le_trans D.1.dep (by omega)
  have hc : cnt th ≤ 150000 := by
    have b := drw_cnt th S0.drw
    have b' : 8 ^ DP.dep th ≤ 8 ^ 3 := Nat.pow_le_pow_right (by decide) hd
    omega
  have hs := S0.scl
  have S : Sht th := ⟨hw, hu, by omega, hc, by omega⟩
  have e1 : callD theProg 59 "_law_group" [.int (mixed ns 0), .int (2 + mixed ns 1 % 3)] = .ok (encT th) := by
    rw [← hth]; exact ev_group_int thg (by omega) (by omega) (by decide)
  have e2 := ev_paths (G := theProg) (has2 rfl rfl rfl rfl) th (n := 59) (by omega) (by omega) hw (by omega)
  refine k_go has_law (by omega) rfl ?_
  exists d_law, ev_mixed gen, e1, e2
  rw [cmpl_filter (fun path : Path => !path.any isIx) encPath (paths th) fun p hp rs => by
    exists ev_plain (has rfl)]
  obtain ⟨L, hL⟩ : ∃ L, (paths th).filter (fun path : Path => !path.any isIx) = L := ⟨_, rfl⟩
  rw [hL]
  have h0 : ([] : Path) ∈ L := by
    rw [← hL]
    refine List.mem_filter.mpr ⟨?_, rfl⟩
    cases th with
    | group ps => rw [paths_group]; simp
    | row => rw [paths_row]; simp
    | _ => rw [paths_smp rfl]; simp
  have hl : 0 < L.length := List.length_pos_iff.mpr fun e => by rw [e] at h0; cases h0
  have hlp : (0 : Int) < L.length := by omega
  have lL : L.length ≤ 262144 := by rw [← hL]; exact Nat.le_trans (List.length_filter_le ..) (Nat.le_trans (paths_len th) (by omega))
  have ln : bltD .len [.list (L.map encPath)] = .ok (.int (L.length : Int)) := by simp [bltD, lenD]
  have i1 := idx_LE (enc := encPath) (xs := L) (d := []) (i := mixed ns 2 % L.length) (Int.emod_nonneg _ (by omega)) (Int.emod_lt_of_pos _ hlp)
  have im := pick_mem (xs := L) (d := []) (i := mixed ns 2 % L.length) (Int.emod_nonneg _ (by omega)) (Int.emod_lt_of_pos _ hlp)
  obtain ⟨path, hp⟩ : ∃ p, pick L [] (mixed ns 2 % L.length) = p := ⟨_, rfl⟩
  rw [hp] at i1 im
  rw [← hL] at im
  obtain ⟨im, ic⟩ := List.mem_filter.mp im
  have hi : path.any isIx = false := by simpa using ic
  have hdp := paths_dep th _ im
  obtain ⟨R, hR⟩ := Option.isSome_iff_exists.mp (paths_found th hu hw _ im plain)
  obtain ⟨p, u⟩ := R
  have e3 := ev_lat lat (n := 59) (by decide) (path := path) hw (by omega)
  rw [hR] at e3
  simp only [latR] at e3
  have e4 := pic F
  have c0 := cmp_nTT0 (enc_Stp.ndAll path)
  have hX : ∀ X Y : List PyData, X = Y → X = Y := fun _ _ h => h
  have part : path ≠ [] → ∃ pre s p0 a q b, path = pre ++ [.nm s] ∧ pre.any isIx = false ∧ mustN th path = .ok () ∧ foundFrom plain th pre = some (p0, .group (a ++ q :: b)) ∧ q.1 = s ∧ (∀ z ∈ a, z.1 ≠ s) ∧ q.2.2 = u ∧ (a ++ q :: b).length ≤ 4 ∧ (∀ z ∈ a ++ q :: b, ∃ i, z.1 = nmOf i) ∧ ((a ++ q :: b).map (·.1)).Nodup := fun hne => by
    have hm : mustN th path = .ok () := by simp only [mustN, hR, hi]; rfl
    rcases part_cases th path with ⟨c, h1, h3⟩ | ⟨pre, s, p0, a, q, b, k0, hi', _, hf, hq, ha, h1, h3⟩
    · rcases h3 with h3 | ⟨_, h3, _⟩
      · rw [hm] at h3; cases h3
      · exact absurd h3 hne
    · have dq := found_drw hf S0.drw
      simp only at dq
      rw [drw, drwL_iff] at dq
      rw [hR] at h3
      have : (p, u) = (together p0 q.2.1, q.2.2) := Option.some.inj h3
      exact ⟨pre, s, p0, a, q, b, k0, hi', hm, hf, hq, ha, (congrArg Prod.snd this).symm, dq.1.2, fun z hz => (dq.2 z hz).1, dq.1.1⟩
  have hpl : path.length ≤ 5 := by omega
  have htr : ((Str.ofString "told") = Str.ofString "refused") = False := eq_false (by decide)
  cases u with
  | group ps =>
    rw [encT_group] at e3
    have dq := found_drw hR S0.drw
    simp only at dq
    rw [drw, drwL_iff] at dq
    have hn : ∀ q ∈ ps, q.1 ≠ "new" := fun q hq => by
      obtain ⟨i, e⟩ := (dq.2 q hq).1
      rw [e]; exact nm_old (by decide) i
    have P2 : (List.map encStp path = []) = True ∨ (∃ X, (List.map encStp path = []) = False ∧ callD theProg 57 "ungrouped" [encT th, .tuple (path.map encStp)] = .ok (encT X) ∧ cmpD .ne (.tuple [.str "told", encT X]) (.tuple [.str "refused", .int 2]) = .ok (.bool true) ∧ callD theProg 59 "picture" [encT X] = .ok (.tuple ((shps th plain).map encS))) ∨ ((List.map encStp path = []) = False ∧ callD theProg 57 "ungrouped" [encT th, .tuple (path.map encStp)] = .exc "NoFit" .none) := by
      by_cases hpe : path = []
      · exact .inl (by simp [hpe])
      · have hpf : (List.map encStp path = []) = False := by simp [hpe]
        obtain ⟨pre, s, p0, a, q, b, rfl, hi', hm, hf, hq, ha, hqu, h4, hnm, hnd⟩ := part hpe
        obtain ⟨nm, r, u⟩ := q
        simp only at hqu hq
        subst hqu
        have hb4 := dq.1.2
        simp only [List.length_append, List.length_cons] at h4 hpl
        have e5 := ev_ungrouped gro (has rfl) (has rfl) (n := 57) (s := s) (by simp at hpl; omega) hw (by omega) hu hm hi' hf hq ha (by omega) (by omega)
        obtain ⟨f1, f2, f3⟩ := found_fit hf hw plain_w (by show (1 : Int) * scl th < _; omega)
        simp only at f1
        obtain ⟨w1, w2, w3, w4⟩ := inst_ok (inst_ung f1 (by omega)) hw (by omega) hu hi' hf
        by_cases hd' : ((a ++ ungP r ps ++ b).map (·.1)).Nodup
        · rw [if_pos hd'] at e5
          refine .inr (.inl ⟨_, hpf, e5, cmp_tr (by omega), ?_⟩)
          rw [pic ⟨w4, by omega, by omega, by omega⟩]
          have hr : PlT r := ((wf_group.mp f1) (nm, r, .group ps) (by simp)).1
          rw [shps_withP (X := a ++ ungP r ps ++ b) hf hi' hu (fun p hp => shps_ung hr p hp) plain_T]
        · rw [if_neg hd'] at e5
          exact .inr (.inr ⟨hpf, e5⟩)
    by_cases hps : ps = []
    · subst hps
      rcases P2 with hpe | ⟨X, hpe, u1, u2, u3⟩ | ⟨hpe, u1⟩
      · exists ln, i1, ev_mixed gen, e3, e4, c0, hpe, htr, List.map_nil
      · exists ln, i1, ev_mixed gen, e3, e4, c0, hpe, htr, List.map_nil, u1, u2, u3, enc_shapes.cmpn (by decide)
      · exists ln, i1, ev_mixed gen, e3, e4, c0, hpe, htr, List.map_nil, u1, cmp_nsame
    · have lp : 0 < ps.length := List.length_pos_iff.mpr hps
      have l0 : (0 : Int) < (ps.length : Int) := by omega
      obtain ⟨A, B, C, e, hA, hB, hAl⟩ : ∃ A B C : List Pa, ps = A ++ B ++ C ∧ mixed ns 2 / 64 % (ps.length : Int) = (A.length : Int) ∧ 1 + mixed ns 2 / 256 % ((ps.length : Int) - (A.length : Int)) = (B.length : Int) ∧ A.length < ps.length := by
        have a0 := Int.emod_nonneg (mixed ns 2 / 64) (b := (ps.length : Int)) (by omega)
        have a1 := Int.emod_lt_of_pos (mixed ns 2 / 64) l0
        obtain ⟨F, hF⟩ : ∃ F : Int, mixed ns 2 / 64 % (ps.length : Int) = F := ⟨_, rfl⟩
        rw [hF] at a0 a1 ⊢
        have b0 := Int.emod_nonneg (mixed ns 2 / 256) (b := (ps.length : Int) - F) (by omega)
        have b1 := Int.emod_lt_of_pos (mixed ns 2 / 256) (show (0 : Int) < (ps.length : Int) - F by omega)
        obtain ⟨M, hM⟩ : ∃ M : Int, mixed ns 2 / 256 % ((ps.length : Int) - F) = M := ⟨_, rfl⟩
        rw [hM] at b0 b1
        have lA : ((ps.take F.toNat).length : Int) = F := by rw [List.length_take]; omega
        refine ⟨ps.take F.toNat, (ps.drop F.toNat).take (1 + M).toNat, (ps.drop F.toNat).drop (1 + M).toNat, ?_, lA.symm, ?_, by omega⟩
        · rw [List.append_assoc, List.take_append_drop, List.take_append_drop]
        · rw [lA, hM, List.length_take, List.length_drop]; omega
      have h4 := dq.1.2
      obtain ⟨nw, g1, g2, g3⟩ := grp_facts S (by omega) hi (p := p) (A := A) (B := B) (C := C) (by rw [← e]; exact hR) (by rw [← e]; exact h4) (by rw [← e]; exact hn)
      have apn := add_PN (path := path) (nm := "new") (by omega)
      have cn := cmpT_nsame (a := th) rfl (by omega)
      rcases P2 with hpe | ⟨X, hpe, u1, u2, u3⟩ | ⟨hpe, u1⟩
      · exists ln, i1, ev_mixed gen, e3, e4, c0, hpe, htr, l0, hA, hB, g1, g2, g3, apn, cn, enc_shapes.cmpn (by decide)
      · exists ln, i1, ev_mixed gen, e3, e4, c0, hpe, htr, l0, hA, hB, g1, g2, g3, apn, cn, u1, u2, u3, enc_shapes.cmpn (by decide)
      · exists ln, i1, ev_mixed gen, e3, e4, c0, hpe, htr, l0, hA, hB, g1, g2, g3, apn, cn, u1, cmp_nsame, enc_shapes.cmpn (by decide)
  | row k x y v =>
    rw [encT] at e3
    have hpe : path ≠ [] := fun e => by
      subst e
      obtain ⟨ps, eg⟩ := D.2
      rw [eg] at hR
      simp [foundFrom] at hR
    have hpf : (List.map encStp path = []) = False := by simp [hpe]
    have dq := found_drw hR S0.drw
    simp only [drw] at dq
    obtain ⟨⟨k1, k6, _⟩, _⟩ := dq
    have hcut : cutL ([.str "new", .str "newa", .str "newb", .str "newc", .str "newd", .str "newe"] : List PyData) none (some k) = (newNs.take k.toNat).map .str := by
      have : k = 1 ∨ k = 2 ∨ k = 3 ∨ k = 4 ∨ k = 5 ∨ k = 6 := by omega
      rcases this with rfl | rfl | rfl | rfl | rfl | rfl <;> rfl
    have hln : ((newNs.take k.toNat).length : Int) = k := by
      rw [List.length_take, show newNs.length = 6 from rfl]; omega
    obtain ⟨pre, s, p0, a, q, b, rfl, hi', hm, hf, hq, ha, hqu, h4, hnm, hnd⟩ := part hpe
    obtain ⟨nm, r, u⟩ := q
    simp only at hqu hq
    subst hqu
    simp only [List.length_append, List.length_cons] at h4 hpl
    have e5 := ev_spread gro (has rfl) (has rfl) (n := 59) (s := s) (names := newNs.take k.toNat) (by simp at hpl; omega) hw (by omega) hu hm hi' hf hq ha hln (by omega)
    obtain ⟨f1, f2, f3⟩ := found_fit hf hw plain_w (by show (1 : Int) * scl th < _; omega)
    simp only at f1
    obtain ⟨w1, w2, w3, w4⟩ := inst_ok (inst_sprd f1 hln) hw (by omega) hu hi' hf
    have hd' : ((a ++ sprd r x y v (newNs.take k.toNat) ++ b).map (·.1)).Nodup := by
      rw [List.map_append, List.map_cons, List.nodup_append, List.nodup_cons] at hnd
      obtain ⟨n1, ⟨_, n2⟩, n3⟩ := hnd
      have hold : ∀ z ∈ a ++ (nm, r, Th.row k x y v) :: b, ∀ w ∈ newNs.take k.toNat, z.1 ≠ w := fun z hz w hw' => by
        obtain ⟨i, e⟩ := hnm z hz
        rw [e]; exact nm_old (List.mem_of_mem_take hw') i
      have nn : (newNs.take k.toNat).Nodup := List.Nodup.sublist (List.take_sublist _ _) (by decide)
      rw [List.map_append, List.map_append, sprd_names, List.nodup_append, List.nodup_append]
      refine ⟨⟨n1, nn, fun x' hx y' hy => ?_⟩, n2, fun x' hx y' hy => ?_⟩
      · obtain ⟨z, hz, e⟩ := List.mem_map.mp hx
        rw [← e]; exact hold z (by simp [hz]) y' hy
      · rcases List.mem_append.mp hx with hx | hx
        · exact n3 x' hx y' (List.mem_cons_of_mem _ hy)
        · obtain ⟨z, hz, e⟩ := List.mem_map.mp hy
          rw [← e]; exact (hold z (by simp [hz]) x' hx).symm
    rw [if_pos hd'] at e5
    have hr : PlT r := ((wf_group.mp f1) (nm, r, .row k x y v) (by simp)).1
    have e7 := pic ⟨w4, by omega, by omega, by omega⟩
    rw [shps_withP hf hi' hu (fun p hp => shps_sprd hr hln p hp) plain_T] at e7
    simp only [List.append_assoc] at e5 e7
    exists ln, i1, ev_mixed gen, e3, e4, c0, hpf, hcut, e5, e7, enc_shapes.cmp (by decide)
  | line x y =>
    rw [encT] at e3
    exists ln, i1, ev_mixed gen, e3, e4
  | box x y =>
    rw [encT] at e3
    exists ln, i1, ev_mixed gen, e3, e4
  | ring x =>
    rw [encT] at e3
    exists ln, i1, ev_mixed gen, e3, e4
  | field x =>
    rw [encT] at e3
    exists ln, i1, ev_mixed gen, e3, e4
end DP.K44

/-! ## K44Top -/
set_option Elab.async false
set_option linter.all false
set_option maxRecDepth 100000
set_option autoImplicit false
namespace DP.K44
open DP PySem L2
local instance : DP.Tb := ⟨[]⟩
def topS (i : Nat) : Stmt := PySem.Challenge.pw_drawsheet_k44_whole_same_picture.main.body.getD i (.Pass ⟨0, 0, 0, 0⟩)
abbrev s_put : Stmt := topS 7
abbrev s_together : Stmt := topS 8
abbrev s_shape_of : Stmt := topS 11
abbrev s_copy_placing : Stmt := topS 12
abbrev s_flat_from : Stmt := topS 13
abbrev s_flat : Stmt := topS 14
abbrev s_picture : Stmt := topS 15
abbrev s_is_number : Stmt := topS 17
abbrev s_inner_of : Stmt := topS 18
abbrev s_found_at : Stmt := topS 19
abbrev s_thing_at : Stmt := topS 20
abbrev s_must_be_names : Stmt := topS 21
abbrev s_with_parts : Stmt := topS 22
abbrev s_part_at : Stmt := topS 23
abbrev s_with_part : Stmt := topS 24
abbrev s_only_unlike : Stmt := topS 26
abbrev s_grouped : Stmt := topS 27
abbrev s_in_place : Stmt := topS 28
abbrev s_ungrouped : Stmt := topS 29
abbrev s_spread : Stmt := topS 30
abbrev s_law_cell_at : Stmt := topS 32
abbrev s_law_mixed : Stmt := topS 33
abbrev s_law_drawn : Stmt := topS 34
abbrev s_law_far : Stmt := topS 35
abbrev s_law_point : Stmt := topS 36
abbrev s_law_placing : Stmt := topS 37
abbrev s_law_name : Stmt := topS 38
abbrev s_law_simple : Stmt := topS 39
abbrev s_law_thing : Stmt := topS 40
abbrev s_law_group_b : Stmt := topS 41
abbrev s_law_matrix : Stmt := topS 42
abbrev s_law_put : Stmt := topS 43
abbrev s_law_both : Stmt := topS 44
abbrev s_law_paths_b : Stmt := topS 47
abbrev s_law_at_b : Stmt := topS 49
abbrev s_law_is_plain : Stmt := topS 50
abbrev s_law : Stmt := topS 55
theorem chk_put : defChk theProg d_put s_put = true := by decide +kernel
theorem chk_together : defChk theProg d_together s_together = true := by decide +kernel
theorem chk_shape_of : defChk theProg d_shape_of s_shape_of = true := by decide +kernel
theorem chk_copy_placing : defChk theProg d_copy_placing s_copy_placing = true := by decide +kernel
theorem chk_flat_from : defChk theProg d_flat_from s_flat_from = true := by decide +kernel
theorem chk_flat : defChk theProg d_flat s_flat = true := by decide +kernel
theorem chk_picture : defChk theProg d_picture s_picture = true := by decide +kernel
theorem chk_is_number : defChk theProg d_is_number s_is_number = true := by decide +kernel
theorem chk_inner_of : defChk theProg d_inner_of s_inner_of = true := by decide +kernel
theorem chk_found_at : defChk theProg d_found_at s_found_at = true := by decide +kernel
theorem chk_thing_at : defChk theProg d_thing_at s_thing_at = true := by decide +kernel
theorem chk_must_be_names : defChk theProg d_must_be_names s_must_be_names = true := by decide +kernel
theorem chk_with_parts : defChk theProg d_with_parts s_with_parts = true := by decide +kernel
theorem chk_part_at : defChk theProg d_part_at s_part_at = true := by decide +kernel
theorem chk_with_part : defChk theProg d_with_part s_with_part = true := by decide +kernel
theorem chk_only_unlike : defChk theProg d_only_unlike s_only_unlike = true := by decide +kernel
theorem chk_grouped : defChk theProg d_grouped s_grouped = true := by decide +kernel
theorem chk_in_place : defChk theProg d_in_place s_in_place = true := by decide +kernel
theorem chk_ungrouped : defChk theProg d_ungrouped s_ungrouped = true := by decide +kernel
theorem chk_spread : defChk theProg d_spread s_spread = true := by decide +kernel
theorem chk_law_cell_at : defChk theProg d_law_cell_at s_law_cell_at = true := by decide +kernel
theorem chk_law_mixed : defChk theProg d_law_mixed s_law_mixed = true := by decide +kernel
theorem chk_law_drawn : defChk theProg d_law_drawn s_law_drawn = true := by decide +kernel
theorem chk_law_far : defChk theProg d_law_far s_law_far = true := by decide +kernel
theorem chk_law_point : defChk theProg d_law_point s_law_point = true := by decide +kernel
theorem chk_law_placing : defChk theProg d_law_placing s_law_placing = true := by decide +kernel
theorem chk_law_name : defChk theProg d_law_name s_law_name = true := by decide +kernel
theorem chk_law_simple : defChk theProg d_law_simple s_law_simple = true := by decide +kernel
theorem chk_law_thing : defChk theProg d_law_thing s_law_thing = true := by decide +kernel
theorem chk_law_group_b : defChk theProg d_law_group_b s_law_group_b = true := by decide +kernel
theorem chk_law_matrix : defChk theProg d_law_matrix s_law_matrix = true := by decide +kernel
theorem chk_law_put : defChk theProg d_law_put s_law_put = true := by decide +kernel
theorem chk_law_both : defChk theProg d_law_both s_law_both = true := by decide +kernel
theorem chk_law_paths_b : defChk theProg d_law_paths_b s_law_paths_b = true := by decide +kernel
theorem chk_law_at_b : defChk theProg d_law_at_b s_law_at_b = true := by decide +kernel
theorem chk_law_is_plain : defChk theProg d_law_is_plain s_law_is_plain = true := by decide +kernel
theorem chk_law : defChk theProg d_law s_law = true := by decide +kernel
abbrev s_told : Stmt := topS 54
theorem told_txt : defBody s_told = toldBody "_law_deed" (toldP (defBody s_told)) := by rfl
theorem told_chk : (argsChk ["_law_deed"] (defArgs s_told) && toldSc "_law_deed" (defScope s_told) && ((toldP (defBody s_told) 37).endLine == (toldP (defBody s_told) 39).line) && ((toldP (defBody s_told) 46).endLine == (toldP (defBody s_told) 48).line) && nameOk "_law_deed") = true := by decide +kernel
theorem txt {K : PySem.W.Frag} {h : Heap} {mg : Str → Option Value} (X : K.In h) (G : h.Ns mainGlobals mg)
    {f0 : Addr} {oc0 kV0 dc0 pm0 cd0 ct0 : Value} {od0 an0 : Option Addr} {sl0 : Array (Option Value)}
    {f1 : Addr} {oc1 kV1 dc1 pm1 cd1 ct1 : Value} {od1 an1 : Option Addr} {sl1 : Array (Option Value)}
    {f2 : Addr} {oc2 kV2 dc2 pm2 cd2 ct2 : Value} {od2 an2 : Option Addr} {sl2 : Array (Option Value)}
    {f3 : Addr} {oc3 kV3 dc3 pm3 cd3 ct3 : Value} {od3 an3 : Option Addr} {sl3 : Array (Option Value)}
    {f4 : Addr} {oc4 kV4 dc4 pm4 cd4 ct4 : Value} {od4 an4 : Option Addr} {sl4 : Array (Option Value)}
    {f5 : Addr} {oc5 kV5 dc5 pm5 cd5 ct5 : Value} {od5 an5 : Option Addr} {sl5 : Array (Option Value)}
    {f6 : Addr} {oc6 kV6 dc6 pm6 cd6 ct6 : Value} {od6 an6 : Option Addr} {sl6 : Array (Option Value)}
    {f7 : Addr} {oc7 kV7 dc7 pm7 cd7 ct7 : Value} {od7 an7 : Option Addr} {sl7 : Array (Option Value)}
    {f8 : Addr} {oc8 kV8 dc8 pm8 cd8 ct8 : Value} {od8 an8 : Option Addr} {sl8 : Array (Option Value)}
    {f9 : Addr} {oc9 kV9 dc9 pm9 cd9 ct9 : Value} {od9 an9 : Option Addr} {sl9 : Array (Option Value)}
    {f10 : Addr} {oc10 kV10 dc10 pm10 cd10 ct10 : Value} {od10 an10 : Option Addr} {sl10 : Array (Option Value)}
    {f11 : Addr} {oc11 kV11 dc11 pm11 cd11 ct11 : Value} {od11 an11 : Option Addr} {sl11 : Array (Option Value)}
    {f12 : Addr} {oc12 kV12 dc12 pm12 cd12 ct12 : Value} {od12 an12 : Option Addr} {sl12 : Array (Option Value)}
    {f13 : Addr} {oc13 kV13 dc13 pm13 cd13 ct13 : Value} {od13 an13 : Option Addr} {sl13 : Array (Option Value)}
    {f14 : Addr} {oc14 kV14 dc14 pm14 cd14 ct14 : Value} {od14 an14 : Option Addr} {sl14 : Array (Option Value)}
    {f15 : Addr} {oc15 kV15 dc15 pm15 cd15 ct15 : Value} {od15 an15 : Option Addr} {sl15 : Array (Option Value)}
    {f16 : Addr} {oc16 kV16 dc16 pm16 cd16 ct16 : Value} {od16 an16 : Option Addr} {sl16 : Array (Option Value)}
    {f17 : Addr} {oc17 kV17 dc17 pm17 cd17 ct17 : Value} {od17 an17 : Option Addr} {sl17 : Array (Option Value)}
    {f18 : Addr} {oc18 kV18 dc18 pm18 cd18 ct18 : Value} {od18 an18 : Option Addr} {sl18 : Array (Option Value)}
    {f19 : Addr} {oc19 kV19 dc19 pm19 cd19 ct19 : Value} {od19 an19 : Option Addr} {sl19 : Array (Option Value)}
    {f20 : Addr} {oc20 kV20 dc20 pm20 cd20 ct20 : Value} {od20 an20 : Option Addr} {sl20 : Array (Option Value)}
    {f21 : Addr} {oc21 kV21 dc21 pm21 cd21 ct21 : Value} {od21 an21 : Option Addr} {sl21 : Array (Option Value)}
    {f22 : Addr} {oc22 kV22 dc22 pm22 cd22 ct22 : Value} {od22 an22 : Option Addr} {sl22 : Array (Option Value)}
    {f23 : Addr} {oc23 kV23 dc23 pm23 cd23 ct23 : Value} {od23 an23 : Option Addr} {sl23 : Array (Option Value)}
    {f24 : Addr} {oc24 kV24 dc24 pm24 cd24 ct24 : Value} {od24 an24 : Option Addr} {sl24 : Array (Option Value)}
    {f25 : Addr} {oc25 kV25 dc25 pm25 cd25 ct25 : Value} {od25 an25 : Option Addr} {sl25 : Array (Option Value)}
    {f26 : Addr} {oc26 kV26 dc26 pm26 cd26 ct26 : Value} {od26 an26 : Option Addr} {sl26 : Array (Option Value)}
    {f27 : Addr} {oc27 kV27 dc27 pm27 cd27 ct27 : Value} {od27 an27 : Option Addr} {sl27 : Array (Option Value)}
    {f28 : Addr} {oc28 kV28 dc28 pm28 cd28 ct28 : Value} {od28 an28 : Option Addr} {sl28 : Array (Option Value)}
    {f29 : Addr} {oc29 kV29 dc29 pm29 cd29 ct29 : Value} {od29 an29 : Option Addr} {sl29 : Array (Option Value)}
    {f30 : Addr} {oc30 kV30 dc30 pm30 cd30 ct30 : Value} {od30 an30 : Option Addr} {sl30 : Array (Option Value)}
    {f31 : Addr} {oc31 kV31 dc31 pm31 cd31 ct31 : Value} {od31 an31 : Option Addr} {sl31 : Array (Option Value)}
    {f32 : Addr} {oc32 kV32 dc32 pm32 cd32 ct32 : Value} {od32 an32 : Option Addr} {sl32 : Array (Option Value)}
    {f33 : Addr} {oc33 kV33 dc33 pm33 cd33 ct33 : Value} {od33 an33 : Option Addr} {sl33 : Array (Option Value)}
    {f34 : Addr} {oc34 kV34 dc34 pm34 cd34 ct34 : Value} {od34 an34 : Option Addr} {sl34 : Array (Option Value)}
    {f35 : Addr} {oc35 kV35 dc35 pm35 cd35 ct35 : Value} {od35 an35 : Option Addr} {sl35 : Array (Option Value)}
    {f36 : Addr} {oc36 kV36 dc36 pm36 cd36 ct36 : Value} {od36 an36 : Option Addr} {sl36 : Array (Option Value)}
    (a0 : PySem.W.nsIn K mainGlobals d_put.name = some (some (.ref f0))) (l0 : K.lookup f0 = some ⟨oc0, od0, .func (PySem.W.fnOf d_put.name d_put.name (defArgs s_put) (defBody s_put) (defScope s_put) .none kV0 dc0 pm0 an0 cd0 ct0), sl0⟩) (c0 : PySem.W.codeIn K cd0 d_put.name = true) (k0 : PySem.W.keepIn K (.ref f0) = true)
    (a1 : PySem.W.nsIn K mainGlobals d_together.name = some (some (.ref f1))) (l1 : K.lookup f1 = some ⟨oc1, od1, .func (PySem.W.fnOf d_together.name d_together.name (defArgs s_together) (defBody s_together) (defScope s_together) .none kV1 dc1 pm1 an1 cd1 ct1), sl1⟩) (c1 : PySem.W.codeIn K cd1 d_together.name = true) (k1 : PySem.W.keepIn K (.ref f1) = true)
    (a2 : PySem.W.nsIn K mainGlobals d_shape_of.name = some (some (.ref f2))) (l2 : K.lookup f2 = some ⟨oc2, od2, .func (PySem.W.fnOf d_shape_of.name d_shape_of.name (defArgs s_shape_of) (defBody s_shape_of) (defScope s_shape_of) .none kV2 dc2 pm2 an2 cd2 ct2), sl2⟩) (c2 : PySem.W.codeIn K cd2 d_shape_of.name = true) (k2 : PySem.W.keepIn K (.ref f2) = true)
    (a3 : PySem.W.nsIn K mainGlobals d_copy_placing.name = some (some (.ref f3))) (l3 : K.lookup f3 = some ⟨oc3, od3, .func (PySem.W.fnOf d_copy_placing.name d_copy_placing.name (defArgs s_copy_placing) (defBody s_copy_placing) (defScope s_copy_placing) .none kV3 dc3 pm3 an3 cd3 ct3), sl3⟩) (c3 : PySem.W.codeIn K cd3 d_copy_placing.name = true) (k3 : PySem.W.keepIn K (.ref f3) = true)
    (a4 : PySem.W.nsIn K mainGlobals d_flat_from.name = some (some (.ref f4))) (l4 : K.lookup f4 = some ⟨oc4, od4, .func (PySem.W.fnOf d_flat_from.name d_flat_from.name (defArgs s_flat_from) (defBody s_flat_from) (defScope s_flat_from) .none kV4 dc4 pm4 an4 cd4 ct4), sl4⟩) (c4 : PySem.W.codeIn K cd4 d_flat_from.name = true) (k4 : PySem.W.keepIn K (.ref f4) = true)
    (a5 : PySem.W.nsIn K mainGlobals d_flat.name = some (some (.ref f5))) (l5 : K.lookup f5 = some ⟨oc5, od5, .func (PySem.W.fnOf d_flat.name d_flat.name (defArgs s_flat) (defBody s_flat) (defScope s_flat) .none kV5 dc5 pm5 an5 cd5 ct5), sl5⟩) (c5 : PySem.W.codeIn K cd5 d_flat.name = true) (k5 : PySem.W.keepIn K (.ref f5) = true)
    (a6 : PySem.W.nsIn K mainGlobals d_picture.name = some (some (.ref f6))) (l6 : K.lookup f6 = some ⟨oc6, od6, .func (PySem.W.fnOf d_picture.name d_picture.name (defArgs s_picture) (defBody s_picture) (defScope s_picture) .none kV6 dc6 pm6 an6 cd6 ct6), sl6⟩) (c6 : PySem.W.codeIn K cd6 d_picture.name = true) (k6 : PySem.W.keepIn K (.ref f6) = true)
    (a7 : PySem.W.nsIn K mainGlobals d_is_number.name = some (some (.ref f7))) (l7 : K.lookup f7 = some ⟨oc7, od7, .func (PySem.W.fnOf d_is_number.name d_is_number.name (defArgs s_is_number) (defBody s_is_number) (defScope s_is_number) .none kV7 dc7 pm7 an7 cd7 ct7), sl7⟩) (c7 : PySem.W.codeIn K cd7 d_is_number.name = true) (k7 : PySem.W.keepIn K (.ref f7) = true)
    (a8 : PySem.W.nsIn K mainGlobals d_inner_of.name = some (some (.ref f8))) (l8 : K.lookup f8 = some ⟨oc8, od8, .func (PySem.W.fnOf d_inner_of.name d_inner_of.name (defArgs s_inner_of) (defBody s_inner_of) (defScope s_inner_of) .none kV8 dc8 pm8 an8 cd8 ct8), sl8⟩) (c8 : PySem.W.codeIn K cd8 d_inner_of.name = true) (k8 : PySem.W.keepIn K (.ref f8) = true)
    (a9 : PySem.W.nsIn K mainGlobals d_found_at.name = some (some (.ref f9))) (l9 : K.lookup f9 = some ⟨oc9, od9, .func (PySem.W.fnOf d_found_at.name d_found_at.name (defArgs s_found_at) (defBody s_found_at) (defScope s_found_at) .none kV9 dc9 pm9 an9 cd9 ct9), sl9⟩) (c9 : PySem.W.codeIn K cd9 d_found_at.name = true) (k9 : PySem.W.keepIn K (.ref f9) = true)
    (a10 : PySem.W.nsIn K mainGlobals d_thing_at.name = some (some (.ref f10))) (l10 : K.lookup f10 = some ⟨oc10, od10, .func (PySem.W.fnOf d_thing_at.name d_thing_at.name (defArgs s_thing_at) (defBody s_thing_at) (defScope s_thing_at) .none kV10 dc10 pm10 an10 cd10 ct10), sl10⟩) (c10 : PySem.W.codeIn K cd10 d_thing_at.name = true) (k10 : PySem.W.keepIn K (.ref f10) = true)
    (a11 : PySem.W.nsIn K mainGlobals d_must_be_names.name = some (some (.ref f11))) (l11 : K.lookup f11 = some ⟨oc11, od11, .func (PySem.W.fnOf d_must_be_names.name d_must_be_names.name (defArgs s_must_be_names) (defBody s_must_be_names) (defScope s_must_be_names) .none kV11 dc11 pm11 an11 cd11 ct11), sl11⟩) (c11 : PySem.W.codeIn K cd11 d_must_be_names.name = true) (k11 : PySem.W.keepIn K (.ref f11) = true)
    (a12 : PySem.W.nsIn K mainGlobals d_with_parts.name = some (some (.ref f12))) (l12 : K.lookup f12 = some ⟨oc12, od12, .func (PySem.W.fnOf d_with_parts.name d_with_parts.name (defArgs s_with_parts) (defBody s_with_parts) (defScope s_with_parts) .none kV12 dc12 pm12 an12 cd12 ct12), sl12⟩) (c12 : PySem.W.codeIn K cd12 d_with_parts.name = true) (k12 : PySem.W.keepIn K (.ref f12) = true)
    (a13 : PySem.W.nsIn K mainGlobals d_part_at.name = some (some (.ref f13))) (l13 : K.lookup f13 = some ⟨oc13, od13, .func (PySem.W.fnOf d_part_at.name d_part_at.name (defArgs s_part_at) (defBody s_part_at) (defScope s_part_at) .none kV13 dc13 pm13 an13 cd13 ct13), sl13⟩) (c13 : PySem.W.codeIn K cd13 d_part_at.name = true) (k13 : PySem.W.keepIn K (.ref f13) = true)
    (a14 : PySem.W.nsIn K mainGlobals d_with_part.name = some (some (.ref f14))) (l14 : K.lookup f14 = some ⟨oc14, od14, .func (PySem.W.fnOf d_with_part.name d_with_part.name (defArgs s_with_part) (defBody s_with_part) (defScope s_with_part) .none kV14 dc14 pm14 an14 cd14 ct14), sl14⟩) (c14 : PySem.W.codeIn K cd14 d_with_part.name = true) (k14 : PySem.W.keepIn K (.ref f14) = true)
    (a15 : PySem.W.nsIn K mainGlobals d_only_unlike.name = some (some (.ref f15))) (l15 : K.lookup f15 = some ⟨oc15, od15, .func (PySem.W.fnOf d_only_unlike.name d_only_unlike.name (defArgs s_only_unlike) (defBody s_only_unlike) (defScope s_only_unlike) .none kV15 dc15 pm15 an15 cd15 ct15), sl15⟩) (c15 : PySem.W.codeIn K cd15 d_only_unlike.name = true) (k15 : PySem.W.keepIn K (.ref f15) = true)
    (a16 : PySem.W.nsIn K mainGlobals d_grouped.name = some (some (.ref f16))) (l16 : K.lookup f16 = some ⟨oc16, od16, .func (PySem.W.fnOf d_grouped.name d_grouped.name (defArgs s_grouped) (defBody s_grouped) (defScope s_grouped) .none kV16 dc16 pm16 an16 cd16 ct16), sl16⟩) (c16 : PySem.W.codeIn K cd16 d_grouped.name = true) (k16 : PySem.W.keepIn K (.ref f16) = true)
    (a17 : PySem.W.nsIn K mainGlobals d_in_place.name = some (some (.ref f17))) (l17 : K.lookup f17 = some ⟨oc17, od17, .func (PySem.W.fnOf d_in_place.name d_in_place.name (defArgs s_in_place) (defBody s_in_place) (defScope s_in_place) .none kV17 dc17 pm17 an17 cd17 ct17), sl17⟩) (c17 : PySem.W.codeIn K cd17 d_in_place.name = true) (k17 : PySem.W.keepIn K (.ref f17) = true)
    (a18 : PySem.W.nsIn K mainGlobals d_ungrouped.name = some (some (.ref f18))) (l18 : K.lookup f18 = some ⟨oc18, od18, .func (PySem.W.fnOf d_ungrouped.name d_ungrouped.name (defArgs s_ungrouped) (defBody s_ungrouped) (defScope s_ungrouped) .none kV18 dc18 pm18 an18 cd18 ct18), sl18⟩) (c18 : PySem.W.codeIn K cd18 d_ungrouped.name = true) (k18 : PySem.W.keepIn K (.ref f18) = true)
    (a19 : PySem.W.nsIn K mainGlobals d_spread.name = some (some (.ref f19))) (l19 : K.lookup f19 = some ⟨oc19, od19, .func (PySem.W.fnOf d_spread.name d_spread.name (defArgs s_spread) (defBody s_spread) (defScope s_spread) .none kV19 dc19 pm19 an19 cd19 ct19), sl19⟩) (c19 : PySem.W.codeIn K cd19 d_spread.name = true) (k19 : PySem.W.keepIn K (.ref f19) = true)
    (a20 : PySem.W.nsIn K mainGlobals d_law_cell_at.name = some (some (.ref f20))) (l20 : K.lookup f20 = some ⟨oc20, od20, .func (PySem.W.fnOf d_law_cell_at.name d_law_cell_at.name (defArgs s_law_cell_at) (defBody s_law_cell_at) (defScope s_law_cell_at) .none kV20 dc20 pm20 an20 cd20 ct20), sl20⟩) (c20 : PySem.W.codeIn K cd20 d_law_cell_at.name = true) (k20 : PySem.W.keepIn K (.ref f20) = true)
    (a21 : PySem.W.nsIn K mainGlobals d_law_mixed.name = some (some (.ref f21))) (l21 : K.lookup f21 = some ⟨oc21, od21, .func (PySem.W.fnOf d_law_mixed.name d_law_mixed.name (defArgs s_law_mixed) (defBody s_law_mixed) (defScope s_law_mixed) .none kV21 dc21 pm21 an21 cd21 ct21), sl21⟩) (c21 : PySem.W.codeIn K cd21 d_law_mixed.name = true) (k21 : PySem.W.keepIn K (.ref f21) = true)
    (a22 : PySem.W.nsIn K mainGlobals d_law_drawn.name = some (some (.ref f22))) (l22 : K.lookup f22 = some ⟨oc22, od22, .func (PySem.W.fnOf d_law_drawn.name d_law_drawn.name (defArgs s_law_drawn) (defBody s_law_drawn) (defScope s_law_drawn) .none kV22 dc22 pm22 an22 cd22 ct22), sl22⟩) (c22 : PySem.W.codeIn K cd22 d_law_drawn.name = true) (k22 : PySem.W.keepIn K (.ref f22) = true)
    (a23 : PySem.W.nsIn K mainGlobals d_law_far.name = some (some (.ref f23))) (l23 : K.lookup f23 = some ⟨oc23, od23, .func (PySem.W.fnOf d_law_far.name d_law_far.name (defArgs s_law_far) (defBody s_law_far) (defScope s_law_far) .none kV23 dc23 pm23 an23 cd23 ct23), sl23⟩) (c23 : PySem.W.codeIn K cd23 d_law_far.name = true) (k23 : PySem.W.keepIn K (.ref f23) = true)
    (a24 : PySem.W.nsIn K mainGlobals d_law_point.name = some (some (.ref f24))) (l24 : K.lookup f24 = some ⟨oc24, od24, .func (PySem.W.fnOf d_law_point.name d_law_point.name (defArgs s_law_point) (defBody s_law_point) (defScope s_law_point) .none kV24 dc24 pm24 an24 cd24 ct24), sl24⟩) (c24 : PySem.W.codeIn K cd24 d_law_point.name = true) (k24 : PySem.W.keepIn K (.ref f24) = true)
    (a25 : PySem.W.nsIn K mainGlobals d_law_placing.name = some (some (.ref f25))) (l25 : K.lookup f25 = some ⟨oc25, od25, .func (PySem.W.fnOf d_law_placing.name d_law_placing.name (defArgs s_law_placing) (defBody s_law_placing) (defScope s_law_placing) .none kV25 dc25 pm25 an25 cd25 ct25), sl25⟩) (c25 : PySem.W.codeIn K cd25 d_law_placing.name = true) (k25 : PySem.W.keepIn K (.ref f25) = true)
    (a26 : PySem.W.nsIn K mainGlobals d_law_name.name = some (some (.ref f26))) (l26 : K.lookup f26 = some ⟨oc26, od26, .func (PySem.W.fnOf d_law_name.name d_law_name.name (defArgs s_law_name) (defBody s_law_name) (defScope s_law_name) .none kV26 dc26 pm26 an26 cd26 ct26), sl26⟩) (c26 : PySem.W.codeIn K cd26 d_law_name.name = true) (k26 : PySem.W.keepIn K (.ref f26) = true)
    (a27 : PySem.W.nsIn K mainGlobals d_law_simple.name = some (some (.ref f27))) (l27 : K.lookup f27 = some ⟨oc27, od27, .func (PySem.W.fnOf d_law_simple.name d_law_simple.name (defArgs s_law_simple) (defBody s_law_simple) (defScope s_law_simple) .none kV27 dc27 pm27 an27 cd27 ct27), sl27⟩) (c27 : PySem.W.codeIn K cd27 d_law_simple.name = true) (k27 : PySem.W.keepIn K (.ref f27) = true)
    (a28 : PySem.W.nsIn K mainGlobals d_law_thing.name = some (some (.ref f28))) (l28 : K.lookup f28 = some ⟨oc28, od28, .func (PySem.W.fnOf d_law_thing.name d_law_thing.name (defArgs s_law_thing) (defBody s_law_thing) (defScope s_law_thing) .none kV28 dc28 pm28 an28 cd28 ct28), sl28⟩) (c28 : PySem.W.codeIn K cd28 d_law_thing.name = true) (k28 : PySem.W.keepIn K (.ref f28) = true)
    (a29 : PySem.W.nsIn K mainGlobals d_law_group_b.name = some (some (.ref f29))) (l29 : K.lookup f29 = some ⟨oc29, od29, .func (PySem.W.fnOf d_law_group_b.name d_law_group_b.name (defArgs s_law_group_b) (defBody s_law_group_b) (defScope s_law_group_b) .none kV29 dc29 pm29 an29 cd29 ct29), sl29⟩) (c29 : PySem.W.codeIn K cd29 d_law_group_b.name = true) (k29 : PySem.W.keepIn K (.ref f29) = true)
    (a30 : PySem.W.nsIn K mainGlobals d_law_matrix.name = some (some (.ref f30))) (l30 : K.lookup f30 = some ⟨oc30, od30, .func (PySem.W.fnOf d_law_matrix.name d_law_matrix.name (defArgs s_law_matrix) (defBody s_law_matrix) (defScope s_law_matrix) .none kV30 dc30 pm30 an30 cd30 ct30), sl30⟩) (c30 : PySem.W.codeIn K cd30 d_law_matrix.name = true) (k30 : PySem.W.keepIn K (.ref f30) = true)
    (a31 : PySem.W.nsIn K mainGlobals d_law_put.name = some (some (.ref f31))) (l31 : K.lookup f31 = some ⟨oc31, od31, .func (PySem.W.fnOf d_law_put.name d_law_put.name (defArgs s_law_put) (defBody s_law_put) (defScope s_law_put) .none kV31 dc31 pm31 an31 cd31 ct31), sl31⟩) (c31 : PySem.W.codeIn K cd31 d_law_put.name = true) (k31 : PySem.W.keepIn K (.ref f31) = true)
    (a32 : PySem.W.nsIn K mainGlobals d_law_both.name = some (some (.ref f32))) (l32 : K.lookup f32 = some ⟨oc32, od32, .func (PySem.W.fnOf d_law_both.name d_law_both.name (defArgs s_law_both) (defBody s_law_both) (defScope s_law_both) .none kV32 dc32 pm32 an32 cd32 ct32), sl32⟩) (c32 : PySem.W.codeIn K cd32 d_law_both.name = true) (k32 : PySem.W.keepIn K (.ref f32) = true)
    (a33 : PySem.W.nsIn K mainGlobals d_law_paths_b.name = some (some (.ref f33))) (l33 : K.lookup f33 = some ⟨oc33, od33, .func (PySem.W.fnOf d_law_paths_b.name d_law_paths_b.name (defArgs s_law_paths_b) (defBody s_law_paths_b) (defScope s_law_paths_b) .none kV33 dc33 pm33 an33 cd33 ct33), sl33⟩) (c33 : PySem.W.codeIn K cd33 d_law_paths_b.name = true) (k33 : PySem.W.keepIn K (.ref f33) = true)
    (a34 : PySem.W.nsIn K mainGlobals d_law_at_b.name = some (some (.ref f34))) (l34 : K.lookup f34 = some ⟨oc34, od34, .func (PySem.W.fnOf d_law_at_b.name d_law_at_b.name (defArgs s_law_at_b) (defBody s_law_at_b) (defScope s_law_at_b) .none kV34 dc34 pm34 an34 cd34 ct34), sl34⟩) (c34 : PySem.W.codeIn K cd34 d_law_at_b.name = true) (k34 : PySem.W.keepIn K (.ref f34) = true)
    (a35 : PySem.W.nsIn K mainGlobals d_law_is_plain.name = some (some (.ref f35))) (l35 : K.lookup f35 = some ⟨oc35, od35, .func (PySem.W.fnOf d_law_is_plain.name d_law_is_plain.name (defArgs s_law_is_plain) (defBody s_law_is_plain) (defScope s_law_is_plain) .none kV35 dc35 pm35 an35 cd35 ct35), sl35⟩) (c35 : PySem.W.codeIn K cd35 d_law_is_plain.name = true) (k35 : PySem.W.keepIn K (.ref f35) = true)
    (a36 : PySem.W.nsIn K mainGlobals d_law.name = some (some (.ref f36))) (l36 : K.lookup f36 = some ⟨oc36, od36, .func (PySem.W.fnOf d_law.name d_law.name (defArgs s_law) (defBody s_law) (defScope s_law) .none kV36 dc36 pm36 an36 cd36 ct36), sl36⟩) (c36 : PySem.W.codeIn K cd36 d_law.name = true) (k36 : PySem.W.keepIn K (.ref f36) = true)
    (z0 : PySem.W.nsIn K mainGlobals "abs" = some none)
    (z1 : PySem.W.nsIn K mainGlobals "len" = some none)
    (z2 : PySem.W.nsIn K mainGlobals "int" = some none)
    (z3 : PySem.W.nsIn K mainGlobals "str" = some none)
    (z4 : PySem.W.nsIn K mainGlobals "list" = some none)
    (z5 : PySem.W.nsIn K mainGlobals "tuple" = some none)
    (z6 : PySem.W.nsIn K mainGlobals "min" = some none)
    (z7 : PySem.W.nsIn K mainGlobals "max" = some none)
    (z8 : PySem.W.nsIn K mainGlobals "all" = some none)
    (z9 : PySem.W.nsIn K mainGlobals "any" = some none)
    (z10 : PySem.W.nsIn K mainGlobals "isinstance" = some none)
    (z11 : PySem.W.nsIn K mainGlobals "bool" = some none)
    (z12 : PySem.W.nsIn K mainGlobals "range" = some none)
    (z13 : PySem.W.nsIn K mainGlobals "reversed" = some none)
    (z14 : PySem.W.nsIn K mainGlobals "enumerate" = some none)
    (z15 : PySem.W.nsIn K mainGlobals "zip" = some none)
    (z16 : PySem.W.nsIn K mainGlobals "sorted" = some none)
    (z17 : PySem.W.nsIn K mainGlobals "set" = some none)
    {xc0 : Addr} (xa0 : PySem.W.nsIn K mainGlobals "NoFit" = some (some (.ref xc0))) (xb0 : PySem.W.excIn K xc0 [.type "ValueError", .type "Exception", .type "BaseException", .type "object"] "ValueError.__new__" = true) (xk0 : PySem.W.keepIn K (.ref xc0) = true) (xs0 : PySem.W.subIn K (.ref xc0) (.type "BaseException") = some true) (xt0 : PySem.W.typeIn K (.ref xc0) = some (.type "type"))
    {xc1 : Addr} (xa1 : PySem.W.nsIn K mainGlobals "NoPart" = some (some (.ref xc1))) (xb1 : PySem.W.excIn K xc1 [.type "ValueError", .type "Exception", .type "BaseException", .type "object"] "ValueError.__new__" = true) (xk1 : PySem.W.keepIn K (.ref xc1) = true) (xs1 : PySem.W.subIn K (.ref xc1) (.type "BaseException") = some true) (xt1 : PySem.W.typeIn K (.ref xc1) = some (.type "type"))
    {fT : Addr} {ocT kVT dcT pmT cdT ctT : Value} {odT anT : Option Addr} {slT : Array (Option Value)}
    (aT : PySem.W.nsIn K mainGlobals "_law_told" = some (some (.ref fT))) (lT : K.lookup fT = some ⟨ocT, odT, .func (PySem.W.fnOf "_law_told" "_law_told" (defArgs s_told) (defBody s_told) (defScope s_told) .none kVT dcT pmT anT cdT ctT), slT⟩) (cT : PySem.W.codeIn K cdT "_law_told" = true) (kT : PySem.W.keepIn K (.ref fT) = true)
    {SE EA0 EA1 EA2 EA3 : Addr} (qnS : PySem.W.nsIn K mainGlobals "SheetError" = some (some (.ref SE))) (qnv : PySem.W.nsIn K mainGlobals "ValueError" = some none)
    (qdS : PySem.W.hasDictIn K SE = true) (qtS : PySem.W.typeIn K (.ref SE) = some (.type "type")) (qbS : PySem.W.subIn K (.ref SE) (.type "BaseException") = some true) (qsp : PySem.W.specialIn K (.builtin "object.__class__") "__get__" = some (some (.builtin "getset_descriptor.__get__"))) (qtk : PySem.W.takesIn K (.builtin "object.__class__") = some true)
    (qn0 : PySem.W.nsIn K mainGlobals "NoText" = some (some (.ref EA0))) (qd0 : PySem.W.hasDictIn K EA0 = true) (qt0 : PySem.W.typeIn K (.ref EA0) = some (.type "type"))
    (qn1 : PySem.W.nsIn K mainGlobals "NoPart" = some (some (.ref EA1))) (qd1 : PySem.W.hasDictIn K EA1 = true) (qt1 : PySem.W.typeIn K (.ref EA1) = some (.type "type"))
    (qn2 : PySem.W.nsIn K mainGlobals "NoFit" = some (some (.ref EA2))) (qd2 : PySem.W.hasDictIn K EA2 = true) (qt2 : PySem.W.typeIn K (.ref EA2) = some (.type "type"))
    (qn3 : PySem.W.nsIn K mainGlobals "Clash" = some (some (.ref EA3))) (qd3 : PySem.W.hasDictIn K EA3 = true) (qt3 : PySem.W.typeIn K (.ref EA3) = some (.type "type"))
    (qga0 : PySem.W.findIn K (.ref EA0) "__getattribute__" = some (some (.builtin "BaseException.__getattribute__"))) (qgt0 : PySem.W.findIn K (.ref EA0) "__getattr__" = some none) (qbs0 : PySem.W.subIn K (.ref EA0) (.type "BaseException") = some true) (qca0 : PySem.W.findIn K (.ref EA0) "__class__" = some (some (.builtin "object.__class__"))) (qmo0 : PySem.W.mroIn K EA0 (.type "object") = some true)
    (qsS0 : PySem.W.subIn K (.ref EA0) (.ref SE) = some true) (qv0 : PySem.W.subIn K (.ref EA0) (.type "ValueError") = some true)
    (qs01 : PySem.W.subIn K (.ref EA0) (.ref EA1) = some false) (qe01 : EA0 ≠ EA1)
    (qs02 : PySem.W.subIn K (.ref EA0) (.ref EA2) = some false) (qe02 : EA0 ≠ EA2)
    (qs03 : PySem.W.subIn K (.ref EA0) (.ref EA3) = some false) (qe03 : EA0 ≠ EA3)
    (qga1 : PySem.W.findIn K (.ref EA1) "__getattribute__" = some (some (.builtin "BaseException.__getattribute__"))) (qgt1 : PySem.W.findIn K (.ref EA1) "__getattr__" = some none) (qbs1 : PySem.W.subIn K (.ref EA1) (.type "BaseException") = some true) (qca1 : PySem.W.findIn K (.ref EA1) "__class__" = some (some (.builtin "object.__class__"))) (qmo1 : PySem.W.mroIn K EA1 (.type "object") = some true)
    (qsS1 : PySem.W.subIn K (.ref EA1) (.ref SE) = some true) (qv1 : PySem.W.subIn K (.ref EA1) (.type "ValueError") = some true)
    (qs10 : PySem.W.subIn K (.ref EA1) (.ref EA0) = some false) (qe10 : EA1 ≠ EA0)
    (qs12 : PySem.W.subIn K (.ref EA1) (.ref EA2) = some false) (qe12 : EA1 ≠ EA2)
    (qs13 : PySem.W.subIn K (.ref EA1) (.ref EA3) = some false) (qe13 : EA1 ≠ EA3)
    (qga2 : PySem.W.findIn K (.ref EA2) "__getattribute__" = some (some (.builtin "BaseException.__getattribute__"))) (qgt2 : PySem.W.findIn K (.ref EA2) "__getattr__" = some none) (qbs2 : PySem.W.subIn K (.ref EA2) (.type "BaseException") = some true) (qca2 : PySem.W.findIn K (.ref EA2) "__class__" = some (some (.builtin "object.__class__"))) (qmo2 : PySem.W.mroIn K EA2 (.type "object") = some true)
    (qsS2 : PySem.W.subIn K (.ref EA2) (.ref SE) = some true) (qv2 : PySem.W.subIn K (.ref EA2) (.type "ValueError") = some true)
    (qs20 : PySem.W.subIn K (.ref EA2) (.ref EA0) = some false) (qe20 : EA2 ≠ EA0)
    (qs21 : PySem.W.subIn K (.ref EA2) (.ref EA1) = some false) (qe21 : EA2 ≠ EA1)
    (qs23 : PySem.W.subIn K (.ref EA2) (.ref EA3) = some false) (qe23 : EA2 ≠ EA3)
    {j0 : Tok}
    {j1 : Tok}
    {j2 : Tok}
    {j3 : Tok}
    {j4 : Tok}
    {t0 : Addr} {td0 : Option Addr} {ts0 : Array (Option Value)} {tn0 : Nat} (m0 : K.lookup t0 = some ⟨.type "tuple", td0, .seq #[(.int 0 j0), (.int 0 j1), (.int 1 j2), (.int 0 j3), (.int 0 j4)] tn0, ts0⟩)
    (g0 : PySem.W.nsIn K mainGlobals "PLAIN" = some (some (.ref t0)))
    : Txt K mg theProg := by
  have tc := told_chk
  simp only [Bool.and_eq_true] at tc
  obtain ⟨⟨⟨⟨tc1, tc2⟩, tc3⟩, tc4⟩, tc5⟩ := tc
  refine ⟨fun d hd => ?_, fun x hx => ?_, fun x d hx => ?_, fun c hx => ?_, fun _ => ⟨⟨fT, _, s_told, _, _, SE, _, PySem.W.mg_of X G aT, fun_mk lT cT kT, tc1, tc2, told_txt, tc3, tc4, tc5, tk_of X G qnS z10 qnv qdS qtS qbS qsp qtk qn0 qd0 qt0 qn1 qd1 qt1 qn2 qd2 qt2 qn3 qd3 qt3 qga0 qgt0 qbs0 qca0 qmo0 qsS0 qv0 qs01 qe01 qs02 qe02 qs03 qe03 qga1 qgt1 qbs1 qca1 qmo1 qsS1 qv1 qs10 qe10 qs12 qe12 qs13 qe13 qga2 qgt2 qbs2 qca2 qmo2 qsS2 qv2 qs20 qe20 qs21 qe21 qs23 qe23⟩⟩⟩
  · simp only [theProg, List.mem_cons, List.not_mem_nil, or_false] at hd
    rcases hd with rfl | rfl | rfl | rfl | rfl | rfl | rfl | rfl | rfl | rfl | rfl | rfl | rfl | rfl | rfl | rfl | rfl | rfl | rfl | rfl | rfl | rfl | rfl | rfl | rfl | rfl | rfl | rfl | rfl | rfl | rfl | rfl | rfl | rfl | rfl | rfl | rfl
    · exact ⟨_, def_mk X G a0 l0 c0 k0, chk_put⟩
    · exact ⟨_, def_mk X G a1 l1 c1 k1, chk_together⟩
    · exact ⟨_, def_mk X G a2 l2 c2 k2, chk_shape_of⟩
    · exact ⟨_, def_mk X G a3 l3 c3 k3, chk_copy_placing⟩
    · exact ⟨_, def_mk X G a4 l4 c4 k4, chk_flat_from⟩
    · exact ⟨_, def_mk X G a5 l5 c5 k5, chk_flat⟩
    · exact ⟨_, def_mk X G a6 l6 c6 k6, chk_picture⟩
    · exact ⟨_, def_mk X G a7 l7 c7 k7, chk_is_number⟩
    · exact ⟨_, def_mk X G a8 l8 c8 k8, chk_inner_of⟩
    · exact ⟨_, def_mk X G a9 l9 c9 k9, chk_found_at⟩
    · exact ⟨_, def_mk X G a10 l10 c10 k10, chk_thing_at⟩
    · exact ⟨_, def_mk X G a11 l11 c11 k11, chk_must_be_names⟩
    · exact ⟨_, def_mk X G a12 l12 c12 k12, chk_with_parts⟩
    · exact ⟨_, def_mk X G a13 l13 c13 k13, chk_part_at⟩
    · exact ⟨_, def_mk X G a14 l14 c14 k14, chk_with_part⟩
    · exact ⟨_, def_mk X G a15 l15 c15 k15, chk_only_unlike⟩
    · exact ⟨_, def_mk X G a16 l16 c16 k16, chk_grouped⟩
    · exact ⟨_, def_mk X G a17 l17 c17 k17, chk_in_place⟩
    · exact ⟨_, def_mk X G a18 l18 c18 k18, chk_ungrouped⟩
    · exact ⟨_, def_mk X G a19 l19 c19 k19, chk_spread⟩
    · exact ⟨_, def_mk X G a20 l20 c20 k20, chk_law_cell_at⟩
    · exact ⟨_, def_mk X G a21 l21 c21 k21, chk_law_mixed⟩
    · exact ⟨_, def_mk X G a22 l22 c22 k22, chk_law_drawn⟩
    · exact ⟨_, def_mk X G a23 l23 c23 k23, chk_law_far⟩
    · exact ⟨_, def_mk X G a24 l24 c24 k24, chk_law_point⟩
    · exact ⟨_, def_mk X G a25 l25 c25 k25, chk_law_placing⟩
    · exact ⟨_, def_mk X G a26 l26 c26 k26, chk_law_name⟩
    · exact ⟨_, def_mk X G a27 l27 c27 k27, chk_law_simple⟩
    · exact ⟨_, def_mk X G a28 l28 c28 k28, chk_law_thing⟩
    · exact ⟨_, def_mk X G a29 l29 c29 k29, chk_law_group_b⟩
    · exact ⟨_, def_mk X G a30 l30 c30 k30, chk_law_matrix⟩
    · exact ⟨_, def_mk X G a31 l31 c31 k31, chk_law_put⟩
    · exact ⟨_, def_mk X G a32 l32 c32 k32, chk_law_both⟩
    · exact ⟨_, def_mk X G a33 l33 c33 k33, chk_law_paths_b⟩
    · exact ⟨_, def_mk X G a34 l34 c34 k34, chk_law_at_b⟩
    · exact ⟨_, def_mk X G a35 l35 c35 k35, chk_law_is_plain⟩
    · exact ⟨_, def_mk X G a36 l36 c36 k36, chk_law⟩
  · simp only [bltNames, List.mem_cons, List.not_mem_nil, or_false] at hx
    rcases hx with rfl | rfl | rfl | rfl | rfl | rfl | rfl | rfl | rfl | rfl | rfl | rfl | rfl | rfl | rfl | rfl | rfl | rfl
    · exact PySem.W.mg_none_of X G z0
    · exact PySem.W.mg_none_of X G z1
    · exact PySem.W.mg_none_of X G z2
    · exact PySem.W.mg_none_of X G z3
    · exact PySem.W.mg_none_of X G z4
    · exact PySem.W.mg_none_of X G z5
    · exact PySem.W.mg_none_of X G z6
    · exact PySem.W.mg_none_of X G z7
    · exact PySem.W.mg_none_of X G z8
    · exact PySem.W.mg_none_of X G z9
    · exact PySem.W.mg_none_of X G z10
    · exact PySem.W.mg_none_of X G z11
    · exact PySem.W.mg_none_of X G z12
    · exact PySem.W.mg_none_of X G z13
    · exact PySem.W.mg_none_of X G z14
    · exact PySem.W.mg_none_of X G z15
    · exact PySem.W.mg_none_of X G z16
    · exact PySem.W.mg_none_of X G z17
  · simp only [theProg, List.lookup_cons, List.lookup_nil] at hx
    split at hx
    · rename_i hb
      cases hx
      obtain rfl := eq_of_beq hb
      exact ⟨_, (.ref t0), PySem.W.mg_of X G g0, rfl, (tup_const m0 (.cons rv_int (.cons rv_int (.cons rv_int (.cons rv_int (.cons rv_int .nil))))) (by decide) (.cons (.int _) (.cons (.int _) (.cons (.int _) (.cons (.int _) (.cons (.int _) .nil))))))⟩
    · cases hx
  · simp only [theProg, List.mem_cons, List.not_mem_nil, or_false] at hx
    rcases hx with rfl | rfl
    · exact ⟨_, PySem.W.mg_of X G xa0, xb0, xk0, xs0, xt0⟩
    · exact ⟨_, PySem.W.mg_of X G xa1, xb1, xk1, xs1, xt1⟩
end DP.K44
open PySem PySem.W PyProof.Rows
set_option maxRecDepth 100000 in
set_option maxHeartbeats 0 in
theorem PySem.Challenge.cw_drawsheet_k44_whole_same_picture_holds : PySem.Challenge.rw_drawsheet_k44_whole_same_picture.Holds := by
  w_on; o_law; k_head; (case hw => w_witness2)
  k_fill
  refine' DP.law_walkT (l := PySem.Challenge.rw_drawsheet_k44_whole_same_picture) DP.K44.theProg 60 DP.K44.d_law "_law_script" _ rfl rfl ⟨rfl, by decide, by decide⟩ (fun w h Y => PySem.W.km_in_of Y) rfl rfl rfl ?T rfl (fun w h Y => PySem.W.km_tabs_of Y _ List.mem_cons_self) (fun w => ?nP) (fun w => ?ht) DP.K44.law_holds
  case ht => kernel_rfl
  case nP => kernel_rfl
  case T =>
    intro w mg h KX G
    refine' DP.K44.txt KX G ?dpa0 ?dpl0 ?dpc0 ?dpk0 ?dpa1 ?dpl1 ?dpc1 ?dpk1 ?dpa2 ?dpl2 ?dpc2 ?dpk2 ?dpa3 ?dpl3 ?dpc3 ?dpk3 ?dpa4 ?dpl4 ?dpc4 ?dpk4 ?dpa5 ?dpl5 ?dpc5 ?dpk5 ?dpa6 ?dpl6 ?dpc6 ?dpk6 ?dpa7 ?dpl7 ?dpc7 ?dpk7 ?dpa8 ?dpl8 ?dpc8 ?dpk8 ?dpa9 ?dpl9 ?dpc9 ?dpk9 ?dpa10 ?dpl10 ?dpc10 ?dpk10 ?dpa11 ?dpl11 ?dpc11 ?dpk11 ?dpa12 ?dpl12 ?dpc12 ?dpk12 ?dpa13 ?dpl13 ?dpc13 ?dpk13 ?dpa14 ?dpl14 ?dpc14 ?dpk14 ?dpa15 ?dpl15 ?dpc15 ?dpk15 ?dpa16 ?dpl16 ?dpc16 ?dpk16 ?dpa17 ?dpl17 ?dpc17 ?dpk17 ?dpa18 ?dpl18 ?dpc18 ?dpk18 ?dpa19 ?dpl19 ?dpc19 ?dpk19 ?dpa20 ?dpl20 ?dpc20 ?dpk20 ?dpa21 ?dpl21 ?dpc21 ?dpk21 ?dpa22 ?dpl22 ?dpc22 ?dpk22 ?dpa23 ?dpl23 ?dpc23 ?dpk23 ?dpa24 ?dpl24 ?dpc24 ?dpk24 ?dpa25 ?dpl25 ?dpc25 ?dpk25 ?dpa26 ?dpl26 ?dpc26 ?dpk26 ?dpa27 ?dpl27 ?dpc27 ?dpk27 ?dpa28 ?dpl28 ?dpc28 ?dpk28 ?dpa29 ?dpl29 ?dpc29 ?dpk29 ?dpa30 ?dpl30 ?dpc30 ?dpk30 ?dpa31 ?dpl31 ?dpc31 ?dpk31 ?dpa32 ?dpl32 ?dpc32 ?dpk32 ?dpa33 ?dpl33 ?dpc33 ?dpk33 ?dpa34 ?dpl34 ?dpc34 ?dpk34 ?dpa35 ?dpl35 ?dpc35 ?dpk35 ?dpa36 ?dpl36 ?dpc36 ?dpk36 ?dpz0 ?dpz1 ?dpz2 ?dpz3 ?dpz4 ?dpz5 ?dpz6 ?dpz7 ?dpz8 ?dpz9 ?dpz10 ?dpz11 ?dpz12 ?dpz13 ?dpz14 ?dpz15 ?dpz16 ?dpz17 ?dpxa0 ?dpxb0 ?dpxk0 ?dpxs0 ?dpxt0 ?dpxa1 ?dpxb1 ?dpxk1 ?dpxs1 ?dpxt1 ?dpaT ?dplT ?dpcT ?dpkT ?dpqnS ?dpqnv ?dpqdS ?dpqtS ?dpqbS ?dpqsp ?dpqtk ?dpqn0 ?dpqd0 ?dpqt0 ?dpqn1 ?dpqd1 ?dpqt1 ?dpqn2 ?dpqd2 ?dpqt2 ?dpqn3 ?dpqd3 ?dpqt3 ?dpqga0 ?dpqgt0 ?dpqbs0 ?dpqca0 ?dpqmo0 ?dpqsS0 ?dpqv0 ?dpqs01 ?dpqe01 ?dpqs02 ?dpqe02 ?dpqs03 ?dpqe03 ?dpqga1 ?dpqgt1 ?dpqbs1 ?dpqca1 ?dpqmo1 ?dpqsS1 ?dpqv1 ?dpqs10 ?dpqe10 ?dpqs12 ?dpqe12 ?dpqs13 ?dpqe13 ?dpqga2 ?dpqgt2 ?dpqbs2 ?dpqca2 ?dpqmo2 ?dpqsS2 ?dpqv2 ?dpqs20 ?dpqe20 ?dpqs21 ?dpqe21 ?dpqs23 ?dpqe23 ?dpm0 ?dpg0
    (case dpa0 => k_is)
    (case dpl0 => k_is)
    (case dpc0 => k_is)
    (case dpk0 => k_is)
    (case dpa1 => k_is)
    (case dpl1 => k_is)
    (case dpc1 => k_is)
    (case dpk1 => k_is)
    (case dpa2 => k_is)
    (case dpl2 => k_is)
    (case dpc2 => k_is)
    (case dpk2 => k_is)
    (case dpa3 => k_is)
    (case dpl3 => k_is)
    (case dpc3 => k_is)
    (case dpk3 => k_is)
    (case dpa4 => k_is)
    (case dpl4 => k_is)
    (case dpc4 => k_is)
    (case dpk4 => k_is)
    (case dpa5 => k_is)
    (case dpl5 => k_is)
    (case dpc5 => k_is)
    (case dpk5 => k_is)
    (case dpa6 => k_is)
    (case dpl6 => k_is)
    (case dpc6 => k_is)
    (case dpk6 => k_is)
    (case dpa7 => k_is)
    (case dpl7 => k_is)
    (case dpc7 => k_is)
    (case dpk7 => k_is)
    (case dpa8 => k_is)
    (case dpl8 => k_is)
    (case dpc8 => k_is)
    (case dpk8 => k_is)
    (case dpa9 => k_is)
    (case dpl9 => k_is)
    (case dpc9 => k_is)
    (case dpk9 => k_is)
    (case dpa10 => k_is)
    (case dpl10 => k_is)
    (case dpc10 => k_is)
    (case dpk10 => k_is)
    (case dpa11 => k_is)
    (case dpl11 => k_is)
    (case dpc11 => k_is)
    (case dpk11 => k_is)
    (case dpa12 => k_is)
    (case dpl12 => k_is)
    (case dpc12 => k_is)
    (case dpk12 => k_is)
    (case dpa13 => k_is)
    (case dpl13 => k_is)
    (case dpc13 => k_is)
    (case dpk13 => k_is)
    (case dpa14 => k_is)
    (case dpl14 => k_is)
    (case dpc14 => k_is)
    (case dpk14 => k_is)
    (case dpa15 => k_is)
    (case dpl15 => k_is)
    (case dpc15 => k_is)
    (case dpk15 => k_is)
    (case dpa16 => k_is)
    (case dpl16 => k_is)
    (case dpc16 => k_is)
    (case dpk16 => k_is)
    (case dpa17 => k_is)
    (case dpl17 => k_is)
    (case dpc17 => k_is)
    (case dpk17 => k_is)
    (case dpa18 => k_is)
    (case dpl18 => k_is)
    (case dpc18 => k_is)
    (case dpk18 => k_is)
    (case dpa19 => k_is)
    (case dpl19 => k_is)
    (case dpc19 => k_is)
    (case dpk19 => k_is)
    (case dpa20 => k_is)
    (case dpl20 => k_is)
    (case dpc20 => k_is)
    (case dpk20 => k_is)
    (case dpa21 => k_is)
    (case dpl21 => k_is)
    (case dpc21 => k_is)
    (case dpk21 => k_is)
    (case dpa22 => k_is)
    (case dpl22 => k_is)
    (case dpc22 => k_is)
    (case dpk22 => k_is)
    (case dpa23 => k_is)
    (case dpl23 => k_is)
    (case dpc23 => k_is)
    (case dpk23 => k_is)
    (case dpa24 => k_is)
    (case dpl24 => k_is)
    (case dpc24 => k_is)
    (case dpk24 => k_is)
    (case dpa25 => k_is)
    (case dpl25 => k_is)
    (case dpc25 => k_is)
    (case dpk25 => k_is)
    (case dpa26 => k_is)
    (case dpl26 => k_is)
    (case dpc26 => k_is)
    (case dpk26 => k_is)
    (case dpa27 => k_is)
    (case dpl27 => k_is)
    (case dpc27 => k_is)
    (case dpk27 => k_is)
    (case dpa28 => k_is)
    (case dpl28 => k_is)
    (case dpc28 => k_is)
    (case dpk28 => k_is)
    (case dpa29 => k_is)
    (case dpl29 => k_is)
    (case dpc29 => k_is)
    (case dpk29 => k_is)
    (case dpa30 => k_is)
    (case dpl30 => k_is)
    (case dpc30 => k_is)
    (case dpk30 => k_is)
    (case dpa31 => k_is)
    (case dpl31 => k_is)
    (case dpc31 => k_is)
    (case dpk31 => k_is)
    (case dpa32 => k_is)
    (case dpl32 => k_is)
    (case dpc32 => k_is)
    (case dpk32 => k_is)
    (case dpa33 => k_is)
    (case dpl33 => k_is)
    (case dpc33 => k_is)
    (case dpk33 => k_is)
    (case dpa34 => k_is)
    (case dpl34 => k_is)
    (case dpc34 => k_is)
    (case dpk34 => k_is)
    (case dpa35 => k_is)
    (case dpl35 => k_is)
    (case dpc35 => k_is)
    (case dpk35 => k_is)
    (case dpa36 => k_is)
    (case dpl36 => k_is)
    (case dpc36 => k_is)
    (case dpk36 => k_is)
    (case dpz0 => k_is)
    (case dpz1 => k_is)
    (case dpz2 => k_is)
    (case dpz3 => k_is)
    (case dpz4 => k_is)
    (case dpz5 => k_is)
    (case dpz6 => k_is)
    (case dpz7 => k_is)
    (case dpz8 => k_is)
    (case dpz9 => k_is)
    (case dpz10 => k_is)
    (case dpz11 => k_is)
    (case dpz12 => k_is)
    (case dpz13 => k_is)
    (case dpz14 => k_is)
    (case dpz15 => k_is)
    (case dpz16 => k_is)
    (case dpz17 => k_is)
    (case dpxa0 => k_is)
    (case dpxb0 => k_exc)
    (case dpxk0 => k_is)
    (case dpxs0 => k_is)
    (case dpxt0 => k_is)
    (case dpxa1 => k_is)
    (case dpxb1 => k_exc)
    (case dpxk1 => k_is)
    (case dpxs1 => k_is)
    (case dpxt1 => k_is)
    (case dpaT => k_is)
    (case dplT => k_is)
    (case dpcT => k_is)
    (case dpkT => k_is)
    (case dpqnS => k_is)
    (case dpqnv => k_is)
    (case dpqdS => k_is)
    (case dpqtS => k_is)
    (case dpqbS => k_is)
    (case dpqsp => k_is)
    (case dpqtk => k_is)
    (case dpqn0 => k_is)
    (case dpqd0 => k_is)
    (case dpqt0 => k_is)
    (case dpqn1 => k_is)
    (case dpqd1 => k_is)
    (case dpqt1 => k_is)
    (case dpqn2 => k_is)
    (case dpqd2 => k_is)
    (case dpqt2 => k_is)
    (case dpqn3 => k_is)
    (case dpqd3 => k_is)
    (case dpqt3 => k_is)
    (case dpqga0 => k_is)
    (case dpqgt0 => k_is)
    (case dpqbs0 => k_is)
    (case dpqca0 => k_is)
    (case dpqmo0 => k_is)
    (case dpqsS0 => k_is)
    (case dpqv0 => k_is)
    (case dpqs01 => k_is)
    (case dpqs02 => k_is)
    (case dpqs03 => k_is)
    (case dpqga1 => k_is)
    (case dpqgt1 => k_is)
    (case dpqbs1 => k_is)
    (case dpqca1 => k_is)
    (case dpqmo1 => k_is)
    (case dpqsS1 => k_is)
    (case dpqv1 => k_is)
    (case dpqs10 => k_is)
    (case dpqs12 => k_is)
    (case dpqs13 => k_is)
    (case dpqga2 => k_is)
    (case dpqgt2 => k_is)
    (case dpqbs2 => k_is)
    (case dpqca2 => k_is)
    (case dpqmo2 => k_is)
    (case dpqsS2 => k_is)
    (case dpqv2 => k_is)
    (case dpqs20 => k_is)
    (case dpqs21 => k_is)
    (case dpqs23 => k_is)
    (case dpg0 => k_is)
    (case dpqe01 => decide)
    (case dpqe02 => decide)
    (case dpqe03 => decide)
    (case dpqe10 => decide)
    (case dpqe12 => decide)
    (case dpqe13 => decide)
    (case dpqe20 => decide)
    (case dpqe21 => decide)
    (case dpqe23 => decide)
    (case dpm0 => k_is)
