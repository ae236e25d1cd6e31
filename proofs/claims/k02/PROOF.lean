import PyProof.Rows.All
import HandS.ForMost
import HandS.ForExc
import KE.SortData
import KE.DataMinMax
import PyProof.ReprReads
import HandS.Deep
import HandS.TupAny
import HandS.TupMul
import HandS.Style
import HandS.TupLen
import HandS.WordsDict
import HandS.Conv
import HandS.More
import KE.DataCmp
import HandS.Comp
import HandS.Defaults
import HandS.CallSlots
import OpenK.KMore
import HandS.Flow
import HandS.IsInst
import HandS.Dict
import HandS.Walk
import HandS.Star
import HandS.DictComp
import HandS.Zip
import HandS.TryOnly
import KE.GoesEnum
import HandS.Iter
import PyProof.DictCompW
import HandS.TryMany
import HandS.HeadHook2
import HandS.Ends
import HandS.HeadHook1
import HandS.HeadEnd
import PyProof.ReprLen
import KE.KStateDown
import HandS.Head0
import HandS.Head1
import HandS.Head2
import PySem.Challenge.RW_labelledspheres_k02_vectors_chains_label
set_option Elab.async false
set_option linter.all false
set_option maxRecDepth 100000
set_option autoImplicit false
set_option maxHeartbeats 0
/-! A small pure evaluator for the part of Python that the program and the laws use: tuples, lists, dicts as data without addresses; lists and dicts that are changed in place are cells. -/
namespace Mp
open PySem

/-! ### data -/
inductive D where
  | non | bl (b : Bool) | int (i : Int) | str (x : Str)
  | tup (xs : List D) | lst (xs : List D)
  /-- keys (t: tuples; else ints and texts), values -/
  | dct (t : Bool) (ks vs : List D)
  /-- a list or dict that may be changed in place -/
  | cell (n : Nat)
  /-- a def of the text -/
  | fn (x : Str)
  /-- an exception of an own class, what it keeps -/
  | exc (c : Str) (as : List D)
  /-- the script -/
  | scr (ns : List Int)

instance : Inhabited D := ⟨.non⟩

mutual
/-- as the library's data -/
def D.py : D → PyData
  | .non => .none
  | .bl b => .bool b
  | .int i => .int i
  | .str x => .str x
  | .tup xs => .tuple (pys xs)
  | .lst xs => .list (pys xs)
  | .dct _ _ _ => .dict []
  | .cell _ => .dict []
  | .fn _ => .dict []
  | .exc _ _ => .dict []
  | .scr _ => .dict []
def pys : List D → List PyData
  | [] => []
  | x :: xs => x.py :: pys xs
end

mutual
/-- no cell from n on -/
def D.free (n : Nat) : D → Bool
  | .non => true
  | .bl _ => true
  | .int _ => true
  | .str _ => true
  | .tup xs => frees n xs
  | .lst xs => frees n xs
  | .dct _ ks vs => frees n ks && frees n vs
  | .cell m => decide (m < n)
  | .fn _ => true
  | .exc _ as => frees n as
  | .scr _ => true
def frees (n : Nat) : List D → Bool
  | [] => true
  | x :: xs => x.free n && frees n xs
end

mutual
def D.beq : D → D → Bool
  | .non, .non => true
  | .bl a, .bl b => a == b
  | .int a, .int b => a == b
  | .str a, .str b => decide (a = b)
  | .tup a, .tup b => beqs a b
  | .lst a, .lst b => beqs a b
  | .dct t a b, .dct u c d => t == u && (beqs a c && beqs b d)
  | .cell a, .cell b => a == b
  | .fn a, .fn b => decide (a = b)
  | .exc a b, .exc c d => decide (a = c) && beqs b d
  | .scr a, .scr b => decide (a = b)
  | _, _ => false
def beqs : List D → List D → Bool
  | [], [] => true
  | x :: xs, y :: ys => x.beq y && beqs xs ys
  | _, _ => false
end

mutual
theorem D.eq_of_beq : ∀ (x y : D), x.beq y = true → x = y
  | .non, y, h => by cases y <;> simp [D.beq] at h ⊢
  | .bl a, y, h => by cases y <;> simp [D.beq] at h ⊢; exact h
  | .int a, y, h => by cases y <;> simp [D.beq] at h ⊢; exact h
  | .str a, y, h => by cases y <;> simp [D.beq] at h ⊢; exact h
  | .tup a, y, h => by cases y <;> simp [D.beq] at h ⊢; exact eq_of_beqs _ _ h
  | .lst a, y, h => by cases y <;> simp [D.beq] at h ⊢; exact eq_of_beqs _ _ h
  | .dct t a b, y, h => by cases y <;> simp [D.beq] at h ⊢; exact ⟨h.1, eq_of_beqs _ _ h.2.1, eq_of_beqs _ _ h.2.2⟩
  | .cell a, y, h => by cases y <;> simp [D.beq] at h ⊢; exact h
  | .fn a, y, h => by cases y <;> simp [D.beq] at h ⊢; exact h
  | .exc a b, y, h => by cases y <;> simp [D.beq] at h ⊢; exact ⟨h.1, eq_of_beqs _ _ h.2⟩
  | .scr a, y, h => by cases y <;> simp [D.beq] at h ⊢; exact h
theorem eq_of_beqs : ∀ (x y : List D), beqs x y = true → x = y
  | [], y, h => by cases y <;> simp [beqs] at h ⊢
  | x :: xs, y, h => by cases y <;> simp [beqs] at h ⊢; exact ⟨D.eq_of_beq _ _ h.1, eq_of_beqs _ _ h.2⟩
end
mutual
theorem D.beq_self : ∀ (x : D), x.beq x = true
  | .non => rfl
  | .bl a => by simp [D.beq]
  | .int a => by simp [D.beq]
  | .str a => by simp [D.beq]
  | .tup a => by simp [D.beq, beqs_self a]
  | .lst a => by simp [D.beq, beqs_self a]
  | .dct t a b => by simp [D.beq, beqs_self a, beqs_self b]
  | .cell a => by simp [D.beq]
  | .fn a => by simp [D.beq]
  | .exc a b => by simp [D.beq, beqs_self b]
  | .scr a => by simp [D.beq]
theorem beqs_self : ∀ (x : List D), beqs x x = true
  | [] => rfl
  | x :: xs => by simp [beqs, D.beq_self x, beqs_self xs]
end
instance : DecidableEq D := fun x y => if h : x.beq y = true then .isTrue (D.eq_of_beq _ _ h) else .isFalse (fun e => h (e ▸ D.beq_self x))

/-- the cells: what stands at each (none: gone) -/
abbrev Cs := List (Option D)
abbrev En := List (Option D)

/-- what an evaluation ends in -/
inductive Res (α : Type) where
  | ok (a : α) (M : Cs)
  | ex (e : D) (M : Cs)
  | bad
def Res.bind {α β : Type} : Res α → (α → Cs → Res β) → Res β
  | .ok a M, f => f a M
  | .ex e M, _ => .ex e M
  | .bad, _ => .bad
@[simp] theorem ok_bind {α β : Type} (a : α) (M : Cs) (f : α → Cs → Res β) : (Res.ok a M).bind f = f a M := by rw [Res.bind]
@[simp] theorem ex_bind {α β : Type} (a : D) (M : Cs) (f : α → Cs → Res β) : (Res.ex a M : Res α).bind f = .ex a M := by rw [Res.bind]
@[simp] theorem bad_bind {α β : Type} (f : α → Cs → Res β) : (Res.bad : Res α).bind f = .bad := by rw [Res.bind]
theorem bind_assoc {α β γ : Type} (x : Res α) (f : α → Cs → Res β) (g : β → Cs → Res γ) : (x.bind f).bind g = x.bind fun a M => (f a M).bind g := by cases x <;> rfl
/-- an option's value, nothing changed -/
def opt {α : Type} (o : Option α) (M : Cs) : Res α := match o with
  | some a => .ok a M
  | none => .bad
@[simp] theorem opt_some {α : Type} (a : α) (M : Cs) : opt (some a) M = .ok a M := by rw [opt]
@[simp] theorem opt_none {α : Type} (M : Cs) : opt (none : Option α) M = .bad := by rw [opt]

/-- what is read: a cell's contents -/
def rd (M : Cs) : D → Option D
  | .cell n => (match M[n]? with
    | some (some d) => some d
    | _ => none)
  | d => some d
def rds (M : Cs) : List D → Option (List D)
  | [] => some []
  | d :: ds => match rd M d, rds M ds with
    | some x, some xs => some (x :: xs)
    | _, _ => none

/-! ### operations on values that are read -/
def truthD : D → Option Bool
  | .non => some false
  | .bl b => some b
  | .int i => some (i != 0)
  | .str x => if x.length ≤ sizeLine then some (x.length != 0) else none
  | .tup xs => some (!xs.isEmpty)
  | .lst xs => some (!xs.isEmpty)
  | _ => none

def big : Int := 18446744073709551616
/-- binary operators -/
def binD : Operator → D → D → Option D
  | .Add, .int i, .int j => some (.int (i + j))
  | .Sub, .int i, .int j => some (.int (i - j))
  | .Mult, .int i, .int j => if (-big < i && decide (i < big)) || (-big < j && decide (j < big)) then some (.int (i * j)) else none
  | .FloorDiv, .int i, .int j => if 0 < j && decide (j < 1073741824) then some (.int (i / j)) else none
  | .Mod, .int i, .int j => if 0 < j then some (.int (i % j)) else none
  | .Pow, .int i, .int j => if 0 ≤ j && decide (j ≤ 1000000) && decide (i.natAbs < 18446744073709551616) then some (.int (i ^ j.toNat)) else none
  | .Add, .lst a, .lst b => if a.length + b.length ≤ sizeLine then some (.lst (a ++ b)) else none
  | .Add, .tup a, .tup b => if a.length + b.length ≤ sizeLine then some (.tup (a ++ b)) else none
  | .Add, .str a, .str b => if a.length + b.length ≤ sizeLine then some (.str (a ++ b)) else none
  | .Mult, .tup a, .int k => if 1 ≤ k && decide (k ≤ 1000) && decide (a.length ≤ 1000) && !a.isEmpty then some (.tup (List.replicate k.toNat a).flatten) else none
  | .Mult, .lst a, .int k => if -(2 ^ 63) ≤ k && decide (k < 2 ^ 63) && decide (a.length * k.toNat ≤ sizeLine) then some (.lst (List.replicate k.toNat a).flatten) else none
  | _, _, _ => none

def sh (d : D) : Bool := SeqAt.shaped d.py
def eqD (a b : D) : Bool := PyData.eqv a.py b.py
/-- place of x among xs, by == -/
def findD (x : D) : List D → Option Nat
  | [] => none
  | y :: ys => if eqD y x then some 0 else (findD x ys).map (· + 1)
def memD (x : D) (xs : List D) : Bool := xs.any fun y => eqD y x
def lookD (k : D) : List D → List D → Option D
  | a :: ks, v :: vs => if a = k then some v else lookD k ks vs
  | _, _ => none
def isKeyK : D → Bool
  | .int _ => true
  | .str _ => true
  | _ => false
def isKeyT : D → Bool
  | .tup xs => xs.all isKeyK
  | _ => false
def isKey (t : Bool) (d : D) : Bool := if t then isKeyT d else isKeyK d
/-- d[k] = v -/
def putD (k v : D) (ks vs : List D) : List D × List D :=
  if (ks.any fun a => decide (a = k)) = true then (ks, (ks.zip vs).map fun p => if p.1 = k then v else p.2) else (ks ++ [k], vs ++ [v])

def isNonD : D → Bool
  | .non => true
  | _ => false
/-- a tuple and the empty one, whatever it holds -/
def empT : D → D → Option Bool
  | .tup xs, .tup [] => some xs.isEmpty
  | _, _ => none
def cmpD : CmpOp → D → D → Option Bool
  | .Eq, a, b => if sh a && sh b then some (eqD a b) else empT a b
  | .NotEq, a, b => if sh a && sh b then some (!eqD a b) else none
  | .Lt, .int i, .int j => some (decide (i < j))
  | .LtE, .int i, .int j => some (decide (i ≤ j))
  | .Gt, .int i, .int j => some (decide (j < i))
  | .GtE, .int i, .int j => some (decide (j ≤ i))
  | .Lt, .tup a, .tup b => if sh (.tup a) && sh (.tup b) && W.alike (D.tup a).py (D.tup b).py then some (W.dataLt (D.tup a).py (D.tup b).py) else none
  | .Is, a, .non => some (isNonD a)
  | .IsNot, a, .non => some (!isNonD a)
  | .Is, .bl a, .bl b => some (a == b)
  | .IsNot, .bl a, .bl b => some (!(a == b))
  | .In, x, .tup xs => if sh x && sh (.tup xs) then some (memD x xs) else none
  | .In, x, .lst xs => if sh x && sh (.lst xs) then some (memD x xs) else none
  | .NotIn, x, .tup xs => if sh x && sh (.tup xs) then some (!memD x xs) else none
  | .NotIn, x, .lst xs => if sh x && sh (.lst xs) then some (!memD x xs) else none
  | .In, k, .dct t ks vs => if isKey t k then some (lookD k ks vs).isSome else none
  | .NotIn, k, .dct t ks vs => if isKey t k then some (!(lookD k ks vs).isSome) else none
  | _, _, _ => none

/-- a part of a row -/
def cut {α : Type} (xs : List α) (lo hi : Option Int) : List α := (xs.drop (HT.sIx xs.length 0 lo)).take (HT.sIx xs.length xs.length hi - HT.sIx xs.length 0 lo)
def everyK {α : Type} (k : Nat) : Nat → List α → List α
  | _, [] => []
  | 0, x :: xs => x :: everyK k (k - 1) xs
  | n + 1, _ :: xs => everyK k n xs
def partD : D → Option (Option Int)
  | .non => some none
  | .int i => some (some i)
  | _ => none
def ptD : Option Int → D
  | none => .non
  | some i => .int i
def slcD : D → D → D → D → Option D
  | .lst xs, lo, hi, .non => match partD lo, partD hi with
    | some a, some b => some (.lst (cut xs a b))
    | _, _ => none
  | .tup xs, lo, hi, .non => match partD lo, partD hi with
    | some a, some b => some (.tup (cut xs a b))
    | _, _ => none
  | .scr xs, lo, hi, .non => match partD lo, partD hi with
    | some a, some b => some (.lst ((cut xs a b).map .int))
    | _, _ => none
  | .str x, lo, hi, .non => match partD lo, partD hi with
    | some a, some b => if x.length ≤ sizeLine then some (.str (L2.cutS x a b)) else none
    | _, _ => none
  | _, _, _, _ => none
/-- x[::-1] -/
def revD : D → Option D
  | .lst xs => some (.lst xs.reverse)
  | .tup xs => some (.tup xs.reverse)
  | _ => none
def idxD : D → D → Option D
  | .tup xs, .int i => L2.atI xs i
  | .lst xs, .int i => L2.atI xs i
  | .str x, .int i => if x.length ≤ sizeLine then (L2.atI x.cps.toList i).map fun c => .str ⟨#[c]⟩ else none
  | .dct t ks vs, k => if isKey t k then lookD k ks vs else none
  | .scr ns, .int i => (L2.atI ns i).map .int
  | _, _ => none

def ints? : List D → Option (List Int)
  | [] => some []
  | .int i :: r => (ints? r).map (i :: ·)
  | _ => none
def bls? : List D → Option (List Bool)
  | [] => some []
  | .bl i :: r => (bls? r).map (i :: ·)
  | _ => none
def strs? : List D → Option (List Str)
  | [] => some []
  | .str i :: r => (strs? r).map (i :: ·)
  | _ => none
def ltD (a b : D) : Bool := W.dataLt a.py b.py
def alikes (xs : List D) : Bool := xs.all fun a => xs.all fun b => W.alike a.py b.py
def shs (xs : List D) : Bool := xs.all sh
def sortD (xs : List D) : List D := xs.mergeSort (W.dataLe false D.py)
def mostD (x : D) (xs : List D) : D := xs.foldl (fun a y => if ltD a y then y else a) x
def leastD (x : D) (xs : List D) : D := xs.foldl (fun a y => if ltD y a then y else a) x
/-- data that can be ordered -/
def datOk (xs : List D) : Bool := shs xs && (alikes xs && xs.all fun d => !isNonD d)
def sortOk (xs : List D) : Bool := datOk xs && decide (xs.length ≤ sizeLine)

/-- built-in functions and types that give a value of their arguments -/
inductive Bf where
  | len | abs | max | min | sum | all | any | sorted | list | tuple | int | str | repr | divmod
def lenD : List D → Option D
  | [.str x] => if x.length ≤ sizeLine then some (.int x.length) else none
  | [.tup xs] => some (.int xs.length)
  | [.lst xs] => some (.int xs.length)
  | [.scr xs] => some (.int xs.length)
  | [.dct _ ks _] => some (.int ks.length)
  | _ => none
def absD : List D → Option D
  | [.int i] => some (.int (if i < 0 then -i else i))
  | _ => none
def maxD : List D → Option D
  | [.int i, .int j] => some (.int (if j > i then j else i))
  | [.lst (x :: xs)] => if datOk (x :: xs) then some (mostD x xs) else none
  | _ => none
def minD : List D → Option D
  | [.int i, .int j] => some (.int (if j < i then j else i))
  | [.lst (x :: xs)] => if datOk (x :: xs) then some (leastD x xs) else none
  | _ => none
def sumD : List D → Option D
  | [.lst xs] => (ints? xs).map fun ns => .int ns.sum
  | _ => none
def allD : List D → Option D
  | [.lst xs] => (bls? xs).map fun bs => .bl (bs.all id)
  | _ => none
def anyD : List D → Option D
  | [.lst xs] => (bls? xs).map fun bs => .bl (bs.any id)
  | _ => none
def sortedD : List D → Option D
  | [.lst xs] => if sortOk xs then some (.lst (sortD xs)) else none
  | _ => none
def listD : List D → Option D
  | [.lst xs] => some (.lst xs)
  | [.tup xs] => some (.lst xs)
  | [.dct _ ks _] => some (.lst ks)
  | _ => none
def tupleD : List D → Option D
  | [.lst xs] => some (.tup xs)
  | [.tup xs] => some (.tup xs)
  | _ => none
def intD : List D → Option D
  | [.int i] => some (.int i)
  | [.bl b] => some (.int (if b then 1 else 0))
  | _ => none
def strD : List D → Option D
  | [.int i] => if i.natAbs.log2 < 1920 then some (.str (toString i : String)) else none
  | _ => none
def reprD : List D → Option D
  | [d] => if sh d && d.py.showable && decide (d.py.shown.length + 64 ≤ sizeLine) then some (.str d.py.shown) else none
  | _ => none
def divmodD : List D → Option D
  | [.int i, .int j] => if 0 < j && decide (j < 1073741824) then some (.tup [.int (i / j), .int (i % j)]) else none
  | _ => none
def bltD : Bf → List D → Option D
  | .len => lenD
  | .abs => absD
  | .max => maxD
  | .min => minD
  | .sum => sumD
  | .all => allD
  | .any => anyD
  | .sorted => sortedD
  | .list => listD
  | .tuple => tupleD
  | .int => intD
  | .str => strD
  | .repr => reprD
  | .divmod => divmodD
/-- methods that change nothing -/
inductive Mf where
  | lindex | tindex | get
def lindexD : D → List D → Option D
  | .lst xs, [y] => if sh y && sh (.lst xs) then (findD y xs).map fun n : Nat => .int (n : Int) else none
  | _, _ => none
def tindexD : D → List D → Option D
  | .tup xs, [y] => if sh y && sh (.tup xs) then (findD y xs).map fun n : Nat => .int (n : Int) else none
  | _, _ => none
def getD : D → List D → Option D
  | .dct t ks vs, [k] => if isKey t k then some ((lookD k ks vs).getD .non) else none
  | .dct t ks vs, [k, x] => if isKey t k then some ((lookD k ks vs).getD x) else none
  | _, _ => none
def metD : Mf → D → List D → Option D
  | .lindex => lindexD
  | .tindex => tindexD
  | .get => getD
def okL : Option D → Bool
  | some (.lst _) => true
  | _ => false
def okM : Mf → Option D → Bool
  | .lindex, o => okL o
  | .tindex, some (.tup _) => true
  | .get, some (.dct _ _ _) => true
  | _, _ => false
/-- methods that change a cell: the contents behind it, the value -/
inductive Mu where
  | append | extend | pop
def appendD : D → List D → Option (D × D)
  | .lst xs, [y] => if xs.length < sizeLine then some (.lst (xs ++ [y]), .non) else none
  | _, _ => none
def extendD : D → List D → Option (D × D)
  | .lst xs, [.lst ys] => if xs.length + ys.length ≤ sizeLine then some (.lst (xs ++ ys), .non) else none
  | _, _ => none
def popD : D → List D → Option (D × D)
  | .lst xs, [] => match xs[xs.length - 1]? with
    | some y => some (.lst xs.dropLast, y)
    | none => none
  | .lst xs, [.int i] => if -(2 ^ 63) ≤ i && decide (i < 2 ^ 63) then (match seqIndex? i xs.length with
    | some k => (match xs[k]? with
      | some y => some (.lst (xs.eraseIdx k), y)
      | none => none)
    | none => none) else none
  | _, _ => none
def mutD : Mu → D → List D → Option (D × D)
  | .append => appendD
  | .extend => extendD
  | .pop => popD
/-- o[i] = v -/
def setD : D → D → D → Option D
  | .lst xs, .int i, v => (L2.ixN xs.length i).map fun j => .lst (xs.set j v)
  | .dct t ks vs, k, v => if isKey t k && decide (ks.length < sizeLine) then some (.dct t (putD k v ks vs).1 (putD k v ks vs).2) else none
  | _, _, _ => none
/-- isinstance(d, T) -/
inductive Ty where
  | int | bool | tuple | str | list | dict
def isaD : D → Ty → Option Bool
  | .non, _ => some false
  | .bl _, .bool => some true
  | .bl _, .int => some true
  | .bl _, _ => some false
  | .int _, .int => some true
  | .int _, _ => some false
  | .str _, .str => some true
  | .str _, _ => some false
  | .tup _, .tuple => some true
  | .tup _, _ => some false
  | .lst _, .list => some true
  | .lst _, _ => some false
  | .dct _ _ _, .dict => some true
  | .dct _ _ _, _ => some false
  | _, _ => none
/-- {**a, k: v}, {k: v, ..} -/
def putsD : List D → List D → List D → List D → List D × List D
  | k :: ks, v :: vs, a, b => let (x, y) := putD k v a b; putsD ks vs x y
  | _, _, a, b => (a, b)

/-! ### the text -/
mutual
inductive ME where
  | var (i : Nat)
  | con (d : D)
  | gl (x : Str) (d : D)
  | fn (x : Str)
  | bin (o : Operator) (a b : ME)
  | neg (a : ME)
  | not (a : MB)
  | and (a b : ME)
  | or (a b : ME)
  | cmp (o : CmpOp) (a b : ME)
  | chain (o p : CmpOp) (a b c : ME)
  | ite (c : MB) (a b : ME)
  | idx (a i : ME)
  | slc (a : ME) (lo hi : MO)
  | tup (es : MEs)
  | lst (es : MEs)
  | dsp (t : Bool) (ps : MPs)
  | lc (own : List Nat) (e : ME) (t : MT) (it : MI) (c : MC)
  | lc2 (own own1 : List Nat) (e : ME) (t : MT) (it : MI) (c : MC) (t1 : MT) (it1 : MI) (c1 : MC)
  | dc (b : Bool) (own : List Nat) (k v : ME) (t : MT) (it : MI) (c : MC)
  | call (f : Nat) (es : MEs) (ks : MEs) (perm : List Nat)
  | blt (b : Bf) (es : MEs)
  | lrng (a b : ME)
  | isa (e : ME) (t : Ty)
  | met (m : Mf) (o : ME) (es : MEs)
  | mut (m : Mu) (o : ME) (es : MEs)
  | new (e : ME)
  | frz (e : ME)
  | rev (a : ME)
  /-- {**a, k: v} -/
  | dput (a k v : ME)
  /-- sorted(set(a)) -/
  | sset (a : ME)
  /-- dict(zip(a, b)) -/
  | dzip (t : Bool) (a b : ME)
inductive MB where
  | tru (e : ME)
  | not (a : MB)
  | and (a b : MB)
  | or (a b : MB)
inductive MC where
  | nil
  | one (b : MB)
/-- a slice's part -/
inductive MO where
  | nil
  | one (e : ME)
inductive MEs where
  | nil
  | cons (e : ME) (r : MEs)
  | star (e : ME) (r : MEs)
inductive MPs where
  | nil
  | cons (k v : ME) (r : MPs)
inductive MI where
  | seq (e : ME)
  | rng (a b : ME)
  | enm (e : ME)
  | zip (a b : ME)
  /-- range(a, -1, -1) -/
  | rdn (a : ME)
  /-- d.values() -/
  | vals (e : ME)
inductive MT where
  | nm (i : Nat)
  | tp (ts : MTs)
  | sub (o i : ME)
inductive MTs where
  | nil
  | cons (t : MT) (r : MTs)
end

mutual
inductive MS where
  | asg (t : MT) (e : ME)
  | exp (e : ME)
  | ret (e : ME)
  | ite (c : MB) (a b : MSs)
  | for_ (t : MT) (it : MI) (b : MSs)
  | whl (c : MB) (b : MSs)
  | rse (c : Str) (es : MEs)
  | brk | cnt | pss
  /-- never come to -/
  | nev
inductive MSs where
  | nil
  | cons (s : MS) (r : MSs)
end

/-- what a statement ends in -/
inductive SR where
  | nx (σ : En) (M : Cs)
  | br (σ : En) (M : Cs)
  | ct (σ : En) (M : Cs)
  | rt (d : D) (M : Cs)
  | ex (e : D) (σ : En) (M : Cs)
  | bad

/-- an evaluation, then a statement's rest -/
def SR.of {α : Type} (σd : En) (r : Res α) (g : α → Cs → SR) : SR := match r with
  | .ok a M => g a M
  | .ex e M => .ex e σd M
  | .bad => .bad

/-- keywords' values to their places -/
def permD (perm : List Nat) (xs : List D) : List D := match perm with
  | [] => xs
  | _ => perm.map fun i => xs.getD i .non

def intD? : D → Option (Option Int)
  | .int i => some (some i)
  | _ => none
def tupD : D → Option (List D)
  | .tup xs => some xs
  | .lst xs => some xs
  | _ => none
def consD : List D → Option (D × List D)
  | [] => none
  | d :: ds => some (d, ds)
structure Cl where
  call : Nat → List D → Cs → Res D
  fuel : Nat

def itemsD (M : Cs) (x : D) : Option (List D) := match rd M x with
  | some (.tup xs) => some xs
  | some (.lst xs) => some xs
  | _ => none
/-- two lists, or two tuples -/
def bothD : Option D → Option D → Bool
  | some (.lst _), some (.lst _) => true
  | some (.tup _), some (.tup _) => true
  | _, _ => false
def watch : D → List Nat
  | .cell n => [n]
  | _ => []
def rngD : D → D → Option (List D)
  | .int i, .int j => if -(2 ^ 62) ≤ i && decide (i < 2 ^ 62) && decide (-(2 ^ 62) ≤ j) && decide (j < 2 ^ 62) then some ((List.range (j - i).toNat).map fun n : Nat => .int (i + n)) else none
  | _, _ => none
def rdnD : D → Option (List D)
  | .int i => if -(2 ^ 62) ≤ i && decide (i < 2 ^ 62) then some ((List.range (i + 1).toNat).map fun n : Nat => .int (i - n)) else none
  | _ => none
def valsD (M : Cs) (x : D) : Option (List D) := match rd M x with
  | some (.dct _ _ vs) => some vs
  | _ => none
/-- no row equal to one before it -/
def onceD : List D → List D
  | [] => []
  | x :: xs => x :: (onceD xs).filter fun y => !decide (y = x)
def ssetD : D → Option D
  | .lst xs => if sortOk (onceD xs) && xs.all (fun x => (match x with
    | .int _ => true
    | _ => false)) then some (.lst (sortD (onceD xs))) else none
  | _ => none
/-- dict(zip(a, b)) -/
def dzipD (t : Bool) (xs ys : List D) : Option D :=
  if xs.all (isKey t) && decide (xs.length < sizeLine) then some (.dct t (putsD ((xs.zip ys).map (·.1)) ((xs.zip ys).map (·.2)) [] []).1 (putsD ((xs.zip ys).map (·.1)) ((xs.zip ys).map (·.2)) [] []).2) else none
def enumD (xs : List D) : List D := xs.zipIdx.map fun p => .tup [.int p.2, p.1]
def zipD (xs ys : List D) : List D := (xs.zip ys).map fun p => .tup [p.1, p.2]

def wip (σ : En) : List Nat → En
  | [] => σ
  | v :: vs => (wip σ vs).set v none

/-- the cells of ws stand as they stood -/
def same (ws : List Nat) (M M1 : Cs) : Bool := ws.all fun n => decide (M1[n]? = M[n]?)
@[simp] theorem same_nil (M M1 : Cs) : same [] M M1 = true := id rfl
/-- one turn after the other, what they give in a row -/
def lcGo (ws : List Nat) (step : D → Cs → Res (List D)) : List D → List D → Cs → Res (List D)
  | [], acc, M => .ok acc M
  | d :: ds, acc, M => match step d M with
    | .ok xs M1 => if acc.length + xs.length ≤ sizeLine && same ws M M1 then lcGo ws step ds (acc ++ xs) M1 else .bad
    | _ => .bad
def dcGo (b : Bool) (ws : List Nat) (step : D → Cs → Res (Option (D × D))) : List D → List D → List D → Cs → Res (List D × List D)
  | [], ks, vs, M => .ok (ks, vs) M
  | d :: ds, ks, vs, M => match step d M with
    | .ok none M1 => if same ws M M1 then dcGo b ws step ds ks vs M1 else .bad
    | .ok (some p) M1 => if same ws M M1 && (isKey b p.1 && decide (ks.length < sizeLine)) then dcGo b ws step ds (putD p.1 p.2 ks vs).1 (putD p.1 p.2 ks vs).2 M1 else .bad
    | _ => .bad
def forGo (ws : List Nat) (step : D → En → Cs → SR) : List D → En → Cs → SR
  | [], σ, M => .nx σ M
  | d :: ds, σ, M => match step d σ M with
    | .nx σ1 M1 => if same ws M M1 then forGo ws step ds σ1 M1 else .bad
    | .ct σ1 M1 => if same ws M M1 then forGo ws step ds σ1 M1 else .bad
    | .br σ1 M1 => .nx σ1 M1
    | r => r
def whlGo (test : En → Cs → Res Bool) (step : En → Cs → SR) : Nat → En → Cs → SR
  | 0, _, _ => .bad
  | n + 1, σ, M => match test σ M with
    | .ok true M1 => (match step σ M1 with
      | .nx σ1 M2 => whlGo test step n σ1 M2
      | .ct σ1 M2 => whlGo test step n σ1 M2
      | .br σ1 M2 => .nx σ1 M2
      | r => r)
    | .ok false M1 => .nx σ M1
    | .ex e M1 => .ex e σ M1
    | .bad => .bad

mutual
def evE (C : Cl) : ME → En → Cs → Res D
  | .var i, σ, M => (match σ[i]? with
    | some (some d) => .ok d M
    | _ => .bad)
  | .con d, _, M => .ok d M
  | .gl _ d, _, M => .ok d M
  | .fn x, _, M => .ok (.fn x) M
  | .bin o a b, σ, M => (evE C a σ M).bind fun x M1 => (evE C b σ M1).bind fun y M2 => opt ((rd M2 x).bind fun x' => (rd M2 y).bind fun y' => binD o x' y') M2
  | .neg a, σ, M => (evE C a σ M).bind fun x M1 => (match x with
    | .int i => .ok (.int (-i)) M1
    | _ => .bad)
  | .not a, σ, M => (evB C a σ M).bind fun b M1 => .ok (.bl (!b)) M1
  | .and a b, σ, M => (evE C a σ M).bind fun x M1 => (match (rd M1 x).bind truthD with
    | some true => evE C b σ M1
    | some false => .ok x M1
    | none => .bad)
  | .or a b, σ, M => (evE C a σ M).bind fun x M1 => (match (rd M1 x).bind truthD with
    | some true => .ok x M1
    | some false => evE C b σ M1
    | none => .bad)
  | .cmp o a b, σ, M => (evE C a σ M).bind fun x M1 => (evE C b σ M1).bind fun y M2 => opt ((rd M2 x).bind fun x' => (rd M2 y).bind fun y' => (cmpD o x' y').map .bl) M2
  | .chain o p a b c, σ, M => (evE C a σ M).bind fun x M1 => (evE C b σ M1).bind fun y M2 =>
    (match (rd M2 x).bind fun x' => (rd M2 y).bind fun y' => cmpD o x' y' with
    | some true => (evE C c σ M2).bind fun z M3 => opt ((rd M3 y).bind fun y' => (rd M3 z).bind fun z' => (cmpD p y' z').map .bl) M3
    | some false => .ok (.bl false) M2
    | none => .bad)
  | .ite c a b, σ, M => (evB C c σ M).bind fun k M1 => if k = true then evE C a σ M1 else evE C b σ M1
  | .idx a i, σ, M => (evE C a σ M).bind fun x M1 => (evE C i σ M1).bind fun y M2 => opt ((rd M2 x).bind fun x' => (rd M2 y).bind fun y' => idxD x' y') M2
  | .slc a lo hi, σ, M => (evE C a σ M).bind fun x M1 => (evO C lo σ M1).bind fun l M3 => (evO C hi σ M3).bind fun u M5 => opt ((rd M5 x).bind fun x' => slcD x' (ptD l) (ptD u) .non) M5
  | .tup es, σ, M => (evEs C es σ M).bind fun xs M1 => if xs.length ≤ sizeLine then .ok (.tup xs) M1 else .bad
  | .lst es, σ, M => (evEs C es σ M).bind fun xs M1 => if xs.length ≤ sizeLine then .ok (.lst xs) M1 else .bad
  | .dsp t ps, σ, M => (evPs C ps σ M).bind fun ps M1 => if ps.1.all (isKey t) && decide (ps.1.length ≤ 15) then .ok (.dct t (putsD ps.1 ps.2 [] []).1 (putsD ps.1 ps.2 [] []).2) M1 else .bad
  | .lc own e t it c, σ, M => (evI C it σ M).bind fun ds M1 => (lcGo ds.2 (fun d M => (evT C t d (wip σ own) M).bind fun σ1 M2 => (evC C c σ1 M2).bind fun b M3 => if b = true then (evE C e σ1 M3).bind fun x M4 => .ok [x] M4 else .ok [] M3) ds.1 [] M1).bind fun xs M2 => .ok (.lst xs) M2
  | .lc2 own own1 e t it c t1 it1 c1, σ, M => (evI C it σ M).bind fun ds M1 => (lcGo ds.2 (fun d M => (evT C t d (wip σ own) M).bind fun σ1 M2 => (evC C c σ1 M2).bind fun b M3 => if b = true then
      (evI C it1 σ1 M3).bind fun ds1 M4 => lcGo ds1.2 (fun d1 M => (evT C t1 d1 (wip σ1 own1) M).bind fun σ2 M5 => (evC C c1 σ2 M5).bind fun b1 M6 => if b1 = true then (evE C e σ2 M6).bind fun x M7 => .ok [x] M7 else .ok [] M6) ds1.1 [] M4 else .ok [] M3) ds.1 [] M1).bind fun xs M2 => .ok (.lst xs) M2
  | .dc b own k v t it c, σ, M => (evI C it σ M).bind fun ds M1 => (dcGo b ds.2 (fun d M => (evT C t d (wip σ own) M).bind fun σ1 M2 => (evC C c σ1 M2).bind fun q M3 => if q = true then (evE C k σ1 M3).bind fun x M4 => (evE C v σ1 M4).bind fun y M5 => .ok (some (x, y)) M5 else .ok none M3) ds.1 [] [] M1).bind fun p M2 => .ok (.dct b p.1 p.2) M2
  | .call f es ks perm, σ, M => (evEs C es σ M).bind fun xs M1 => (evEs C ks σ M1).bind fun ys M2 => C.call f (permD perm (xs ++ ys)) M2
  | .blt b es, σ, M => (evEs C es σ M).bind fun xs M1 => opt ((rds M1 xs).bind (bltD b)) M1
  | .lrng a b, σ, M => (evE C a σ M).bind fun x M1 => (evE C b σ M1).bind fun y M2 => opt ((rngD x y).bind fun xs => if xs.length ≤ sizeLine then some (.lst xs) else none) M2
  | .isa e t, σ, M => (evE C e σ M).bind fun x M1 => opt ((rd M1 x).bind fun x' => (isaD x' t).map .bl) M1
  | .met m o es, σ, M => (evE C o σ M).bind fun x M1 => if okM m (rd M1 x) then (evEs C es σ M1).bind fun xs M2 => opt ((rd M2 x).bind fun x' => (rds M2 xs).bind (metD m x')) M2 else .bad
  | .mut m o es, σ, M => (evE C o σ M).bind fun x M1 => if okL (rd M1 x) then (evEs C es σ M1).bind fun xs M2 => (match x with
    | .cell n => if frees 0 xs then (match (rd M2 x).bind fun x' => mutD m x' xs with
      | some (y, v) => .ok v (M2.set n (some y))
      | none => .bad) else .bad
    | _ => .bad) else .bad
  | .new e, σ, M => (evE C e σ M).bind fun x M1 => (match x with
    | .lst xs => if frees 0 xs then .ok (.cell M1.length) (M1 ++ [some (.lst xs)]) else .bad
    | .dct t ks vs => if frees 0 ks && frees 0 vs then .ok (.cell M1.length) (M1 ++ [some (.dct t ks vs)]) else .bad
    | _ => .bad)
  | .frz e, σ, M => (evE C e σ M).bind fun x M1 => (match x with
    | .cell n => (match rd M1 x with
      | some d => .ok d (M1.set n none)
      | none => .bad)
    | _ => .ok x M1)
  | .rev a, σ, M => (evE C a σ M).bind fun x M1 => opt ((rd M1 x).bind revD) M1
  | .dput a k v, σ, M => (evE C a σ M).bind fun x M1 => (evE C k σ M1).bind fun y M2 => (evE C v σ M2).bind fun z M3 => opt ((rd M3 x).bind fun x' => (match x' with
    | .dct _ _ _ => setD x' y z
    | _ => none)) M3
  | .sset a, σ, M => (evE C a σ M).bind fun x M1 => opt ((rd M1 x).bind ssetD) M1
  | .dzip t a b, σ, M => (evE C a σ M).bind fun x M1 => (evE C b σ M1).bind fun y M2 => opt ((itemsD M2 x).bind fun xs => (itemsD M2 y).bind fun ys => dzipD t xs ys) M2
def evB (C : Cl) : MB → En → Cs → Res Bool
  | .not a, σ, M => (evB C a σ M).bind fun b M1 => .ok (!b) M1
  | .and a b, σ, M => (evB C a σ M).bind fun k M1 => if k = true then evB C b σ M1 else .ok false M1
  | .or a b, σ, M => (evB C a σ M).bind fun k M1 => if k = true then .ok true M1 else evB C b σ M1
  | .tru e, σ, M => (evE C e σ M).bind fun x M1 => opt ((rd M1 x).bind truthD) M1
def evEs (C : Cl) : MEs → En → Cs → Res (List D)
  | .nil, _, M => .ok [] M
  | .cons e r, σ, M => (evE C e σ M).bind fun x M1 => (evEs C r σ M1).bind fun xs M2 => .ok (x :: xs) M2
  | .star e r, σ, M => (evE C e σ M).bind fun x M1 => (match rd M1 x with
    | some (.tup ys) => (evEs C r σ M1).bind fun xs M2 => .ok (ys ++ xs) M2
    | some (.lst ys) => (evEs C r σ M1).bind fun xs M2 => .ok (ys ++ xs) M2
    | _ => .bad)
def evPs (C : Cl) : MPs → En → Cs → Res (List D × List D)
  | .nil, _, M => .ok ([], []) M
  | .cons k v r, σ, M => (evE C k σ M).bind fun x M1 => (evE C v σ M1).bind fun y M2 => (evPs C r σ M2).bind fun p M3 => .ok (x :: p.1, y :: p.2) M3
def evO (C : Cl) : MO → En → Cs → Res (Option Int)
  | .nil, _, M => .ok none M
  | .one e, σ, M => (evE C e σ M).bind fun x M1 => opt (intD? x) M1
/-- a clause's tests -/
def evC (C : Cl) : MC → En → Cs → Res Bool
  | .nil, _, M => .ok true M
  | .one b, σ, M => evB C b σ M
/-- what is walked -/
def evI (C : Cl) : MI → En → Cs → Res (List D × List Nat)
  | .seq e, σ, M => (evE C e σ M).bind fun x M1 => opt ((itemsD M1 x).map fun xs => (xs, watch x)) M1
  | .rng a b, σ, M => (evE C a σ M).bind fun x M1 => (evE C b σ M1).bind fun y M2 => opt ((rngD x y).map fun xs => (xs, [])) M2
  | .enm e, σ, M => (evE C e σ M).bind fun x M1 => opt ((itemsD M1 x).map fun xs => (enumD xs, watch x)) M1
  | .zip a b, σ, M => (evE C a σ M).bind fun x M1 => (evE C b σ M1).bind fun y M2 => opt ((itemsD M2 x).bind fun xs => if bothD (rd M2 x) (rd M2 y) then (itemsD M2 y).map fun ys => (zipD xs ys, watch x ++ watch y) else none) M2
  | .rdn a, σ, M => (evE C a σ M).bind fun x M1 => opt ((rdnD x).map fun xs => (xs, [])) M1
  | .vals e, σ, M => (evE C e σ M).bind fun x M1 => opt ((valsD M1 x).map fun xs => (xs, watch x)) M1
/-- a target gets a value -/
def evT (C : Cl) : MT → D → En → Cs → Res En
  | .nm i, d, σ, M => .ok (σ.set i (some d)) M
  | .tp ts, d, σ, M => (match tupD d with
    | some xs => evTs C ts xs σ M
    | none => .bad)
  | .sub o i, d, σ, M => (match evE C o σ M with
    | .ok x M1 => (match evE C i σ M1 with
      | .ok y M2 => (match x with
        | .cell n => if y.free 0 && d.free 0 then (match (rd M2 x).bind fun x' => setD x' y d with
          | some z => .ok σ (M2.set n (some z))
          | none => .bad) else .bad
        | _ => .bad)
      | _ => .bad)
    | _ => .bad)
def evTs (C : Cl) : MTs → List D → En → Cs → Res En
  | .nil, ds, σ, M => if ds.isEmpty then .ok σ M else .bad
  | .cons t r, ds, σ, M => (match consD ds with
    | some p => (evT C t p.1 σ M).bind fun σ1 M1 => evTs C r p.2 σ1 M1
    | none => .bad)
end

mutual
def evS (C : Cl) : MS → En → Cs → SR
  | .asg t e, σ, M => SR.of σ (evE C e σ M) fun d M1 => SR.of σ (evT C t d σ M1) fun σ1 M2 => .nx σ1 M2
  | .exp e, σ, M => SR.of σ (evE C e σ M) fun _ M1 => .nx σ M1
  | .ret e, σ, M => SR.of σ (evE C e σ M) fun d M1 => .rt d M1
  | .ite c a b, σ, M => SR.of σ (evB C c σ M) fun k M1 => if k = true then evSs C a σ M1 else evSs C b σ M1
  | .for_ t it b, σ, M => SR.of σ (evI C it σ M) fun ds M1 => forGo ds.2 (fun d σ M => SR.of σ (evT C t d σ M) fun σ1 M2 => evSs C b σ1 M2) ds.1 σ M1
  | .whl c b, σ, M => whlGo (evB C c) (evSs C b) C.fuel σ M
  | .rse c es, σ, M => SR.of σ (evEs C es σ M) fun xs M1 => .ex (.exc c xs) σ M1
  | .brk, σ, M => .br σ M
  | .cnt, σ, M => .ct σ M
  | .pss, σ, M => .nx σ M
  | .nev, _, _ => .bad
def evSs (C : Cl) : MSs → En → Cs → SR
  | .nil, σ, M => .nx σ M
  | .cons s r, σ, M => (match evS C s σ M with
    | .nx σ1 M1 => evSs C r σ1 M1
    | x => x)
end

/-- a def: how many parameters, how many names, whether what it makes and changes stays -/
structure MF where
  ps : Nat
  slots : Nat
  body : MSs
  keep : Bool := false

/-- a def's end: its cells go -/
def finF (keep : Bool) (n : Nat) : SR → Res D
  | .rt d M => if keep then .ok d M else if d.free n then .ok d (M.take n) else .bad
  | .nx _ M => .ok .non (M.take n)
  | .ex e _ M => if e.free n then .ex e (M.take n) else .bad
  | _ => .bad
def callF (P : List MF) : Nat → Nat → List D → Cs → Res D
  | 0, _, _, _ => .bad
  | k + 1, f, ds, M => match P[f]? with
    | some F => if ds.length = F.ps then finF F.keep M.length (evSs ⟨callF P k, k⟩ F.body (ds.map some ++ List.replicate (F.slots - F.ps) none) M) else .bad
    | none => .bad

end Mp

/-! How data lie in the abstract heap. -/
namespace Mp
open PySem PySem.Spec PyProof.Rows L2

def keyD : Key → D
  | .inl i => .int i
  | .inr x => .str x
def keyTD (k : List Key) : D := .tup (k.map keyD)
def live (M : Cs) (n : Nat) : Prop := ∃ d, M[n]? = some (some d)
/-- what may change: reserved, or a cell's -/
def Lv (R : Addr → Prop) (c : List Addr) (M : Cs) (a : Addr) : Prop := R a ∨ ∃ n, live M n ∧ c[n]? = some a

/-- a context: the module's names; the lists of the written part -/
structure Mg where
  nm : Str → Option Value
  kl : Addr → List V → Prop
/-- a text's context -/
def _root_.L2.Cx.Mg (X : Cx) : Mg := ⟨X.mg, fun a xs => SqL X.K (fun _ => none) a xs⟩
theorem sqL_of {K : PySem.W.Frag} {H : Hp} {a : Addr} {xs : List V} (h : SqL K (fun _ => none) a xs) : SqL K H a xs := by
  rcases h with (h | ⟨_, h⟩) | h
  · cases h
  · cases h
  · exact .inr h

mutual
/-- v holds d in H, nothing of it may change -/
def Rp (mg : Mg) (H : Hp) (U : Addr → Prop) (c : List Addr) : D → V → Prop
  | .non, v => v = .non
  | .bl b, v => v = .bl b
  | .int i, v => v = .int i
  | .str x, v => v = .str x
  | .tup ds, v => ∃ a vs, v = .ref a ∧ H a = some (.tup vs) ∧ ¬ U a ∧ RpL mg H U c ds vs
  | .lst ds, v => ∃ a vs, v = .ref a ∧ H a = some (.lst vs) ∧ ¬ U a ∧ RpL mg H U c ds vs
  | .dct t ks us, v => ∃ a, v = .ref a ∧ ¬ U a ∧ (
      (t = false ∧ ∃ kvs : List (Key × V), H a = some (.dK kvs) ∧ ks = kvs.map (fun p => keyD p.1) ∧ RpL mg H U c us (kvs.map (·.2))) ∨
      (t = true ∧ ∃ kvs : List (List Key × V), H a = some (.dT kvs) ∧ ks = kvs.map (fun p => keyTD p.1) ∧ RpL mg H U c us (kvs.map (·.2))))
  | .cell n, v => ∃ a, v = .ref a ∧ c[n]? = some a
  | .fn x, v => ∃ a, v = .ref a ∧ mg.nm x = some (.ref a)
  | .exc _ _, _ => False
  | .scr ns, v => ∃ a, v = .ref a ∧ ((Rd H a (.lst (ns.map .int)) ∧ ¬ U a) ∨ mg.kl a (ns.map .int))
def RpL (mg : Mg) (H : Hp) (U : Addr → Prop) (c : List Addr) : List D → List V → Prop
  | [], vs => vs = []
  | d :: ds, vs => ∃ v r, vs = v :: r ∧ Rp mg H U c d v ∧ RpL mg H U c ds r
end

section
variable {mg : Mg} {H : Hp} {U : Addr → Prop} {c : List Addr}
theorem RpL.nil_iff {vs : List V} : RpL mg H U c [] vs ↔ vs = [] := by simp [RpL]
theorem RpL.cons_iff {d : D} {ds : List D} {vs : List V} : RpL mg H U c (d :: ds) vs ↔ ∃ v r, vs = v :: r ∧ Rp mg H U c d v ∧ RpL mg H U c ds r := by simp [RpL]
theorem RpL.cons {d : D} {ds : List D} {v : V} {vs : List V} (h : Rp mg H U c d v) (t : RpL mg H U c ds vs) : RpL mg H U c (d :: ds) (v :: vs) := RpL.cons_iff.mpr ⟨v, vs, rfl, h, t⟩
theorem RpL.nil : RpL mg H U c [] [] := RpL.nil_iff.mpr rfl
theorem RpL.len : ∀ {ds : List D} {vs : List V}, RpL mg H U c ds vs → vs.length = ds.length
  | [], vs, h => by rw [RpL.nil_iff.mp h]; rfl
  | d :: ds, vs, h => by
    obtain ⟨v, r, rfl, _, t⟩ := RpL.cons_iff.mp h
    simp [RpL.len t]
theorem RpL.app : ∀ {ds es : List D} {vs us : List V}, RpL mg H U c ds vs → RpL mg H U c es us → RpL mg H U c (ds ++ es) (vs ++ us)
  | [], es, vs, us, h, k => by rw [RpL.nil_iff.mp h]; exact k
  | d :: ds, es, vs, us, h, k => by
    obtain ⟨v, r, rfl, h1, t⟩ := RpL.cons_iff.mp h
    exact RpL.cons h1 (RpL.app t k)
theorem RpL.get : ∀ {ds : List D} {vs : List V} {i : Nat} {d : D}, RpL mg H U c ds vs → ds[i]? = some d → ∃ v, vs[i]? = some v ∧ Rp mg H U c d v
  | [], _, _, _, _, e => by simp at e
  | x :: ds, vs, 0, d, h, e => by
    obtain ⟨v, r, rfl, h1, t⟩ := RpL.cons_iff.mp h
    simp at e; subst e
    exact ⟨v, rfl, h1⟩
  | x :: ds, vs, i + 1, d, h, e => by
    obtain ⟨v, r, rfl, h1, t⟩ := RpL.cons_iff.mp h
    obtain ⟨u, e1, e2⟩ := RpL.get (i := i) (d := d) t (by simpa using e)
    exact ⟨u, by simpa using e1, e2⟩
theorem RpL.get' {ds : List D} {vs : List V} {i : Nat} {v : V} (h : RpL mg H U c ds vs) (e : vs[i]? = some v) : ∃ d, ds[i]? = some d ∧ Rp mg H U c d v := by
  have hl := h.len
  have hi : i < vs.length := by
    rcases Nat.lt_or_ge i vs.length with q | q
    · exact q
    · rw [List.getElem?_eq_none q] at e; cases e
  have hd : ds[i]? = some ds[i] := List.getElem?_eq_getElem (by omega)
  obtain ⟨u, e1, e2⟩ := h.get hd
  rw [e] at e1; cases e1
  exact ⟨_, hd, e2⟩
theorem RpL.take : ∀ {ds : List D} {vs : List V} (n : Nat), RpL mg H U c ds vs → RpL mg H U c (ds.take n) (vs.take n)
  | _, _, 0, _ => by simp [RpL]
  | [], vs, n + 1, h => by rw [RpL.nil_iff.mp h]; simp [RpL]
  | d :: ds, vs, n + 1, h => by
    obtain ⟨v, r, rfl, h1, t⟩ := RpL.cons_iff.mp h
    exact RpL.cons h1 (RpL.take n t)
theorem RpL.drop : ∀ {ds : List D} {vs : List V} (n : Nat), RpL mg H U c ds vs → RpL mg H U c (ds.drop n) (vs.drop n)
  | _, _, 0, h => by simpa using h
  | [], vs, n + 1, h => by rw [RpL.nil_iff.mp h]; simp [RpL]
  | d :: ds, vs, n + 1, h => by
    obtain ⟨v, r, rfl, h1, t⟩ := RpL.cons_iff.mp h
    exact RpL.drop n t
theorem RpL.set : ∀ {ds : List D} {vs : List V} (n : Nat) {d : D} {v : V}, RpL mg H U c ds vs → Rp mg H U c d v → RpL mg H U c (ds.set n d) (vs.set n v)
  | [], vs, n, d, v, h, _ => by rw [RpL.nil_iff.mp h]; simp [RpL]
  | x :: ds, vs, 0, d, v, h, k => by
    obtain ⟨u, r, rfl, h1, t⟩ := RpL.cons_iff.mp h
    exact RpL.cons k t
  | x :: ds, vs, n + 1, d, v, h, k => by
    obtain ⟨u, r, rfl, h1, t⟩ := RpL.cons_iff.mp h
    exact RpL.cons h1 (RpL.set n t k)
theorem RpL.eraseIdx : ∀ {ds : List D} {vs : List V} (n : Nat), RpL mg H U c ds vs → RpL mg H U c (ds.eraseIdx n) (vs.eraseIdx n)
  | [], vs, n, h => by rw [RpL.nil_iff.mp h]; simp [RpL]
  | x :: ds, vs, 0, h => by
    obtain ⟨u, r, rfl, h1, t⟩ := RpL.cons_iff.mp h
    exact t
  | x :: ds, vs, n + 1, h => by
    obtain ⟨u, r, rfl, h1, t⟩ := RpL.cons_iff.mp h
    exact RpL.cons h1 (RpL.eraseIdx n t)
theorem RpL.dropLast {ds : List D} {vs : List V} (h : RpL mg H U c ds vs) : RpL mg H U c ds.dropLast vs.dropLast := by
  rw [List.dropLast_eq_take, List.dropLast_eq_take, h.len]; exact h.take _
theorem RpL.rep {ds : List D} {vs : List V} (h : RpL mg H U c ds vs) : ∀ n : Nat, RpL mg H U c (List.replicate n ds).flatten (List.replicate n vs).flatten
  | 0 => by simp [RpL]
  | n + 1 => by
    rw [List.replicate_succ, List.replicate_succ, List.flatten_cons, List.flatten_cons]
    exact h.app (RpL.rep h n)
theorem RpL.split : ∀ {ds es : List D} {ws : List V}, RpL mg H U c (ds ++ es) ws → ∃ vs us, ws = vs ++ us ∧ RpL mg H U c ds vs ∧ RpL mg H U c es us
  | [], es, ws, h => ⟨[], ws, rfl, RpL.nil, h⟩
  | d :: ds, es, ws, h => by
    obtain ⟨v, r, rfl, h1, t⟩ := RpL.cons_iff.mp h
    obtain ⟨vs, us, rfl, h2, h3⟩ := RpL.split t
    exact ⟨v :: vs, us, rfl, RpL.cons h1 h2, h3⟩
end

/-! ### steps -/
/-- from (H, c, M) to (H', c', M') -/
structure Stp (R : Addr → Prop) (H : Hp) (c : List Addr) (M : Cs) (H' : Hp) (c' : List Addr) (M' : Cs) : Prop where
  keep : ∀ a o, H a = some o → ¬ Lv R c M a → H' a = some o ∧ ¬ Lv R c' M' a
  pre : ∀ n, n < c.length → c'[n]? = c[n]?
  res : ∀ a, R a → H' a = H a
theorem Stp.refl (R : Addr → Prop) (H : Hp) (c : List Addr) (M : Cs) : Stp R H c M H c M := ⟨fun _ _ e n => ⟨e, n⟩, fun _ _ => rfl, fun _ _ => rfl⟩
theorem Stp.len {R : Addr → Prop} {H H' : Hp} {c c' : List Addr} {M M' : Cs} (s : Stp R H c M H' c' M') : c.length ≤ c'.length := by
  rcases Nat.eq_zero_or_pos c.length with h | h
  · omega
  · have := s.pre (c.length - 1) (by omega)
    rw [List.getElem?_eq_getElem (show c.length - 1 < c.length by omega)] at this
    have := (List.getElem?_eq_some_iff.mp this).1
    omega
theorem Stp.trans {R : Addr → Prop} {H H' H'' : Hp} {c c' c'' : List Addr} {M M' M'' : Cs} (s : Stp R H c M H' c' M') (t : Stp R H' c' M' H'' c'' M'') : Stp R H c M H'' c'' M'' :=
  ⟨fun a o e n => let ⟨e1, n1⟩ := s.keep a o e n; t.keep a o e1 n1, fun n hn => (t.pre n (Nat.lt_of_lt_of_le hn s.len)).trans (s.pre n hn), fun a r => (t.res a r).trans (s.res a r)⟩

/-- what a value needs of a step -/
structure Gr (H : Hp) (U : Addr → Prop) (c : List Addr) (H' : Hp) (U' : Addr → Prop) (c' : List Addr) : Prop where
  keep : ∀ a o, H a = some o → ¬ U a → H' a = some o ∧ ¬ U' a
  pre : ∀ n, n < c.length → c'[n]? = c[n]?
theorem Stp.gr {R : Addr → Prop} {H H' : Hp} {c c' : List Addr} {M M' : Cs} (s : Stp R H c M H' c' M') : Gr H (Lv R c M) c H' (Lv R c' M') c' := ⟨s.keep, s.pre⟩
theorem Rd.ex {H : Hp} {a : Addr} {u : HO} (r : Rd H a u) : ∃ o, H a = some o ∧ ∀ H' : Hp, H' a = some o → Rd H' a u := by
  rcases r with r | ⟨o, r⟩
  · exact ⟨_, r, fun _ e => .inl e⟩
  · exact ⟨_, r, fun _ e => .inr ⟨o, e⟩⟩
mutual
theorem Rp.mono {mg : Mg} {H H' : Hp} {U U' : Addr → Prop} {c c' : List Addr} (g : Gr H U c H' U' c') : ∀ (d : D) {v : V}, Rp mg H U c d v → Rp mg H' U' c' d v
  | .non, v, h => by simp only [Rp] at h ⊢; exact h
  | .bl _, v, h => by simp only [Rp] at h ⊢; exact h
  | .int _, v, h => by simp only [Rp] at h ⊢; exact h
  | .str _, v, h => by simp only [Rp] at h ⊢; exact h
  | .fn _, v, h => by simp only [Rp] at h ⊢; exact h
  | .exc _ _, v, h => by simp only [Rp] at h
  | .cell n, v, h => by
    simp only [Rp] at h ⊢
    obtain ⟨a, e, hc⟩ := h
    exact ⟨a, e, (g.pre n (List.getElem?_eq_some_iff.mp hc).1).trans hc⟩
  | .tup ds, v, h => by
    simp only [Rp] at h ⊢
    obtain ⟨a, vs, e, h1, h2, h3⟩ := h
    obtain ⟨k1, k2⟩ := g.keep a _ h1 h2
    exact ⟨a, vs, e, k1, k2, RpL.mono g ds h3⟩
  | .lst ds, v, h => by
    simp only [Rp] at h ⊢
    obtain ⟨a, vs, e, h1, h2, h3⟩ := h
    obtain ⟨k1, k2⟩ := g.keep a _ h1 h2
    exact ⟨a, vs, e, k1, k2, RpL.mono g ds h3⟩
  | .scr ns, v, h => by
    simp only [Rp] at h ⊢
    obtain ⟨a, e, h⟩ := h
    refine ⟨a, e, ?_⟩
    rcases h with ⟨h1, h2⟩ | h
    · obtain ⟨o, h4, h5⟩ := Rd.ex h1
      obtain ⟨k1, k2⟩ := g.keep a o h4 h2
      exact .inl ⟨h5 _ k1, k2⟩
    · exact .inr h
  | .dct t ks us, v, h => by
    simp only [Rp] at h ⊢
    obtain ⟨a, e, h1, h2⟩ := h
    rcases h2 with ⟨et, kvs, h3, h4, h5⟩ | ⟨et, kvs, h3, h4, h5⟩
    · obtain ⟨k1, k2⟩ := g.keep a _ h3 h1
      exact ⟨a, e, k2, .inl ⟨et, kvs, k1, h4, RpL.mono g us h5⟩⟩
    · obtain ⟨k1, k2⟩ := g.keep a _ h3 h1
      exact ⟨a, e, k2, .inr ⟨et, kvs, k1, h4, RpL.mono g us h5⟩⟩
theorem RpL.mono {mg : Mg} {H H' : Hp} {U U' : Addr → Prop} {c c' : List Addr} (g : Gr H U c H' U' c') : ∀ (ds : List D) {vs : List V}, RpL mg H U c ds vs → RpL mg H' U' c' ds vs
  | [], vs, h => RpL.nil_iff.mpr (RpL.nil_iff.mp h)
  | d :: ds, vs, h => by
    obtain ⟨v, r, rfl, h1, t⟩ := RpL.cons_iff.mp h
    exact RpL.cons (Rp.mono g d h1) (RpL.mono g ds t)
end

/-! ### cells -/
/-- what stands at a cell's address -/
def CellOk (mg : Mg) (H : Hp) (U : Addr → Prop) (c : List Addr) (a : Addr) : D → Prop
  | .lst ds => ∃ vs, H a = some (.lst vs) ∧ RpL mg H U c ds vs
  | .dct t ks us => (t = false ∧ ∃ kvs : List (Key × V), H a = some (.dK kvs) ∧ ks = kvs.map (fun p => keyD p.1) ∧ RpL mg H U c us (kvs.map (·.2))) ∨
      (t = true ∧ ∃ kvs : List (List Key × V), H a = some (.dT kvs) ∧ ks = kvs.map (fun p => keyTD p.1) ∧ RpL mg H U c us (kvs.map (·.2)))
  | _ => False
structure CM (mg : Mg) (R : Addr → Prop) (H : Hp) (c : List Addr) (M : Cs) : Prop where
  len : c.length = M.length
  inj : ∀ (n m : Nat) (a : Addr), live M n → live M m → c[n]? = some a → c[m]? = some a → n = m
  nres : ∀ (n : Nat) (a : Addr), live M n → c[n]? = some a → ¬ R a
  there : ∀ a, R a → ∃ o, H a = some o ∧ ∀ vs, o ≠ .tup vs
  obj : ∀ (n : Nat) (d : D), M[n]? = some (some d) → ∃ a, c[n]? = some a ∧ CellOk mg H (Lv R c M) c a d
  fre : ∀ (n : Nat) (d : D), M[n]? = some (some d) → d.free 0 = true
theorem CellOk.at {mg : Mg} {H : Hp} {U : Addr → Prop} {c : List Addr} {a : Addr} {d : D} (h : CellOk mg H U c a d) : ∃ o, H a = some o := by
  cases d <;> simp only [CellOk] at h
  · obtain ⟨vs, e, _⟩ := h; exact ⟨_, e⟩
  · rcases h with ⟨_, kvs, e, _⟩ | ⟨_, kvs, e, _⟩ <;> exact ⟨_, e⟩
theorem CM.lv_at {mg : Mg} {R : Addr → Prop} {H : Hp} {c : List Addr} {M : Cs} (m : CM mg R H c M) {a : Addr} (h : Lv R c M a) : H a ≠ none := by
  rcases h with h | ⟨n, ⟨d, e⟩, hc⟩
  · obtain ⟨o, e, _⟩ := m.there a h
    rw [e]; simp
  · obtain ⟨b, e1, e2⟩ := m.obj n d e
    rw [hc] at e1; cases e1
    obtain ⟨o, e3⟩ := e2.at
    rw [e3]; simp
theorem CM.tup {mg : Mg} {R : Addr → Prop} {H : Hp} {c : List Addr} {M : Cs} (m : CM mg R H c M) {a : Addr} {vs : List V} (h : H a = some (.tup vs)) : ¬ Lv R c M a := fun q => by
  rcases q with q | ⟨n, ⟨d, e⟩, hc⟩
  · obtain ⟨o, e1, e2⟩ := m.there a q
    rw [h] at e1; cases e1
    exact e2 vs rfl
  · obtain ⟨b, e1, e2⟩ := m.obj n d e
    rw [hc] at e1; cases e1
    cases d <;> simp only [CellOk] at e2
    · obtain ⟨us, e3, _⟩ := e2; rw [h] at e3; cases e3
    · rcases e2 with ⟨_, kvs, e3, _⟩ | ⟨_, kvs, e3, _⟩ <;> (rw [h] at e3; cases e3)
theorem CM.fresh {mg : Mg} {R : Addr → Prop} {H : Hp} {c : List Addr} {M : Cs} (m : CM mg R H c M) {a : Addr} (h : H a = none) : ¬ Lv R c M a := fun q => m.lv_at q h
/-- a new object is laid -/
theorem Stp.new {mg : Mg} {R : Addr → Prop} {H : Hp} {c : List Addr} {M : Cs} {p : Addr} {o : HO} (m : CM mg R H c M) (h : H p = none) : Stp R H c M (upd H p o) c M :=
  ⟨fun a u e n => ⟨by rw [upd_ne (ne_of_none e h)]; exact e, n⟩, fun _ _ => rfl, fun a r => upd_ne (fun e => by
    obtain ⟨o, e1, _⟩ := m.there a r
    rw [e, h] at e1; cases e1)⟩
theorem CellOk.mono {mg : Mg} {H H' : Hp} {U U' : Addr → Prop} {c c' : List Addr} {a : Addr} (g : Gr H U c H' U' c') (e : H' a = H a) : ∀ {d : D}, CellOk mg H U c a d → CellOk mg H' U' c' a d
  | .lst ds, h => by
    simp only [CellOk] at h ⊢
    obtain ⟨vs, h1, h2⟩ := h
    exact ⟨vs, e.trans h1, h2.mono g⟩
  | .dct t ks us, h => by
    simp only [CellOk] at h ⊢
    rcases h with ⟨et, kvs, h3, h4, h5⟩ | ⟨et, kvs, h3, h4, h5⟩
    · exact .inl ⟨et, kvs, e.trans h3, h4, h5.mono g⟩
    · exact .inr ⟨et, kvs, e.trans h3, h4, h5.mono g⟩
  | .non, h => by simp [CellOk] at h
  | .bl _, h => by simp [CellOk] at h
  | .int _, h => by simp [CellOk] at h
  | .str _, h => by simp [CellOk] at h
  | .tup _, h => by simp [CellOk] at h
  | .cell _, h => by simp [CellOk] at h
  | .fn _, h => by simp [CellOk] at h
  | .exc _ _, h => by simp [CellOk] at h
  | .scr _, h => by simp [CellOk] at h
theorem CM.new {mg : Mg} {R : Addr → Prop} {H : Hp} {c : List Addr} {M : Cs} {p : Addr} {o : HO} (m : CM mg R H c M) (h : H p = none) : CM mg R (upd H p o) c M where
  len := m.len
  inj := m.inj
  nres := m.nres
  there := fun a r => by
    obtain ⟨o, e1, e2⟩ := m.there a r
    exact ⟨o, by rw [upd_ne (ne_of_none e1 h)]; exact e1, e2⟩
  obj := fun n d e => by
    obtain ⟨a, e1, e2⟩ := m.obj n d e
    obtain ⟨u, e3⟩ := e2.at
    exact ⟨a, e1, e2.mono (Stp.new m h).gr (upd_ne (ne_of_none e3 h))⟩
  fre := m.fre

/-- the slots -/
def RpS (mg : Mg) (H : Hp) (U : Addr → Prop) (c : List Addr) (σd : En) (σ : L2.St) : Prop := σd.length = σ.length ∧ ∀ (i : Nat) d, σd[i]? = some (some d) → ∃ v, σ[i]? = some (some v) ∧ Rp mg H U c d v
theorem RpS.mono {mg : Mg} {H H' : Hp} {U U' : Addr → Prop} {c c' : List Addr} (g : Gr H U c H' U' c') {σd : En} {σ : L2.St} (h : RpS mg H U c σd σ) : RpS mg H' U' c' σd σ :=
  ⟨h.1, fun i d e => let ⟨v, e1, e2⟩ := h.2 i d e; ⟨v, e1, e2.mono g⟩⟩
theorem RpS.set {mg : Mg} {H : Hp} {U : Addr → Prop} {c : List Addr} {σd : En} {σ : L2.St} (h : RpS mg H U c σd σ) (i : Nat) {d : D} {v : V} (r : Rp mg H U c d v) : RpS mg H U c (σd.set i (some d)) (σ.set i (some v)) := by
  refine ⟨by simp [h.1], fun j x e => ?_⟩
  by_cases hij : i = j
  · subst hij
    rw [List.getElem?_set] at e
    simp only [if_true] at e
    split at e
    · simp at e; subst e
      rename_i hlt
      have hlt' : i < σ.length := by rw [← h.1]; exact hlt
      exact ⟨v, by rw [List.getElem?_set]; simp [hlt'], r⟩
    · cases e
  · rw [List.getElem?_set_ne hij] at e
    rw [List.getElem?_set_ne hij]
    exact h.2 j x e
theorem wip_len (σ : En) : ∀ vs, (wip σ vs).length = σ.length
  | [] => rfl
  | v :: vs => by simp [wip, wip_len σ vs]
theorem RpS.wip {mg : Mg} {H : Hp} {U : Addr → Prop} {c : List Addr} {σd : En} {σ : L2.St} (h : RpS mg H U c σd σ) : ∀ vs : List Nat, RpS mg H U c (wip σd vs) (wipe σ vs)
  | [] => h
  | v :: vs => by
    have ih := RpS.wip h vs
    refine ⟨by simp [Mp.wip, wipe, ih.1], fun j x e => ?_⟩
    simp only [Mp.wip] at e
    simp only [wipe]
    by_cases hij : v = j
    · subst hij
      rw [List.getElem?_set] at e
      simp only [if_true] at e
      split at e <;> simp at e
    · rw [List.getElem?_set_ne hij] at e
      rw [List.getElem?_set_ne hij]
      exact ih.2 j x e

/-- an exception's datum: its class, what it keeps -/
def ExR (mg : Mg) (H : Hp) (U : Addr → Prop) (c : List Addr) (att : Str → Option Str) (cls : Value) (dd : Option Addr) : D → Prop
  | .exc x as => ∃ C, cls = .ref C ∧ mg.nm x = some (.ref C) ∧ (match att x, as with
    | some f, [d] => ∃ q v, dd = some q ∧ H q = some (.xd [(f, v)]) ∧ Rp mg H U c d v
    | none, [] => True
    | _, _ => False)
  | _ => False

/-! ### data as the library's -/
mutual
theorem Rp.dp {mg : Mg} {H : Hp} {U : Addr → Prop} {c : List Addr} {K : PySem.W.Frag} : ∀ (d : D) {v : V}, Rp mg H U c d v → d.py.canLay0 = true → Dp K H v d.py
  | .non, v, h, _ => by simp only [Rp] at h; subst h; exact .non
  | .bl _, v, h, _ => by simp only [Rp] at h; subst h; exact .bl _
  | .int _, v, h, _ => by simp only [Rp] at h; subst h; exact .int _
  | .str _, v, h, _ => by simp only [Rp] at h; subst h; exact .str _
  | .tup ds, v, h, k => by
    simp only [Rp] at h
    obtain ⟨a, vs, rfl, h1, h2, h3⟩ := h
    exact .tup (SqT.of h1) (RpL.dps ds h3 (by simpa [D.py, PyData.canLay0] using k))
  | .lst ds, v, h, k => by
    simp only [Rp] at h
    obtain ⟨a, vs, rfl, h1, h2, h3⟩ := h
    exact .lst (SqL.of h1) (RpL.dps ds h3 (by simpa [D.py, PyData.canLay0] using k))
  | .dct _ _ _, v, h, k => by simp [D.py, PyData.canLay0] at k
  | .cell _, v, h, k => by simp [D.py, PyData.canLay0] at k
  | .fn _, v, h, k => by simp [D.py, PyData.canLay0] at k
  | .exc _ _, v, h, k => by simp [D.py, PyData.canLay0] at k
  | .scr _, v, h, k => by simp [D.py, PyData.canLay0] at k
theorem RpL.dps {mg : Mg} {H : Hp} {U : Addr → Prop} {c : List Addr} {K : PySem.W.Frag} : ∀ (ds : List D) {vs : List V}, RpL mg H U c ds vs → PyData.canLayAll0 (pys ds) = true → DpAll K H vs (pys ds)
  | [], vs, h, _ => by rw [RpL.nil_iff.mp h]; exact .nil
  | d :: ds, vs, h, k => by
    obtain ⟨v, r, rfl, h1, t⟩ := RpL.cons_iff.mp h
    have k' : d.py.canLay0 = true ∧ PyData.canLayAll0 (pys ds) = true := by simpa [pys, PyData.canLayAll0] using k
    exact .cons (Rp.dp d h1 k'.1) (RpL.dps ds t k'.2)
end
theorem scr_sql {X : Cx} {H : Hp} {U : Addr → Prop} {c : List Addr} {ns : List Int} {v : V} (h : Rp X.Mg H U c (.scr ns) v) : ∃ p, v = .ref p ∧ SqL X.K H p (ns.map .int) := by
  simp only [Rp] at h
  obtain ⟨p, e, h⟩ := h
  exact ⟨p, e, h.elim (fun z => .inl z.1) sqL_of⟩
end Mp

/-! The operations by values. -/
namespace Mp
open PySem PySem.Spec PyProof.Rows L2

/-- v is read as d (a cell's contents, or d itself) -/
def Rr (mg : Mg) (H : Hp) (U : Addr → Prop) (c : List Addr) : D → V → Prop
  | .lst ds, v => ∃ a vs, v = .ref a ∧ H a = some (.lst vs) ∧ RpL mg H U c ds vs
  | .dct t ks us, v => ∃ a, v = .ref a ∧ (
      (t = false ∧ ∃ kvs : List (Key × V), H a = some (.dK kvs) ∧ ks = kvs.map (fun p => keyD p.1) ∧ RpL mg H U c us (kvs.map (·.2))) ∨
      (t = true ∧ ∃ kvs : List (List Key × V), H a = some (.dT kvs) ∧ ks = kvs.map (fun p => keyTD p.1) ∧ RpL mg H U c us (kvs.map (·.2))))
  | d, v => Rp mg H U c d v
def RrL (mg : Mg) (H : Hp) (U : Addr → Prop) (c : List Addr) : List D → List V → Prop
  | [], vs => vs = []
  | d :: ds, vs => ∃ v r, vs = v :: r ∧ Rr mg H U c d v ∧ RrL mg H U c ds r
theorem Rp.rr {mg : Mg} {H : Hp} {U : Addr → Prop} {c : List Addr} : ∀ {d : D} {v : V}, Rp mg H U c d v → Rr mg H U c d v
  | .lst ds, v, h => by
    simp only [Rp] at h
    obtain ⟨a, vs, e, h1, _, h3⟩ := h
    exact ⟨a, vs, e, h1, h3⟩
  | .dct t ks us, v, h => by
    simp only [Rp] at h
    obtain ⟨a, e, _, h3⟩ := h
    exact ⟨a, e, h3⟩
  | .non, v, h => h
  | .bl _, v, h => h
  | .int _, v, h => h
  | .str _, v, h => h
  | .tup _, v, h => h
  | .cell _, v, h => h
  | .fn _, v, h => h
  | .exc _ _, v, h => h
  | .scr _, v, h => h
section
variable {mg : Mg} {H : Hp} {U : Addr → Prop} {c : List Addr} {v : V}
theorem rr_int {i : Int} : Rr mg H U c (.int i) v ↔ v = .int i := by simp [Rr, Rp]
theorem rr_bl {i : Bool} : Rr mg H U c (.bl i) v ↔ v = .bl i := by simp [Rr, Rp]
theorem rr_str {i : Str} : Rr mg H U c (.str i) v ↔ v = .str i := by simp [Rr, Rp]
theorem rr_non : Rr mg H U c .non v ↔ v = .non := by simp [Rr, Rp]
theorem rr_tup {ds : List D} : Rr mg H U c (.tup ds) v ↔ ∃ a vs, v = .ref a ∧ H a = some (.tup vs) ∧ ¬ U a ∧ RpL mg H U c ds vs := by simp [Rr, Rp]
theorem rr_lst {ds : List D} : Rr mg H U c (.lst ds) v ↔ ∃ a vs, v = .ref a ∧ H a = some (.lst vs) ∧ RpL mg H U c ds vs := Iff.rfl
end
theorem rd_ok {mg : Mg} {R : Addr → Prop} {H : Hp} {c : List Addr} {M : Cs} (m : CM mg R H c M) {d x : D} {v : V} (h : Rp mg H (Lv R c M) c x v) (e : rd M x = some d) : Rr mg H (Lv R c M) c d v := by
  cases x with
  | cell n =>
    simp only [Rp] at h
    obtain ⟨a, rfl, hc⟩ := h
    simp only [rd] at e
    split at e
    · rename_i u he
      simp at e; subst e
      obtain ⟨b, e1, e2⟩ := m.obj n _ he
      rw [hc] at e1; cases e1
      cases u <;> simp only [CellOk] at e2
      · obtain ⟨vs, e3, e4⟩ := e2
        exact ⟨a, vs, rfl, e3, e4⟩
      · exact ⟨a, rfl, e2⟩
    · cases e
  | _ => simp only [rd, Option.some.injEq] at e; subst e; exact h.rr
theorem rds_ok {mg : Mg} {R : Addr → Prop} {H : Hp} {c : List Addr} {M : Cs} (m : CM mg R H c M) : ∀ {xs ds : List D} {vs : List V}, RpL mg H (Lv R c M) c xs vs → rds M xs = some ds → RrL mg H (Lv R c M) c ds vs
  | [], ds, vs, h, e => by
    simp only [rds, Option.some.injEq] at e; subst e
    exact RpL.nil_iff.mp h
  | x :: xs, ds, vs, h, e => by
    obtain ⟨v, r, rfl, h1, t⟩ := RpL.cons_iff.mp h
    simp only [rds] at e
    split at e
    · rename_i a b e1 e2
      simp at e; subst e
      exact ⟨v, r, rfl, rd_ok m h1 e1, rds_ok m t e2⟩
    · cases e
theorem scr_rr {X : Cx} {H : Hp} {U : Addr → Prop} {c : List Addr} {ns : List Int} {v : V} (h : Rr X.Mg H U c (.scr ns) v) : ∃ p, v = .ref p ∧ SqL X.K H p (ns.map .int) := scr_sql (U := U) (c := c) h
theorem Rr.dp {mg : Mg} {H : Hp} {U : Addr → Prop} {c : List Addr} {K : PySem.W.Frag} : ∀ {d : D} {v : V}, Rr mg H U c d v → d.py.canLay0 = true → Dp K H v d.py
  | .lst ds, v, h, k => by
    obtain ⟨a, vs, rfl, h1, h3⟩ := h
    exact .lst (SqL.of h1) (RpL.dps ds h3 (by simpa [D.py, PyData.canLay0] using k))
  | .dct _ _ _, v, h, k => by simp [D.py, PyData.canLay0] at k
  | .non, v, h, k => Rp.dp (mg := mg) (U := U) (c := c) _ h k
  | .bl _, v, h, k => Rp.dp (mg := mg) (U := U) (c := c) _ h k
  | .int _, v, h, k => Rp.dp (mg := mg) (U := U) (c := c) _ h k
  | .str _, v, h, k => Rp.dp (mg := mg) (U := U) (c := c) _ h k
  | .tup _, v, h, k => Rp.dp (mg := mg) (U := U) (c := c) _ h k
  | .cell _, v, h, k => Rp.dp (mg := mg) (U := U) (c := c) _ h k
  | .fn _, v, h, k => Rp.dp (mg := mg) (U := U) (c := c) _ h k
  | .exc _ _, v, h, k => Rp.dp (mg := mg) (U := U) (c := c) _ h k
  | .scr _, v, h, k => Rp.dp (mg := mg) (U := U) (c := c) _ h k
theorem pys_eq : ∀ xs : List D, pys xs = xs.map D.py
  | [] => rfl
  | x :: xs => by simp [pys, pys_eq xs]
theorem sh_lay {d : D} (h : sh d = true) : d.py.canLay0 = true := SeqAt.canLay_of_shaped h
theorem sh_depth {d : D} (h : sh d = true) : d.py.depth ≤ 64 := SeqAt.depth_of_shaped h

/-! ### what comes behind an operation -/
def Aft (mg : Mg) (R : Addr → Prop) (H : Hp) (c : List Addr) (M M' : Cs) (H' : Hp) (c' : List Addr) : Prop := Stp R H c M H' c' M' ∧ CM mg R H' c' M'
/-- the result d is what follows, in H or with a new object -/
def Out (mg : Mg) (R : Addr → Prop) (c : List Addr) (M : Cs) (d : D) (H : Hp) (Q : VK) : Prop := ∀ w H', Aft mg R H c M M H' c → Rp mg H' (Lv R c M) c d w → Q w H'
section
variable {mg : Mg} {R : Addr → Prop} {H : Hp} {c : List Addr} {M : Cs} {Q : VK}
theorem Out.same {d : D} {v : V} (m : CM mg R H c M) (h : Out mg R c M d H Q) (r : Rp mg H (Lv R c M) c d v) : Q v H := h v H ⟨Stp.refl _ _ _ _, m⟩ r
theorem Out.int {i : Int} (m : CM mg R H c M) (h : Out mg R c M (.int i) H Q) : Q (.int i) H := h.same m (by simp [Rp])
theorem Out.bl {b : Bool} (m : CM mg R H c M) (h : Out mg R c M (.bl b) H Q) : Q (.bl b) H := h.same m (by simp [Rp])
theorem Out.str {x : Str} (m : CM mg R H c M) (h : Out mg R c M (.str x) H Q) : Q (.str x) H := h.same m (by simp [Rp])
theorem Out.non (m : CM mg R H c M) (h : Out mg R c M .non H Q) : Q .non H := h.same m (by simp [Rp])
theorem Out.tup {ds : List D} {vs : List V} (m : CM mg R H c M) (h : Out mg R c M (.tup ds) H Q) (r : RpL mg H (Lv R c M) c ds vs) {p : Addr} (hp : H p = none) : Q (.ref p) (upd H p (.tup vs)) :=
  h _ _ ⟨Stp.new m hp, m.new hp⟩ (by simp only [Rp]; exact ⟨p, vs, rfl, upd_same, m.fresh hp, r.mono (Stp.new m hp).gr⟩)
theorem Out.lst {ds : List D} {vs : List V} (m : CM mg R H c M) (h : Out mg R c M (.lst ds) H Q) (r : RpL mg H (Lv R c M) c ds vs) {p : Addr} (hp : H p = none) : Q (.ref p) (upd H p (.lst vs)) :=
  h _ _ ⟨Stp.new m hp, m.new hp⟩ (by simp only [Rp]; exact ⟨p, vs, rfl, upd_same, m.fresh hp, r.mono (Stp.new m hp).gr⟩)
end

/-- an operation of two places, by what g tells -/
def rO2 (mg : Mg) (g : D → D → Option D) : R2 := fun v u H Q => ∃ R c M x y d, CM mg R H c M ∧ Rr mg H (Lv R c M) c x v ∧ Rr mg H (Lv R c M) c y u ∧ g x y = some d ∧ Out mg R c M d H Q

section
variable {X : Cx}
theorem tuple_mulOne (l : Addr) (items : Array Value) (n : Nat) (dd : Option Addr) (sl : Array (Option Value)) (u : Tok) (c0 : (decide ((1 : Int) < -(2 ^ 63)) || decide ((1 : Int) ≥ 2 ^ 63)) = false) (c1 : (items.isEmpty || (1 : Int) == 1) = true) :
    Meets (Builtin.«tuple.__mul__» ⟨[.ref l, .int 1 u], []⟩) (fun _ R s => s.heap.get? l = some { cls := .type "tuple", dict := dd, data := .seq items n, slots := sl } ∧ R (.ok (.ret (Value.ref l))) s) :=
  .of_wp fun prog w A R s h => by
    obtain ⟨hp, g, d, tk, os⟩ := s
    obtain ⟨hl, h⟩ := h
    have f1 := AutoSeq1.idx_int
    wp_walk using wpAny_loadPart' hl
    repeat (first
      | (refine wpAny_ite_false (decide_eq_false (by rw [c0]; exact Bool.false_ne_true)) ?_; wp_walk using wpAny_loadPart' hl)
      | (refine wpAny_ite_true (decide_eq_true c1) ?_; wp_walk using wpAny_loadPart' hl)
      | (refine wpAny_ite_true (decide_eq_true (by decide)) ?_; wp_walk using wpAny_loadPart' hl))
    exact ⟨_, rfl, h⟩
theorem op_repT1 : OpR X (binaryOp .Mult) (fun x y H Q => ∃ l xs, x = .ref l ∧ y = .int 1 ∧ SqT X.K H l xs ∧ Q (.ref l) H) := by
  intro pins s σ H x y v u Q I rx ry h
  obtain ⟨l, xs, rfl, rfl, hT, q⟩ := h
  cases rx
  obtain ⟨t, rfl⟩ := ry
  obtain ⟨its, r, ⟨⟨cls, dd, data, sl⟩, ho, hc, n, hd⟩, hs⟩ := I.tuple hT
  simp only at hc hd
  subst hc hd
  refine wpAny_binaryOp_repeat_ref (T := "tuple") (U := "int") (by decide) ⟨_, ho, rfl⟩ (fun s' => typeIs_int s' 1 t) noFill_tuple_mul F.fills_int_mul F.slot_int_rmul repeat_tuple F.slot_int_index.lookup
    (call_meets F.slot_int_rmul (typeIs_int s 1 t) F.entry_int_rmul (F.args_int_rmul_2 _ _) (int_rmul_tuple 1 t l its.toArray n dd sl)
      ⟨ho, rfl, ⟨_, ho, rfl⟩, call_meets F.slot_tuple_mul ⟨_, ho, rfl⟩ F.entry_tuple_mul (F.args_tuple_mul_2 _ _) (tuple_mulOne l its.toArray n dd sl t (by decide) (by simp)) ⟨ho, ?_⟩⟩)
  exact ⟨.ref l, H, I, rfl, q⟩

theorem op2_bin (o : Operator) : OpR X (binaryOp o) (rO2 X.Mg (binD o)) := by
  intro pins s σ H x y v u Q I rx ry h
  obtain ⟨R, c, M, a, b, d, m, ha, hb, e, q⟩ := h
  unfold binD at e
  split at e
  · simp at e; subst e
    exact op_add pins s σ H x y v u Q I rx ry ⟨_, _, rr_int.mp ha, rr_int.mp hb, q.int m⟩
  · simp at e; subst e
    exact op_sub pins s σ H x y v u Q I rx ry ⟨_, _, rr_int.mp ha, rr_int.mp hb, q.int m⟩
  · split at e
    · rename_i k
      simp at e; subst e
      refine op_mul pins s σ H x y v u Q I rx ry ⟨_, _, rr_int.mp ha, rr_int.mp hb, ?_, q.int m⟩
      simp only [Bool.or_eq_true, Bool.and_eq_true, decide_eq_true_eq] at k
      unfold big at k
      unfold CMul
      rcases k with k | k
      · exact .inl ⟨by omega, by omega⟩
      · exact .inr ⟨by omega, by omega⟩
    · cases e
  · split at e
    · rename_i k
      simp at e; subst e
      simp only [Bool.and_eq_true, decide_eq_true_eq] at k
      exact op_fdiv pins s σ H x y v u Q I rx ry ⟨_, _, rr_int.mp ha, rr_int.mp hb, ⟨k.1, k.2⟩, q.int m⟩
    · cases e
  · split at e
    · rename_i k
      simp at e; subst e
      exact op_mod pins s σ H x y v u Q I rx ry ⟨_, _, rr_int.mp ha, rr_int.mp hb, k, q.int m⟩
    · cases e
  · split at e
    · rename_i k
      simp at e; subst e
      simp only [Bool.and_eq_true, decide_eq_true_eq] at k
      exact op_pow pins s σ H x y v u Q I rx ry ⟨_, _, rr_int.mp ha, rr_int.mp hb, ⟨k.1.1, k.1.2, by have := k.2; omega⟩, q.int m⟩
    · cases e
  · split at e
    · rename_i k
      simp at e; subst e
      obtain ⟨p1, vs, rfl, h1, r1⟩ := ha
      obtain ⟨p2, us, rfl, h2, r2⟩ := hb
      exact op_cat pins s σ H _ _ v u Q I rx ry ⟨p1, p2, vs, us, rfl, rfl, h1, h2, by rw [r1.len, r2.len]; exact k, fun p hp => q.lst m (r1.app r2) hp⟩
    · cases e
  · split at e
    · rename_i k
      simp at e; subst e
      have ha' := ha
      have hb' := hb
      obtain ⟨p1, vs, rfl, h1, n1, r1⟩ := rr_tup.mp ha
      obtain ⟨p2, us, rfl, h2, n2, r2⟩ := rr_tup.mp hb
      rename_i xs ys
      refine op_catA pins s σ H _ _ v u Q I rx ry ⟨p1, p2, vs, us, rfl, rfl, SqT.of h1, SqT.of h2, by rw [r1.len, r2.len]; exact k, fun z => ?_, fun _ z => ?_, fun _ _ p hp => q.tup m (r1.app r2) hp⟩
      · subst z
        have e1 : xs = [] := List.eq_nil_of_length_eq_zero r1.len.symm
        subst e1
        exact q.same m (by simpa [Rr] using hb')
      · subst z
        have e1 : ys = [] := List.eq_nil_of_length_eq_zero r2.len.symm
        subst e1
        exact q.same m (by simpa [Rr] using ha')
    · cases e
  · split at e
    · rename_i k
      simp at e; subst e
      exact op_add_str pins s σ H x y v u Q I rx ry ⟨_, _, rr_str.mp ha, rr_str.mp hb, k, q.str m⟩
    · cases e
  · split at e
    · rename_i k
      simp at e; subst e
      simp only [Bool.and_eq_true, decide_eq_true_eq, Bool.not_eq_true'] at k
      have hx' := ha
      obtain ⟨p1, vs, rfl, h1, n1, r1⟩ := rr_tup.mp ha
      obtain rfl := rr_int.mp hb
      rename_i xs j
      by_cases hj : j = 1
      · subst hj
        refine op_repT1 pins s σ H _ _ v u Q I rx ry ⟨p1, vs, rfl, rfl, SqT.of h1, q.same m ?_⟩
        have : (List.replicate (Int.toNat 1) xs).flatten = xs := by simp
        rw [this]
        exact hx'
      · refine op_repT pins s σ H _ _ v u Q I rx ry ⟨p1, j, vs, rfl, rfl, SqT.of h1, fun z => ?_, by omega, by omega, by rw [r1.len]; omega, fun p hp => q.tup m (r1.rep _) hp⟩
        subst z
        have e1 : xs = [] := List.eq_nil_of_length_eq_zero r1.len.symm
        rw [e1] at k
        simp at k
    · cases e
  · split at e
    · rename_i k
      simp at e; subst e
      simp only [Bool.and_eq_true, decide_eq_true_eq] at k
      obtain ⟨p1, vs, rfl, h1, r1⟩ := ha
      exact op_rep pins s σ H _ y v u Q I rx ry ⟨p1, _, vs, rfl, rr_int.mp hb, h1, k.1.1, k.1.2, by rw [r1.len]; exact k.2, fun p hp => q.lst m (r1.rep _) hp⟩
    · cases e
  · cases e
end

/-! ### keys -/
theorem keyD_inj : ∀ {a b : Key}, keyD a = keyD b → a = b
  | .inl a, .inl b, h => by simp [keyD] at h; rw [h]
  | .inr a, .inr b, h => by simp [keyD] at h; rw [h]
  | .inl a, .inr b, h => by simp [keyD] at h
  | .inr a, .inl b, h => by simp [keyD] at h
theorem map_inj {α β : Type} {f : α → β} (hf : ∀ {a b}, f a = f b → a = b) : ∀ {a b : List α}, a.map f = b.map f → a = b
  | [], [], _ => rfl
  | [], _ :: _, h => by simp at h
  | _ :: _, [], h => by simp at h
  | x :: xs, y :: ys, h => by
    simp at h
    rw [hf h.1, map_inj hf h.2]
theorem keyTD_inj {a b : List Key} (h : keyTD a = keyTD b) : a = b := by
  simp only [keyTD, D.tup.injEq] at h
  exact map_inj keyD_inj h
theorem isKeyK_ok : ∀ {d : D}, isKeyK d = true → ∃ k : Key, d = keyD k
  | .int i, _ => ⟨.inl i, rfl⟩
  | .str x, _ => ⟨.inr x, rfl⟩
  | .non, h => by simp [isKeyK] at h
  | .bl _, h => by simp [isKeyK] at h
  | .tup _, h => by simp [isKeyK] at h
  | .lst _, h => by simp [isKeyK] at h
  | .dct _ _ _, h => by simp [isKeyK] at h
  | .cell _, h => by simp [isKeyK] at h
  | .fn _, h => by simp [isKeyK] at h
  | .exc _ _, h => by simp [isKeyK] at h
  | .scr _, h => by simp [isKeyK] at h
theorem isKeyKs_ok : ∀ {ds : List D}, ds.all isKeyK = true → ∃ k : List Key, ds = k.map keyD
  | [], _ => ⟨[], rfl⟩
  | d :: ds, h => by
    simp only [List.all_cons, Bool.and_eq_true] at h
    obtain ⟨k, rfl⟩ := isKeyK_ok h.1
    obtain ⟨ks, rfl⟩ := isKeyKs_ok h.2
    exact ⟨k :: ks, rfl⟩
theorem isKeyT_ok {d : D} (h : isKeyT d = true) : ∃ k : List Key, d = keyTD k := by
  cases d <;> simp only [isKeyT] at h <;> try (cases h)
  obtain ⟨k, rfl⟩ := isKeyKs_ok h
  exact ⟨k, rfl⟩
section
variable {mg : Mg} {H : Hp} {U : Addr → Prop} {c : List Addr}
theorem Rp.key : ∀ {k : Key} {v : V}, Rp mg H U c (keyD k) v → v = kV k
  | .inl i, v, h => by simpa [keyD, Rp, kV] using h
  | .inr i, v, h => by simpa [keyD, Rp, kV] using h
theorem RpL.keys : ∀ {k : List Key} {vs : List V}, RpL mg H U c (k.map keyD) vs → vs = k.map kV
  | [], vs, h => RpL.nil_iff.mp h
  | x :: k, vs, h => by
    obtain ⟨v, r, rfl, h1, t⟩ := RpL.cons_iff.mp h
    rw [h1.key, RpL.keys t]; rfl
theorem Rp.keyT {k : List Key} {v : V} (h : Rp mg H U c (keyTD k) v) : ∃ a, v = .ref a ∧ H a = some (.tup (k.map kV)) := by
  simp only [keyTD, Rp] at h
  obtain ⟨a, vs, e, h1, _, h3⟩ := h
  exact ⟨a, e, by rw [← h3.keys]; exact h1⟩
theorem look_ok {κ : Type} [DecidableEq κ] {f : κ → D} (hf : ∀ {a b}, f a = f b → a = b) (k : κ) : ∀ {kvs : List (κ × V)} {us : List D}, RpL mg H U c us (kvs.map (·.2)) →
    (lookD (f k) (kvs.map fun p => f p.1) us = none ∧ valV kvs k = none) ∨ ∃ d v, lookD (f k) (kvs.map fun p => f p.1) us = some d ∧ valV kvs k = some v ∧ Rp mg H U c d v
  | [], us, h => by
    cases us with
    | nil => exact .inl ⟨rfl, rfl⟩
    | cons d ds => obtain ⟨v, r, e, _⟩ := RpL.cons_iff.mp h; cases e
  | p :: kvs, us, h => by
    cases us with
    | nil => have := h.len; simp at this
    | cons d ds =>
      obtain ⟨v, r, e, h1, t⟩ := RpL.cons_iff.mp h
      simp only [List.map_cons, List.cons.injEq] at e
      obtain ⟨rfl, rfl⟩ := e
      by_cases hk : p.1 = k
      · right
        refine ⟨d, p.2, ?_, valV_pos hk, h1⟩
        simp [lookD, hk]
      · have hk' : ¬ f p.1 = f k := fun q => hk (hf q)
        rcases look_ok hf k t with ⟨e1, e2⟩ | ⟨x, y, e1, e2, e3⟩
        · left
          exact ⟨by simp [lookD, hk', e1], (valV_neg hk).trans e2⟩
        · right
          exact ⟨x, y, by simp [lookD, hk', e1], (valV_neg hk).trans e2, e3⟩
/-- a look-up of a dict that is read -/
theorem dget_ok {t : Bool} {ks us : List D} {x : V} {k : D} {y : V} (h : Rr mg H U c (.dct t ks us) x) (hk : isKey t k = true) (ry : Rp mg H U c k y) :
    ∃ a o, x = .ref a ∧ DGet H a y o ∧ (match lookD k ks us with
      | none => o = none
      | some d => ∃ v, o = some v ∧ Rp mg H U c d v) := by
  obtain ⟨a, rfl, h2⟩ := h
  rcases h2 with ⟨rfl, kvs, e, rfl, r⟩ | ⟨rfl, kvs, e, rfl, r⟩
  · obtain ⟨q, rfl⟩ := isKeyK_ok (show isKeyK k = true from hk)
    obtain rfl := ry.key
    refine ⟨a, valV kvs q, rfl, DGet.k e, ?_⟩
    rcases look_ok keyD_inj q r with ⟨e1, e2⟩ | ⟨d, v, e1, e2, e3⟩
    · rw [e1]; exact e2
    · rw [e1]; exact ⟨v, e2, e3⟩
  · obtain ⟨q, rfl⟩ := isKeyT_ok (show isKeyT k = true from hk)
    obtain ⟨b, rfl, eb⟩ := ry.keyT
    refine ⟨a, valV kvs q, rfl, DGet.t e eb, ?_⟩
    rcases look_ok keyTD_inj q r with ⟨e1, e2⟩ | ⟨d, v, e1, e2, e3⟩
    · rw [e1]; exact e2
    · rw [e1]; exact ⟨v, e2, e3⟩
end

/-! ### comparisons -/
section
variable {X : Cx}
theorem rr_key {mg : Mg} {H : Hp} {U : Addr → Prop} {c : List Addr} {t : Bool} {d : D} {v : V} (h : Rr mg H U c d v) (k : isKey t d = true) : Rp mg H U c d v := by
  cases d with
  | lst ds => cases t <;> simp [isKey, isKeyK, isKeyT] at k
  | dct _ _ _ => cases t <;> simp [isKey, isKeyK, isKeyT] at k
  | _ => exact h
theorem memD_ok (x : D) : ∀ xs : List D, ((pys xs).any fun y => PyData.eqv y x.py) = memD x xs
  | [] => rfl
  | y :: ys => by simp only [pys, List.any_cons, memD, memD_ok x ys, eqD]
theorem nonD_ok {mg : Mg} {H : Hp} {U : Addr → Prop} {c : List Addr} {a : D} {x : V} (ha : Rr mg H U c a x) : isNonD a = decide (x = .non) := by
  cases a with
  | non => obtain rfl := rr_non.mp ha; rfl
  | bl _ => obtain rfl := rr_bl.mp ha; rfl
  | int _ => obtain rfl := rr_int.mp ha; rfl
  | str _ => obtain rfl := rr_str.mp ha; rfl
  | tup _ => obtain ⟨p, vs, rfl, _⟩ := rr_tup.mp ha; rfl
  | lst _ => obtain ⟨p, vs, rfl, _⟩ := ha; rfl
  | dct _ _ _ => obtain ⟨p, rfl, _⟩ := ha; rfl
  | cell _ => simp only [Rr, Rp] at ha; obtain ⟨p, rfl, _⟩ := ha; rfl
  | fn _ => simp only [Rr, Rp] at ha; obtain ⟨p, rfl, _⟩ := ha; rfl
  | exc _ _ => simp only [Rr, Rp] at ha
  | scr _ => simp only [Rr, Rp] at ha; obtain ⟨p, rfl, _⟩ := ha; rfl
theorem empT_some {a b : D} {k : Bool} (h : empT a b = some k) : ∃ xs, a = .tup xs ∧ b = .tup [] ∧ k = xs.isEmpty := by
  unfold empT at h
  split at h
  · exact ⟨_, rfl, rfl, (Option.some.inj h).symm⟩
  · cases h
theorem op_eqE (hu : X.A.units + 64 < cLine) : OpR X (compareOp .Eq) (fun x y H Q => ∃ a b xs, x = .ref a ∧ y = .ref b ∧ SqT X.K H a xs ∧ SqT X.K H b [] ∧ Q (.bl xs.isEmpty) H) := by
  intro pins s σ H x y v u Q I rx ry h
  obtain ⟨a, b, xs, rfl, rfl, hx, hy, q⟩ := h
  cases rx
  cases ry
  obtain ⟨its, r, ht, hz⟩ := I.tuple hx
  obtain ⟨its2, r2, ht2, hz2⟩ := I.tuple hy
  cases r2
  refine PySem.SeqAt.eq_tupleAt (e := fun _ => true) ht ht2 (by omega) (fun j h1 h2 => absurd h2 (by simp)) ⟨.bl xs.isEmpty, H, I, ?_, q⟩
  have hl := r.length
  cases xs <;> cases its <;> simp at hl ⊢ <;> rfl
theorem op2_cmp (hu : X.A.units + 70 < cLine) (o : CmpOp) : OpR X (compareOp o) (rO2 X.Mg (fun x y => (cmpD o x y).map .bl)) := by
  intro pins s σ H x y v u Q I rx ry h
  obtain ⟨R, c, M, a, b, d, m, ha, hb, e, q⟩ := h
  replace e := Option.map_eq_some_iff.mp (show (cmpD o a b).map D.bl = some d from e)
  obtain ⟨k, e, rfl⟩ := e
  unfold cmpD at e
  have reads : ∀ {d : D} {z : V} {w : Value}, Rr X.Mg H (Lv R c M) c d z → RelV z w → d.py.canLay0 = true → ∃ as, Reads s.heap w d.py as := fun h1 h2 h3 => Dp.reads I _ _ _ (h1.dp h3) h2
  split at e
  · split at e
    · rename_i k
      simp only [Bool.and_eq_true] at k
      simp only [Option.some.injEq] at e; subst e
      exact op_eqD (by omega) pins s σ H x y v u Q I rx ry ⟨_, _, ha.dp (sh_lay k.1), hb.dp (sh_lay k.2), k.1, k.2, q.bl m⟩
    · obtain ⟨xs, rfl, rfl, rfl⟩ := empT_some e
      obtain ⟨p, vs, rfl, h1, _, r1⟩ := rr_tup.mp ha
      obtain ⟨p2, vs2, rfl, h2, _, r2⟩ := rr_tup.mp hb
      rw [RpL.nil_iff] at r2
      subst r2
      have hl := r1.len
      have he : xs.isEmpty = vs.isEmpty := by cases xs <;> cases vs <;> simp at hl ⊢
      rw [he] at q
      exact op_eqE (by omega) pins s σ H _ _ v u Q I rx ry ⟨p, p2, vs, rfl, rfl, SqT.of h1, SqT.of h2, q.bl m⟩
  · split at e
    · rename_i k
      simp only [Bool.and_eq_true] at k
      simp only [Option.some.injEq] at e; subst e
      exact op_neD (by omega) pins s σ H x y v u Q I rx ry ⟨_, _, ha.dp (sh_lay k.1), hb.dp (sh_lay k.2), k.1, k.2, q.bl m⟩
    · cases e
  · simp only [Option.some.injEq] at e; subst e
    exact op_lt pins s σ H x y v u Q I rx ry ⟨_, _, rr_int.mp ha, rr_int.mp hb, q.bl m⟩
  · simp only [Option.some.injEq] at e; subst e
    exact op_le pins s σ H x y v u Q I rx ry ⟨_, _, rr_int.mp ha, rr_int.mp hb, q.bl m⟩
  · simp only [Option.some.injEq] at e; subst e
    exact op_gt pins s σ H x y v u Q I rx ry ⟨_, _, rr_int.mp ha, rr_int.mp hb, q.bl m⟩
  · simp only [Option.some.injEq] at e; subst e
    exact op_ge pins s σ H x y v u Q I rx ry ⟨_, _, rr_int.mp ha, rr_int.mp hb, q.bl m⟩
  · split at e
    · rename_i k
      simp only [Bool.and_eq_true] at k
      simp only [Option.some.injEq] at e; subst e
      obtain ⟨as, r1⟩ := reads ha rx (sh_lay k.1.1)
      obtain ⟨bs, r2⟩ := reads hb ry (sh_lay k.1.2)
      exact PySem.W.lt_data r1 r2 k.2 (fun z => by simp [D.py] at z) (by have := sh_depth k.1.1; omega) ⟨.bl _, H, I, rfl, q.bl m⟩
    · cases e
  · simp only [Option.some.injEq] at e; subst e
    obtain rfl := rr_non.mp hb
    refine op_isN pins s σ H x _ v u Q I rx ry ⟨rfl, ?_⟩
    rw [← nonD_ok ha]
    exact q.bl m
  · simp only [Option.some.injEq] at e; subst e
    obtain rfl := rr_non.mp hb
    refine op_notN pins s σ H x _ v u Q I rx ry ⟨rfl, ?_⟩
    rw [← nonD_ok ha]
    exact q.bl m
  · simp only [Option.some.injEq] at e; subst e
    exact op_isBl pins s σ H x y v u Q I rx ry ⟨_, _, rr_bl.mp ha, rr_bl.mp hb, by rw [← Bool.beq_eq_decide_eq]; exact q.bl m⟩
  · simp only [Option.some.injEq] at e; subst e
    exact op_notBl pins s σ H x y v u Q I rx ry ⟨_, _, rr_bl.mp ha, rr_bl.mp hb, by rw [← Bool.beq_eq_decide_eq]; exact q.bl m⟩
  · split at e
    · rename_i k
      simp only [Bool.and_eq_true] at k
      simp only [Option.some.injEq] at e; subst e
      obtain ⟨as, r1⟩ := reads ha rx (sh_lay k.1)
      obtain ⟨bs, r2⟩ := reads hb ry (sh_lay k.2)
      exact SeqAt.in_tuple_reads r2 r1 (sh_lay k.2) (sh_lay k.1) (by have := sh_depth k.1; omega) ⟨.bl _, H, I, rfl, by rw [memD_ok]; exact q.bl m⟩
    · cases e
  · split at e
    · rename_i k
      simp only [Bool.and_eq_true] at k
      simp only [Option.some.injEq] at e; subst e
      obtain ⟨as, r1⟩ := reads ha rx (sh_lay k.1)
      obtain ⟨bs, r2⟩ := reads hb ry (sh_lay k.2)
      exact SeqAt.in_list_reads r2 r1 (sh_lay k.2) (sh_lay k.1) (by have := sh_depth k.1; omega) ⟨.bl _, H, I, rfl, by rw [memD_ok]; exact q.bl m⟩
    · cases e
  · split at e
    · rename_i k
      simp only [Bool.and_eq_true] at k
      simp only [Option.some.injEq] at e; subst e
      obtain ⟨as, r1⟩ := reads ha rx (sh_lay k.1)
      obtain ⟨bs, r2⟩ := reads hb ry (sh_lay k.2)
      exact SeqAt.notIn_tuple_reads r2 r1 (sh_lay k.2) (sh_lay k.1) (by have := sh_depth k.1; omega) ⟨.bl _, H, I, rfl, by rw [memD_ok]; exact q.bl m⟩
    · cases e
  · split at e
    · rename_i k
      simp only [Bool.and_eq_true] at k
      simp only [Option.some.injEq] at e; subst e
      obtain ⟨as, r1⟩ := reads ha rx (sh_lay k.1)
      obtain ⟨bs, r2⟩ := reads hb ry (sh_lay k.2)
      exact SeqAt.notIn_list_reads r2 r1 (sh_lay k.2) (sh_lay k.1) (by have := sh_depth k.1; omega) ⟨.bl _, H, I, rfl, by rw [memD_ok]; exact q.bl m⟩
    · cases e
  · split at e
    · rename_i k
      simp only [Option.some.injEq] at e; subst e
      obtain ⟨p, o, rfl, g, r⟩ := dget_ok hb k (rr_key ha k)
      obtain rfl : u = Value.ref p := ry
      have q' := q.bl m
      refine d_in (by omega) I g rx fun s3 I3 => ⟨.bl o.isSome, H, I3, rfl, ?_⟩
      split at r
      · rename_i e1; subst r; rw [e1] at q'; exact q'
      · rename_i d e1; obtain ⟨w, rfl, _⟩ := r; rw [e1] at q'; exact q'
    · cases e
  · split at e
    · rename_i k
      simp only [Option.some.injEq] at e; subst e
      obtain ⟨p, o, rfl, g, r⟩ := dget_ok hb k (rr_key ha k)
      obtain rfl : u = Value.ref p := ry
      have q' := q.bl m
      refine d_notIn (by omega) I g rx fun s3 I3 => ⟨.bl (!o.isSome), H, I3, rfl, ?_⟩
      split at r
      · rename_i e1; subst r; rw [e1] at q'; exact q'
      · rename_i d e1; obtain ⟨w, rfl, _⟩ := r; rw [e1] at q'; exact q'
    · cases e
  · cases e
end
end Mp

/-! Sorting rows of which some may be empty; built-in functions by values. -/
namespace PySem.W
open PySem PySem.Calls PyProof.Rows PySem.SeqAt

theorem call_tuple_lt {A : Around} {s : Shared} {prog : Program} {w : World} {E : Value → Shared → Prop} {Q : Value → Shared → Prop} {l b : Addr} {items items2 : Array Value} {e r : Nat → Bool} (hl : s.heap.IsTuple l items) (hb : s.heap.IsTuple b items2)
    (he : ∀ j (h1 : j < items.size) (h2 : j < items2.size), EqAt A.in1 s items[j] items2[j] (e j)) (hr : ∀ j (h1 : j < items.size) (h2 : j < items2.size), e j = false → RcLt A.in1 s items[j] items2[j] (r j))
    (h : Q (.bool (firstLt e r (decide (items.size < items2.size)) (List.range (min items.size items2.size)))) s) : wpAny (model prog w) A (call (.builtin "tuple.__lt__") [.ref l, .ref b]) Q E s := by
  obtain ⟨⟨cls, dd, data, sl⟩, ho, hc, n, hd⟩ := id hl
  obtain ⟨⟨cls2, dd2, data2, sl2⟩, ho2, hc2, n2, hd2⟩ := id hb
  simp only at hc hd hc2 hd2
  subst hc hd hc2 hd2
  exact call_meets F.slot_tuple_lt ⟨_, ho, rfl⟩ F.entry_tuple_lt (F.args_tuple_lt_2 _ _) (tuple_ltAt l b items items2 n n2 dd dd2 sl sl2 e r) ⟨ho, ho2, he, hr, h⟩

section
variable {prog : Program} {w : World} {A : Around} {E : Value → Shared → Prop} {s : Shared}
/-- one tuple against another, as sorting compares -/
theorem oneLt_tuples {f : Bool} {xs ys : List PyData} {a b : Value} {as bs : List Addr} {Q : Bool → Shared → Prop} (ra : Reads s.heap a (.tuple xs) as) (rb : Reads s.heap b (.tuple ys) bs) (h : alike (.tuple xs) (.tuple ys) = true)
    (hu : A.units + min (PyData.tuple xs).depth (PyData.tuple ys).depth < cLine) (hq : Q (dataLt (.tuple xs) (.tuple ys)) s) : wpAny (model prog w) A (oneLt' f a b) Q E s := by
  cases f with
  | false => exact oneLt_alike (fun h => nomatch h) ra rb h (fun z => nomatch z) hu hq
  | true =>
    have hal : alikeAll xs ys = true := by simpa [alike] using h
    cases ra with
    | @tuple l o vs n _ as₁ h1 h2 h3 h4 =>
      cases rb with
      | @tuple l' o' vs' n' _ bs₁ k1 k2 k3 k4 =>
        have n1 : vs.size = xs.length := by simpa using SeqAt.ReadsAll.length _ _ _ h4
        have n2 : vs'.size = ys.length := by simpa using SeqAt.ReadsAll.length _ _ _ k4
        rw [dataLt_tuple, ← firstLt_toks xs ys hal, ← n1, ← n2] at hq
        rw [oneLt'_eq]
        simp only [if_true]
        refine wpAny_bind (wpAny_cRoomFor (room_here hu) ?_)
        refine wpAny_bind (wpAny_callSpecialIfBound?_slot (T := "tuple") ⟨_, h1, h2⟩ F.slot_tuple_lt (call_tuple_lt (e := pairEq xs ys) (r := fun j => dataLt (xs.getD j .none) (ys.getD j .none)) ⟨_, h1, h2, _, h3⟩ ⟨_, k1, k2, _, k3⟩ (fun j j1 j2 => ?_) (fun j j1 j2 hj => ?_) ?_))
        · have := eqAt_alikeAll xs ys A.in1 s vs.toList vs'.toList _ _ h4 k4 hal (room_in hu) j (by simpa using j1) (by simpa using j2)
          simpa using this
        · have := rcLt_alikeAll xs ys A.in1 s vs.toList vs'.toList _ _ h4 k4 hal (room_in hu) j (by simpa using j1) (by simpa using j2) hj
          simpa using this
        · exact wpAny_truthy_bool hq

/-- tuples, each with its first item or none -/
def KatTupsO (h : Heap) : List Value → List (Option Value) → Prop
  | [], [] => True
  | v :: vs, f :: fs => (∃ a o xs n, v = .ref a ∧ h.get? a = some o ∧ o.cls = .type "tuple" ∧ o.data = .seq xs n ∧ xs[0]? = f) ∧ KatTupsO h vs fs
  | _, _ => False
theorem kat_firstsO {M : Model} : ∀ (vs : List Value) (fs : List (Option Value)) {Q : List (Option Value) → Shared → Prop}, KatTupsO s.heap vs fs → Q fs s → wpAny M A (vs.mapM firstOfTuple') Q E s
  | [], [], _, _, h => by rw [List.mapM_nil]; exact wpAny_pure h
  | [], _ :: _, _, t, _ => t.elim
  | _ :: _, [], _, t, _ => t.elim
  | v :: vs, f :: fs, Q, t, h => by
    obtain ⟨⟨a, o, xs, n, rfl, ho, hc, hd, hf⟩, t⟩ := t
    rw [List.mapM_cons]
    refine wpAny_bind ?_
    rw [kas_first_eq]
    refine wpAny_bind (Looks.here (show Looks M s.heap (typeOf (.ref a)) o.cls from (Looks.ld ho).andThen .now) ?_)
    rw [hc, if_neg (by first | decide | simp)]
    refine wpAny_bind (listItems_at ho hd (wpAny_pure ?_))
    rw [hf]
    exact wpAny_bind (kat_firstsO vs fs (Q := fun bs s' => wpAny M A (pure (f :: bs)) Q E s') t (wpAny_pure h))
theorem KatTupsO.looks {M : Model} {h : Heap} : ∀ {vs : List Value} {fs : List (Option Value)}, KatTupsO h vs fs → ∀ v ∈ vs, Looks M h (typeOf v) (.type "tuple")
  | [], _, _, v, hv => by cases hv
  | x :: vs, [], t, v, hv => t.elim
  | x :: vs, f :: fs, t, v, hv => by
    obtain ⟨⟨a, o, xs, n, rfl, ho, hc, hd, hf⟩, t⟩ := t
    rcases List.mem_cons.mp hv with rfl | hv
    · exact hc ▸ (Looks.ld ho).andThen .now
    · exact t.looks v hv
theorem KatTupsO.len {h : Heap} : ∀ {vs : List Value} {fs : List (Option Value)}, KatTupsO h vs fs → fs.length = vs.length
  | [], [], _ => rfl
  | [], _ :: _, t => t.elim
  | _ :: _, [], t => t.elim
  | x :: vs, f :: fs, t => by simp [t.2.len]
/-- the kind of keys of tuples of which one is empty -/
theorem kat_kindO {M : Model} {vs : List Value} {fs : List (Option Value)} {Q : SortKind → Shared → Prop} (t : KatTupsO s.heap vs fs) (hn : none ∈ fs) (h1 : (fs[0]?.bind id).isSome = true → Q general' s) (h2 : (fs[0]?.bind id).isSome = false → Q oneType' s) :
    wpAny M A (keyKind' vs.toArray) Q E s := by
  have hne : 0 < vs.length := by
    rw [← t.len]
    exact List.length_pos_of_mem hn
  rw [kat_kind_eq, List.mapM_toArray, map_eq_pure_bind]
  refine wpAny_bind (wpAny_bind (kat_firstsO vs _ t (wpAny_pure ?_)))
  have hall : (fs.toArray.all fun x => x.isSome) = false := by
    simp only [List.all_toArray]
    rw [List.all_eq_false]
    exact ⟨none, hn, by simp⟩
  rw [if_neg (by rw [hall]; exact Bool.false_ne_true)]
  have e0 : fs.toArray[0]? = fs[0]? := by simp
  rw [e0]
  cases hb : (fs[0]?.bind id).isSome with
  | true =>
    rw [if_pos rfl]
    exact wpAny_pure (h1 hb)
  | false =>
    rw [if_neg Bool.false_ne_true]
    rw [oneTypeOnly'_eq, List.mapM_toArray, map_eq_pure_bind]
    refine wpAny_bind (wpAny_bind (wpAny_bind (kas_mapM (r := Value.type "tuple") _ (fun v hv Q' hq => (t.looks v hv).here hq) (wpAny_pure ?_))))
    have hall2 : ((List.map (fun _ => Value.type "tuple") vs).toArray.all fun x => x == Value.type "tuple") = true := by
      simp only [List.all_toArray, List.all_map, List.all_eq_true]
      intro _ _
      rfl
    have h0 : (List.map (fun _ => Value.type "tuple") vs).toArray[0]? = some (Value.type "tuple") := by
      cases vs with
      | nil => simp at hne
      | cons a b => simp
    rw [h0]
    simp only [hall2, if_true]
    exact wpAny_pure (wpAny_pure (h2 hb))

theorem each_katTupsO {h : Heap} : ∀ {vs : List Value} {ds : List PyData}, EachIs (fun v d => ∃ as, Reads h v d as) vs ds → (∀ d, d ∈ ds → ∃ xs, d = .tuple xs) → PyData.tuple [] ∈ ds → ∃ fs, KatTupsO h vs fs ∧ none ∈ fs
  | _, _, .nil, _, hm => by cases hm
  | v :: vs, d :: ds, .cons ⟨as, r⟩ t, ht, hm => by
    obtain ⟨xs, rfl⟩ := ht d (List.mem_cons_self ..)
    have rest : ∃ fs, KatTupsO h vs fs ∧ (PyData.tuple [] ∈ ds → none ∈ fs) := by
      by_cases q : PyData.tuple [] ∈ ds
      · obtain ⟨fs, h1, h2⟩ := each_katTupsO t (fun d hd => ht d (List.mem_cons_of_mem _ hd)) q
        exact ⟨fs, h1, fun _ => h2⟩
      · have : ∀ {vs : List Value} {ds : List PyData}, EachIs (fun v d => ∃ as, Reads h v d as) vs ds → (∀ d, d ∈ ds → ∃ xs, d = .tuple xs) → ∃ fs, KatTupsO h vs fs := by
          intro vs ds e
          induction e with
          | nil => exact fun _ => ⟨[], trivial⟩
          | cons p _ ih =>
            intro ht
            obtain ⟨as, r⟩ := p
            rename_i b _ _ _
            obtain ⟨xs, rfl⟩ := ht b (List.mem_cons_self ..)
            obtain ⟨fs, hf⟩ := ih fun d hd => ht d (List.mem_cons_of_mem _ hd)
            cases r with
            | @tuple a o ys n _ _ ho hc hd hr => exact ⟨ys[0]? :: fs, ⟨a, o, ys, n, rfl, ho, hc, hd, rfl⟩, hf⟩
        obtain ⟨fs, hf⟩ := this t fun d hd => ht d (List.mem_cons_of_mem _ hd)
        exact ⟨fs, hf, fun z => absurd z q⟩
    obtain ⟨fs, h1, h2⟩ := rest
    cases r with
    | @tuple a o ys n _ _ ho hc hd hr =>
      refine ⟨ys[0]? :: fs, ⟨⟨a, o, ys, n, rfl, ho, hc, hd, rfl⟩, h1⟩, ?_⟩
      rcases List.mem_cons.mp hm with e | hm
      · have e' : xs = [] := by injection e with e; exact e.symm
        subst e'
        have hl := SeqAt.ReadsAll.length _ _ _ hr
        have : ys[0]? = none := by
          rw [Array.getElem?_eq_none]
          simp at hl
          simp [hl]
        rw [this]
        exact List.mem_cons_self ..
      · exact List.mem_cons_of_mem _ (h2 hm)

/-- values that read as alike data, none of them None, can be sorted -/
theorem SortsAt.dataAny {vs : List Value} {ds : List PyData} (e : EachIs (fun v d => ∃ as, Reads s.heap v d as) vs ds) (hal : AllAlike ds) (hk : ∀ d, d ∈ ds → d ≠ .none) (hu : ∀ d, d ∈ ds → A.units + d.depth < cLine) : SortsAt prog w A s (dataKind s.heap ds) vs := by
  by_cases h1 : Sortable ds
  · exact SortsAt.data e hal h1 hu
  · have hex : ∃ d₀, d₀ ∈ ds ∧ ∃ xs, d₀ = .tuple xs := by
      refine Classical.byContradiction fun q => h1 (.inr fun d hd => ⟨hk d hd, fun xs z => q ⟨d, hd, xs, z⟩⟩)
    obtain ⟨d₀, hd₀, xs₀, rfl⟩ := hex
    have ht : ∀ d, d ∈ ds → ∃ xs, d = .tuple xs := fun d hd => by
      have := hal d hd _ hd₀
      cases d <;> simp [alike] at this
      exact ⟨_, rfl⟩
    have hm : PyData.tuple [] ∈ ds := by
      refine Classical.byContradiction fun q => h1 (.inl fun d hd => ?_)
      obtain ⟨xs, rfl⟩ := ht d hd
      cases xs with
      | nil => exact absurd hd q
      | cons x r => exact ⟨x, r, rfl⟩
    have room : ∀ {d d' : PyData}, d ∈ ds → A.units + min d.depth d'.depth < cLine := fun {d d'} hd => Nat.lt_of_le_of_lt (Nat.add_le_add_left (Nat.min_le_left _ _) _) (hu d hd)
    obtain ⟨fs, t1, t2⟩ := each_katTupsO e ht hm
    have lt : ∀ (f : Bool) (kd : SortKind), (∀ x y, keyLt' kd x y = oneLt' f x y) → H.LtAt prog w A s (dataKind s.heap ds) kd := fun f kd hkd E x y a b Q ha hb hq => by
      obtain ⟨d, as, hd, ra, rfl⟩ := dataKind_inv ha
      obtain ⟨d', as', hd', rb, rfl⟩ := dataKind_inv hb
      obtain ⟨xs, rfl⟩ := ht d hd
      obtain ⟨ys, rfl⟩ := ht d' hd'
      rw [hkd]
      exact oneLt_tuples ra rb (hal _ hd _ hd') (room hd) hq
    refine ⟨fun v hv => ?_, ?_⟩
    · obtain ⟨d, hd, as, r⟩ := e.left v hv
      exact ⟨_, dataKind_some hal hd r⟩
    · cases hb : (fs[0]?.bind id).isSome with
      | true => exact ⟨general', lt false _ fun _ _ => rfl, fun h2 E Q hq => kat_kindO t1 t2 (fun _ => hq) fun z => by rw [hb] at z; cases z⟩
      | false => exact ⟨oneType', lt true _ fun _ _ => rfl, fun h2 E Q hq => kat_kindO t1 t2 (fun z => by rw [hb] at z; cases z) fun _ => hq⟩
end

/-- sorted(xs) of alike data -/
theorem sorted_dataAny {prog : Program} {w : World} {A : Around} {E : Value → Shared → Prop} {s : Shared} {β : Type} {R : Value → β → Prop} {enc : β → PyData} {vs : List Value} {bs : List β} {l : Addr} {Q : Value → Shared → Prop}
    (hl : s.heap.IsList l vs.toArray) (e : EachIs R vs bs) (er : EachIs (fun v b => ∃ as, Reads s.heap v (enc b) as) vs bs) (hal : AllAlike (bs.map enc)) (hk : ∀ d, d ∈ bs.map enc → d ≠ .none) (hL : bs.length ≤ sizeLine)
    (hu : ∀ b, b ∈ bs → A.units + 2 + (enc b).depth < cLine) (h : ∀ out, out.length = bs.length → EachIs R out (bs.mergeSort (dataLe false enc)) → Q (.ref (s.heap.objs.size + 1)) { s with heap := sortedAll s.heap vs (List.toArray out) }) :
    wpAny (model prog w) A (call (.builtin "sorted") [.ref l]) Q E s := by
  have er' : EachIs (fun v b => ∃ as, Reads (sortingHeap (copyHeap s.heap vs) (s.heap.objs.size + 1) vs) v (enc b) as) vs bs := er.mono fun _ _ ⟨as, r⟩ => ⟨as, PyProof.Rows.Reads.keeps (fun _ _ => sorting_copy_old) r⟩
  exact sorted_vals hl (SortsAt.dataAny (s := { s with heap := sortingHeap (copyHeap s.heap vs) (s.heap.objs.size + 1) vs }) (each_map (R := fun v d => ∃ as, Reads (sortingHeap (copyHeap s.heap vs) (s.heap.objs.size + 1) vs) v d as) enc er') hal hk (bound_map hu)) (by rw [e.length]; exact hL)
    (h _ (by rw [sortVals_length false rfl]; exact e.length) (sortVals_data false e er' hal))
end PySem.W

/-! Built-in functions by values. -/
namespace Mp
open PySem PySem.Spec PyProof.Rows L2

def bfV : Bf → Value
  | .len => .builtin "len"
  | .abs => .builtin "abs"
  | .max => .builtin "max"
  | .min => .builtin "min"
  | .sum => .builtin "sum"
  | .all => .builtin "all"
  | .any => .builtin "any"
  | .sorted => .builtin "sorted"
  | .list => .type "list"
  | .tuple => .type "tuple"
  | .int => .type "int"
  | .str => .type "str"
  | .repr => .builtin "repr"
  | .divmod => .builtin "divmod"
def rB (mg : Mg) (g : List D → Option D) : List V → Hp → VK → Prop := fun vs H Q => ∃ R c M xs d, CM mg R H c M ∧ RrL mg H (Lv R c M) c xs vs ∧ g xs = some d ∧ Out mg R c M d H Q

section
variable {mg : Mg} {H : Hp} {U : Addr → Prop} {c : List Addr}
theorem RrL.one {x : D} {vs : List V} (h : RrL mg H U c [x] vs) : ∃ v, vs = [v] ∧ Rr mg H U c x v := by
  obtain ⟨v, r, rfl, h1, h2⟩ := h
  simp only [RrL] at h2
  subst h2
  exact ⟨v, rfl, h1⟩
theorem RrL.two {x y : D} {vs : List V} (h : RrL mg H U c [x, y] vs) : ∃ v u, vs = [v, u] ∧ Rr mg H U c x v ∧ Rr mg H U c y u := by
  obtain ⟨v, r, rfl, h1, h2⟩ := h
  obtain ⟨u, rfl, h3⟩ := RrL.one h2
  exact ⟨v, u, rfl, h1, h3⟩
theorem ints_ok : ∀ {ds : List D} {ns : List Int} {vs : List V}, ints? ds = some ns → RpL mg H U c ds vs → vs = ns.map V.int
  | [], ns, vs, e, h => by
    simp only [ints?, Option.some.injEq] at e; subst e
    exact RpL.nil_iff.mp h
  | .int i :: ds, ns, vs, e, h => by
    simp only [ints?, Option.map_eq_some_iff] at e
    obtain ⟨ms, e, rfl⟩ := e
    obtain ⟨v, r, rfl, h1, t⟩ := RpL.cons_iff.mp h
    simp only [Rp] at h1
    rw [h1, ints_ok e t]; rfl
  | .non :: _, _, _, e, _ => by simp [ints?] at e
  | .bl _ :: _, _, _, e, _ => by simp [ints?] at e
  | .str _ :: _, _, _, e, _ => by simp [ints?] at e
  | .tup _ :: _, _, _, e, _ => by simp [ints?] at e
  | .lst _ :: _, _, _, e, _ => by simp [ints?] at e
  | .dct _ _ _ :: _, _, _, e, _ => by simp [ints?] at e
  | .cell _ :: _, _, _, e, _ => by simp [ints?] at e
  | .fn _ :: _, _, _, e, _ => by simp [ints?] at e
  | .exc _ _ :: _, _, _, e, _ => by simp [ints?] at e
  | .scr _ :: _, _, _, e, _ => by simp [ints?] at e
theorem bls_ok : ∀ {ds : List D} {ns : List Bool} {vs : List V}, bls? ds = some ns → RpL mg H U c ds vs → vs = ns.map V.bl
  | [], ns, vs, e, h => by
    simp only [bls?, Option.some.injEq] at e; subst e
    exact RpL.nil_iff.mp h
  | .bl i :: ds, ns, vs, e, h => by
    simp only [bls?, Option.map_eq_some_iff] at e
    obtain ⟨ms, e, rfl⟩ := e
    obtain ⟨v, r, rfl, h1, t⟩ := RpL.cons_iff.mp h
    simp only [Rp] at h1
    rw [h1, bls_ok e t]; rfl
  | .non :: _, _, _, e, _ => by simp [bls?] at e
  | .int _ :: _, _, _, e, _ => by simp [bls?] at e
  | .str _ :: _, _, _, e, _ => by simp [bls?] at e
  | .tup _ :: _, _, _, e, _ => by simp [bls?] at e
  | .lst _ :: _, _, _, e, _ => by simp [bls?] at e
  | .dct _ _ _ :: _, _, _, e, _ => by simp [bls?] at e
  | .cell _ :: _, _, _, e, _ => by simp [bls?] at e
  | .fn _ :: _, _, _, e, _ => by simp [bls?] at e
  | .exc _ _ :: _, _, _, e, _ => by simp [bls?] at e
  | .scr _ :: _, _, _, e, _ => by simp [bls?] at e
end

mutual
theorem py_inj : ∀ (a b : D), a.py.canLay0 = true → a.py = b.py → a = b
  | .non, b, _, e => by cases b <;> simp [D.py] at e ⊢
  | .bl _, b, _, e => by cases b <;> simp [D.py] at e ⊢; exact e
  | .int _, b, _, e => by cases b <;> simp [D.py] at e ⊢; exact e
  | .str _, b, _, e => by cases b <;> simp [D.py] at e ⊢; exact e
  | .tup xs, b, k, e => by cases b <;> simp [D.py] at e ⊢; exact pys_inj xs _ (by simpa [D.py, PyData.canLay0] using k) e
  | .lst xs, b, k, e => by cases b <;> simp [D.py] at e ⊢; exact pys_inj xs _ (by simpa [D.py, PyData.canLay0] using k) e
  | .dct _ _ _, b, k, e => by simp [D.py, PyData.canLay0] at k
  | .cell _, b, k, e => by simp [D.py, PyData.canLay0] at k
  | .fn _, b, k, e => by simp [D.py, PyData.canLay0] at k
  | .exc _ _, b, k, e => by simp [D.py, PyData.canLay0] at k
  | .scr _, b, k, e => by simp [D.py, PyData.canLay0] at k
theorem pys_inj : ∀ (a b : List D), PyData.canLayAll0 (pys a) = true → pys a = pys b → a = b
  | [], b, _, e => by cases b <;> simp [pys] at e ⊢
  | x :: xs, b, k, e => by
    cases b with
    | nil => simp [pys] at e
    | cons y ys =>
      simp only [pys, List.cons.injEq] at e
      have k' : x.py.canLay0 = true ∧ PyData.canLayAll0 (pys xs) = true := by simpa [pys, PyData.canLayAll0] using k
      rw [py_inj x y k'.1 e.1, pys_inj xs ys k'.2 e.2]
end

theorem alikes_ok {xs : List D} (h : alikes xs = true) : PySem.W.AllAlike (xs.map D.py) := by
  intro d hd d' hd'
  obtain ⟨a, ha, rfl⟩ := List.mem_map.mp hd
  obtain ⟨b, hb, rfl⟩ := List.mem_map.mp hd'
  simp only [alikes, List.all_eq_true] at h
  exact h a ha b hb
theorem nonD_py {d : D} (h : sh d = true) (n : isNonD d = false) : d.py ≠ .none := by
  cases d <;> simp [isNonD] at n <;> simp [D.py]
theorem datOk_ok {xs : List D} (h : datOk xs = true) : shs xs = true ∧ alikes xs = true ∧ PySem.W.AlikeAll (xs.map D.py) := by
  simp only [datOk, Bool.and_eq_true, List.all_eq_true, Bool.not_eq_true'] at h
  refine ⟨h.1, h.2.1, alikes_ok h.2.1, fun d hd => ?_⟩
  obtain ⟨a, ha, rfl⟩ := List.mem_map.mp hd
  have hs := h.1
  simp only [shs, List.all_eq_true] at hs
  exact nonD_py (hs a ha) (h.2.2 a ha)
theorem shs_lay : ∀ {xs : List D}, shs xs = true → PyData.canLayAll0 (pys xs) = true
  | [], _ => rfl
  | x :: xs, h => by
    simp only [shs, List.all_cons, Bool.and_eq_true] at h
    simp only [pys, PyData.canLayAll0, sh_lay h.1, shs_lay (show shs xs = true from h.2), Bool.and_self]
theorem shs_depth : ∀ {xs : List D}, shs xs = true → PyData.depthAll (pys xs) ≤ 64
  | [], _ => Nat.zero_le _
  | x :: xs, h => by
    simp only [shs, List.all_cons, Bool.and_eq_true] at h
    simp only [pys, PyData.depthAll]
    exact Nat.max_le.mpr ⟨sh_depth h.1, shs_depth (show shs xs = true from h.2)⟩
theorem most_py : ∀ (xs : List D) (x : D), (mostD x xs).py = PySem.W.maxD x.py (pys xs)
  | [], x => rfl
  | y :: ys, x => by
    have ih := most_py ys (if ltD x y then y else x)
    unfold mostD PySem.W.maxD at ih ⊢
    simp only [pys, List.foldl_cons]
    rw [ih]
    unfold ltD
    split <;> rfl
theorem least_py : ∀ (xs : List D) (x : D), (leastD x xs).py = PySem.W.minD x.py (pys xs)
  | [], x => rfl
  | y :: ys, x => by
    have ih := least_py ys (if ltD y x then y else x)
    unfold leastD PySem.W.minD at ih ⊢
    simp only [pys, List.foldl_cons]
    rw [ih]
    unfold ltD
    split <;> rfl
theorem most_mem : ∀ (xs : List D) (x : D), mostD x xs ∈ x :: xs
  | [], x => List.mem_cons_self ..
  | y :: ys, x => by
    have ih := most_mem ys (if ltD x y then y else x)
    unfold mostD at ih ⊢
    rw [List.foldl_cons]
    rcases List.mem_cons.mp ih with e | e
    · rw [e]; split
      · exact List.mem_cons_of_mem _ (List.mem_cons_self ..)
      · exact List.mem_cons_self ..
    · exact List.mem_cons_of_mem _ (List.mem_cons_of_mem _ e)
theorem least_mem : ∀ (xs : List D) (x : D), leastD x xs ∈ x :: xs
  | [], x => List.mem_cons_self ..
  | y :: ys, x => by
    have ih := least_mem ys (if ltD y x then y else x)
    unfold leastD at ih ⊢
    rw [List.foldl_cons]
    rcases List.mem_cons.mp ih with e | e
    · rw [e]; split
      · exact List.mem_cons_of_mem _ (List.mem_cons_self ..)
      · exact List.mem_cons_self ..
    · exact List.mem_cons_of_mem _ (List.mem_cons_of_mem _ e)
/-- an item of a list of data that reads as another one of alike data is that one -/
theorem pick_ok {mg : Mg} {X : Cx} {pins : List (Addr × Obj)} {σ : L2.St} {H : Hp} {s : Shared} {U : Addr → Prop} {c : List Addr} {xs : List D} {vs : List V} {its : List Value} (I : Inv X pins σ H s) (r : RpL mg H U c xs vs) (rv : Vals vs its)
    (hs : shs xs = true) (ha : alikes xs = true) {i : Nat} {v : Value} (e : its[i]? = some v) {z : D} (hz : z ∈ xs) {h' : Heap} (k : ∀ b o, s.heap.get? b = some o → h'.get? b = some o) {bs : List Addr} (rd : Reads h' v z.py bs) :
    ∃ u, RelV u v ∧ Rp mg H U c z u := by
  have hi : i < its.length := (List.getElem?_eq_some_iff.mp e).1
  have hl := rv.length
  have hv : vs[i]? = some vs[i] := List.getElem?_eq_getElem (by omega)
  obtain ⟨d, ed, rd'⟩ := r.get' hv
  obtain ⟨u', eu, ru⟩ := rv.get hv
  rw [e] at eu; cases eu
  have hm : d ∈ xs := List.mem_of_getElem? ed
  have hsd : sh d = true := by
    simp only [shs, List.all_eq_true] at hs
    exact hs d hm
  obtain ⟨as, r1⟩ := Dp.reads I _ _ _ (Rp.dp (K := X.K) d rd' (sh_lay hsd)) ru
  have r2 : Reads h' v d.py as := PySem.W.reads_keeps k r1
  have e2 := PySem.W.alike_unique _ _ _ _ _ (alikes_ok ha _ (List.mem_map.mpr ⟨d, hm, rfl⟩) _ (List.mem_map.mpr ⟨z, hz, rfl⟩)) r2 rd
  rw [← py_inj d z (sh_lay hsd) e2]
  exact ⟨_, ru, rd'⟩

section
variable {X : Cx}
theorem blt_len : CallR X (.builtin "len") (rB X.Mg lenD) := by
  intro pins s σ H vs us Q I r h
  obtain ⟨R, c, M, xs, d, m, hx, e, q⟩ := h
  unfold lenD at e
  split at e
  · split at e
    · rename_i k
      simp only [Option.some.injEq] at e; subst e
      obtain ⟨v, rfl, hv⟩ := hx.one
      obtain rfl := rr_str.mp hv
      exact call_len pins s σ H _ us Q I r ⟨_, _, rfl, ⟨k, rfl⟩, q.int m⟩
    · cases e
  · simp only [Option.some.injEq] at e; subst e
    obtain ⟨v, rfl, hv⟩ := hx.one
    obtain ⟨p, ws, rfl, h1, _, r1⟩ := rr_tup.mp hv
    exact call_len pins s σ H _ us Q I r ⟨_, _, rfl, .inr ⟨ws, SqT.of h1, rfl⟩, by rw [r1.len]; exact q.int m⟩
  · simp only [Option.some.injEq] at e; subst e
    obtain ⟨v, rfl, hv⟩ := hx.one
    obtain ⟨p, ws, rfl, h1, r1⟩ := hv
    exact call_len pins s σ H _ us Q I r ⟨_, _, rfl, .inl ⟨ws, SqL.of h1, rfl⟩, by rw [r1.len]; exact q.int m⟩
  · simp only [Option.some.injEq] at e; subst e
    obtain ⟨v, rfl, hv⟩ := hx.one
    obtain ⟨p, rfl, h1⟩ := scr_rr hv
    exact call_len pins s σ H _ us Q I r ⟨_, _, rfl, .inl ⟨_, h1, rfl⟩, by rw [List.length_map]; exact q.int m⟩
  · simp only [Option.some.injEq] at e; subst e
    obtain ⟨v, rfl, hv⟩ := hx.one
    obtain ⟨p, rfl, h2⟩ := hv
    rcases h2 with ⟨rfl, kvs, e1, rfl, _⟩ | ⟨rfl, kvs, e1, rfl, _⟩
    · exact call_lenD pins s σ H _ us Q I r ⟨_, _, rfl, e1, by have := q.int m; rwa [List.length_map] at this⟩
    · exact call_len_dT pins s σ H _ us Q I r ⟨_, _, rfl, e1, by have := q.int m; rwa [List.length_map] at this⟩
  · cases e
theorem blt_abs : CallR X (.builtin "abs") (rB X.Mg absD) := by
  intro pins s σ H vs us Q I r h
  obtain ⟨R, c, M, xs, d, m, hx, e, q⟩ := h
  unfold absD at e
  split at e
  · simp only [Option.some.injEq] at e; subst e
    obtain ⟨v, rfl, hv⟩ := hx.one
    obtain rfl := rr_int.mp hv
    exact call_abs pins s σ H _ us Q I r ⟨_, rfl, q.int m⟩
  · cases e
theorem blt_max (hc : X.calm = true) (hu : X.A.units + 80 < cLine) : CallR X (.builtin "max") (rB X.Mg Mp.maxD) := by
  intro pins s σ H vs us Q I r h
  obtain ⟨R, c, M, xs, d, m, hx, e, q⟩ := h
  unfold Mp.maxD at e
  split at e
  · simp only [Option.some.injEq] at e; subst e
    obtain ⟨v, u, rfl, hv, hw⟩ := hx.two
    obtain rfl := rr_int.mp hv
    obtain rfl := rr_int.mp hw
    exact call_max2 hc pins s σ H _ us Q I r ⟨_, _, rfl, q.int m⟩
  · split at e
    · rename_i x ys k
      simp only [Option.some.injEq] at e; subst e
      obtain ⟨k1, k2, k3⟩ := datOk_ok k
      obtain ⟨v, rfl, hv⟩ := hx.one
      obtain ⟨p, ws, rfl, h1, r1⟩ := hv
      obtain ⟨u, rfl, ru⟩ := vals1 r
      obtain rfl : u = Value.ref p := ru
      obtain ⟨its, rv, hl, hz⟩ := I.list (SqL.of (K := X.K) h1)
      obtain ⟨as, rds⟩ := Dp.readsAll I _ _ its (RpL.dps (K := X.K) _ r1 (shs_lay k1)) rv
      refine PySem.W.max_list_data (I.ok.hd hc) hl.isList (by simpa [pys] using rds) (by simpa [pys_eq] using k3) (by have := shs_depth k1; simp only [pys] at this; omega) fun i v' h' tk bs hv' rd hk => ?_
      rw [← most_py] at rd
      obtain ⟨u', ru', rp'⟩ := pick_ok I r1 rv k1 k2 (by simpa using hv') (most_mem _ _) hk rd
      exact ⟨u', H, I.kept hk, ru', q.same m rp'⟩
    · cases e
  · cases e
theorem blt_min (hc : X.calm = true) (hu : X.A.units + 80 < cLine) : CallR X (.builtin "min") (rB X.Mg Mp.minD) := by
  intro pins s σ H vs us Q I r h
  obtain ⟨R, c, M, xs, d, m, hx, e, q⟩ := h
  unfold Mp.minD at e
  split at e
  · simp only [Option.some.injEq] at e; subst e
    obtain ⟨v, u, rfl, hv, hw⟩ := hx.two
    obtain rfl := rr_int.mp hv
    obtain rfl := rr_int.mp hw
    exact call_min2 hc pins s σ H _ us Q I r ⟨_, _, rfl, q.int m⟩
  · split at e
    · rename_i x ys k
      simp only [Option.some.injEq] at e; subst e
      obtain ⟨k1, k2, k3⟩ := datOk_ok k
      obtain ⟨v, rfl, hv⟩ := hx.one
      obtain ⟨p, ws, rfl, h1, r1⟩ := hv
      obtain ⟨u, rfl, ru⟩ := vals1 r
      obtain rfl : u = Value.ref p := ru
      obtain ⟨its, rv, hl, hz⟩ := I.list (SqL.of (K := X.K) h1)
      obtain ⟨as, rds⟩ := Dp.readsAll I _ _ its (RpL.dps (K := X.K) _ r1 (shs_lay k1)) rv
      refine PySem.W.min_list_data (I.ok.hd hc) hl.isList (by simpa [pys] using rds) (by simpa [pys_eq] using k3) (by have := shs_depth k1; simp only [pys] at this; omega) fun i v' h' tk bs hv' rd hk => ?_
      rw [← least_py] at rd
      obtain ⟨u', ru', rp'⟩ := pick_ok I r1 rv k1 k2 (by simpa using hv') (least_mem _ _) hk rd
      exact ⟨u', H, I.kept hk, ru', q.same m rp'⟩
    · cases e
  · cases e
theorem blt_sum (hc : X.calm = true) : CallR X (.builtin "sum") (rB X.Mg sumD) := by
  intro pins s σ H vs us Q I r h
  obtain ⟨R, c, M, xs, d, m, hx, e, q⟩ := h
  unfold sumD at e
  split at e
  · replace e := Option.map_eq_some_iff.mp e
    obtain ⟨ns, e, rfl⟩ := e
    obtain ⟨v, rfl, hv⟩ := hx.one
    obtain ⟨p, ws, rfl, h1, r1⟩ := hv
    obtain rfl := ints_ok e r1
    exact cr_sum hc pins s σ H _ us Q I r ⟨_, _, rfl, SqL.of h1, q.int m⟩
  · cases e
theorem blt_all (hc : X.calm = true) : CallR X (.builtin "all") (rB X.Mg allD) := by
  intro pins s σ H vs us Q I r h
  obtain ⟨R, c, M, xs, d, m, hx, e, q⟩ := h
  unfold allD at e
  split at e
  · replace e := Option.map_eq_some_iff.mp e
    obtain ⟨ns, e, rfl⟩ := e
    obtain ⟨v, rfl, hv⟩ := hx.one
    obtain ⟨p, ws, rfl, h1, r1⟩ := hv
    obtain rfl := bls_ok e r1
    exact cr_all hc pins s σ H _ us Q I r ⟨_, _, rfl, SqL.of h1, q.bl m⟩
  · cases e
theorem blt_any (hc : X.calm = true) : CallR X (.builtin "any") (rB X.Mg anyD) := by
  intro pins s σ H vs us Q I r h
  obtain ⟨R, c, M, xs, d, m, hx, e, q⟩ := h
  unfold anyD at e
  split at e
  · replace e := Option.map_eq_some_iff.mp e
    obtain ⟨ns, e, rfl⟩ := e
    obtain ⟨v, rfl, hv⟩ := hx.one
    obtain ⟨p, ws, rfl, h1, r1⟩ := hv
    obtain rfl := bls_ok e r1
    exact cr_any hc pins s σ H _ us Q I r ⟨_, _, rfl, SqL.of h1, q.bl m⟩
  · cases e
theorem each_rp {mg : Mg} {H : Hp} {U : Addr → Prop} {c : List Addr} : ∀ {ds : List D} {vs : List V} {its : List Value}, RpL mg H U c ds vs → Vals vs its → PySem.W.EachIs (fun u d => ∃ v, RelV v u ∧ Rp mg H U c d v) its ds
  | [], vs, its, h, r => by
    rw [RpL.nil_iff.mp h] at r
    cases r; exact .nil
  | d :: ds, vs, its, h, r => by
    obtain ⟨v, t, rfl, h1, h2⟩ := RpL.cons_iff.mp h
    cases r with
    | cons r1 r2 => exact .cons ⟨v, r1, h1⟩ (each_rp h2 r2)
theorem rp_each {mg : Mg} {H : Hp} {U : Addr → Prop} {c : List Addr} : ∀ {ds : List D} {its : List Value}, PySem.W.EachIs (fun u d => ∃ v, RelV v u ∧ Rp mg H U c d v) its ds → ∃ vs, Vals vs its ∧ RpL mg H U c ds vs
  | _, _, .nil => ⟨[], .nil, RpL.nil⟩
  | _, _, .cons ⟨v, r1, h1⟩ t => by
    obtain ⟨vs, r2, h2⟩ := rp_each t
    exact ⟨v :: vs, .cons r1 r2, RpL.cons h1 h2⟩
theorem each_rd {X : Cx} {pins : List (Addr × Obj)} {σ : L2.St} {mg : Mg} {H : Hp} {s : Shared} {U : Addr → Prop} {c : List Addr} (I : Inv X pins σ H s) : ∀ {ds : List D} {vs : List V} {its : List Value}, RpL mg H U c ds vs → Vals vs its → shs ds = true →
    PySem.W.EachIs (fun u d => ∃ as, Reads s.heap u (D.py d) as) its ds
  | [], vs, its, h, r, _ => by
    rw [RpL.nil_iff.mp h] at r
    cases r; exact .nil
  | d :: ds, vs, its, h, r, k => by
    obtain ⟨v, t, rfl, h1, h2⟩ := RpL.cons_iff.mp h
    simp only [shs, List.all_cons, Bool.and_eq_true] at k
    cases r with
    | cons r1 r2 => exact .cons (Dp.reads I _ _ _ (Rp.dp (K := X.K) d h1 (sh_lay k.1)) r1) (each_rd I h2 r2 (show shs ds = true from k.2))
theorem blt_sorted (hu : X.A.units + 80 < cLine) : CallR X (.builtin "sorted") (rB X.Mg sortedD) := by
  intro pins s σ H vs us Q I r h
  obtain ⟨R, c, M, xs, d, m, hx, e, q⟩ := h
  unfold sortedD at e
  split at e
  · split at e
    · rename_i ys k
      simp only [Option.some.injEq] at e; subst e
      simp only [sortOk, Bool.and_eq_true, decide_eq_true_eq] at k
      obtain ⟨k1, k2, k3⟩ := datOk_ok k.1
      obtain ⟨v, rfl, hv⟩ := hx.one
      obtain ⟨p, ws, rfl, h1, r1⟩ := hv
      obtain ⟨u, rfl, ru⟩ := vals1 r
      obtain rfl : u = Value.ref p := ru
      obtain ⟨its, rv, hl, hz⟩ := I.list (SqL.of (K := X.K) h1)
      refine PySem.W.sorted_dataAny (enc := D.py) hl.isList (each_rp r1 rv) (each_rd I r1 rv k1) k3.1 k3.2 k.2 (fun b hb => ?_) fun out hlen he => ?_
      · have hs := k1
        simp only [shs, List.all_eq_true] at hs
        have := sh_depth (hs b hb)
        omega
      · obtain ⟨zs, rz, rp⟩ := rp_each he
        obtain ⟨ep, he'⟩ := PyProof.Rows.sortedAll_at s.heap its out.toArray
        have fr : H (s.heap.objs.size + 1) = none := I.hok.fresh (Nat.le_succ _)
        refine ⟨.ref (s.heap.objs.size + 1), upd H (s.heap.objs.size + 1) (.lst zs), I.laid (t' := s.toks) (fun b o q => PyProof.Rows.sortedAll_old q) (Nat.le_succ _) ⟨?_, out, ep, rz, he'⟩, rfl, ?_⟩
        · rw [rz.length, hlen]; exact k.2
        · exact q.lst m rp fr
    · cases e
  · cases e
theorem keys_rp {mg : Mg} {R : Addr → Prop} {H : Hp} {c : List Addr} {M : Cs} : ∀ (kvs : List (Key × V)), RpL mg H (Lv R c M) c (kvs.map fun p => keyD p.1) (kvs.map fun p => kV p.1)
  | [] => RpL.nil
  | (.inl i, v) :: r => RpL.cons (by simp [keyD, kV, Rp]) (keys_rp r)
  | (.inr i, v) :: r => RpL.cons (by simp [keyD, kV, Rp]) (keys_rp r)
theorem keyl_rp {mg : Mg} {R : Addr → Prop} {H : Hp} {c : List Addr} {M : Cs} : ∀ (ks : List Key), RpL mg H (Lv R c M) c (ks.map keyD) (ks.map kV)
  | [] => RpL.nil
  | .inl i :: r => RpL.cons (by simp [keyD, kV, Rp]) (keyl_rp r)
  | .inr i :: r => RpL.cons (by simp [keyD, kV, Rp]) (keyl_rp r)
theorem keyTs_rp {mg : Mg} {R : Addr → Prop} {H : Hp} {c : List Addr} {M : Cs} (m : CM mg R H c M) : ∀ {kvs : List (List Key × V)} {bs : List Addr}, IsKeys H kvs bs → RpL mg H (Lv R c M) c (kvs.map fun p => keyTD p.1) (bs.map V.ref)
  | [], _, .nil => RpL.nil
  | p :: r, b :: bs, .cons h t => RpL.cons (by
      simp only [keyTD, Rp]
      exact ⟨b, _, rfl, h, m.tup h, keyl_rp _⟩) (keyTs_rp m t)
theorem blt_list (hc : X.calm = true) : CallR X (.type "list") (rB X.Mg listD) := by
  intro pins s σ H vs us Q I r h
  obtain ⟨R, c, M, xs, d, m, hx, e, q⟩ := h
  unfold listD at e
  split at e
  · simp only [Option.some.injEq] at e; subst e
    obtain ⟨v, rfl, hv⟩ := hx.one
    obtain ⟨p, ws, rfl, h1, r1⟩ := hv
    exact call_list_of pins s σ H _ us Q I r ⟨p, ws, rfl, .inl (SqL.of h1), fun l hl => q.lst m r1 hl⟩
  · simp only [Option.some.injEq] at e; subst e
    obtain ⟨v, rfl, hv⟩ := hx.one
    obtain ⟨p, ws, rfl, h1, _, r1⟩ := rr_tup.mp hv
    exact call_list_of pins s σ H _ us Q I r ⟨p, ws, rfl, .inr (SqT.of h1), fun l hl => q.lst m r1 hl⟩
  · simp only [Option.some.injEq] at e; subst e
    obtain ⟨v, rfl, hv⟩ := hx.one
    obtain ⟨p, rfl, h2⟩ := hv
    rcases h2 with ⟨rfl, kvs, e1, rfl, _⟩ | ⟨rfl, kvs, e1, rfl, _⟩
    · exact call_list_dK hc pins s σ H _ us Q I r ⟨p, kvs, rfl, e1, fun l hl => q.lst m (keys_rp kvs) hl⟩
    · exact call_list_dT hc pins s σ H _ us Q I r ⟨p, kvs, rfl, .inl e1, fun l bs hl hk => q.lst m (keyTs_rp m hk) hl⟩
  · cases e
theorem blt_tuple : CallR X (.type "tuple") (rB X.Mg tupleD) := by
  intro pins s σ H vs us Q I r h
  obtain ⟨R, c, M, xs, d, m, hx, e, q⟩ := h
  unfold tupleD at e
  split at e
  · simp only [Option.some.injEq] at e; subst e
    obtain ⟨v, rfl, hv⟩ := hx.one
    obtain ⟨p, ws, rfl, h1, r1⟩ := hv
    exact call_tuple_of pins s σ H _ us Q I r ⟨p, ws, rfl, .inl ⟨SqL.of h1, fun l hl => q.tup m r1 hl⟩⟩
  · simp only [Option.some.injEq] at e; subst e
    obtain ⟨v, rfl, hv⟩ := hx.one
    have hv' := hv
    obtain ⟨p, ws, rfl, h1, _, r1⟩ := rr_tup.mp hv
    exact call_tuple_of pins s σ H _ us Q I r ⟨p, ws, rfl, .inr ⟨SqT.of h1, q.same m hv'⟩⟩
  · cases e
theorem blt_int : CallR X (.type "int") (rB X.Mg intD) := by
  intro pins s σ H vs us Q I r h
  obtain ⟨R, c, M, xs, d, m, hx, e, q⟩ := h
  unfold intD at e
  split at e
  · simp only [Option.some.injEq] at e; subst e
    obtain ⟨v, rfl, hv⟩ := hx.one
    obtain rfl := rr_int.mp hv
    exact call_int1 pins s σ H _ us Q I r (.inl ⟨_, rfl, q.int m⟩)
  · simp only [Option.some.injEq] at e; subst e
    obtain ⟨v, rfl, hv⟩ := hx.one
    obtain rfl := rr_bl.mp hv
    exact call_int1 pins s σ H _ us Q I r (.inr ⟨_, rfl, q.int m⟩)
  · cases e
theorem blt_str : CallR X (.type "str") (rB X.Mg strD) := by
  intro pins s σ H vs us Q I r h
  obtain ⟨R, c, M, xs, d, m, hx, e, q⟩ := h
  unfold strD at e
  split at e
  · split at e
    · rename_i k
      simp only [Option.some.injEq] at e; subst e
      obtain ⟨v, rfl, hv⟩ := hx.one
      obtain rfl := rr_int.mp hv
      exact call_str_int pins s σ H _ us Q I r ⟨_, rfl, k, q.str m⟩
    · cases e
  · cases e
theorem blt_divmod : CallR X (.builtin "divmod") (rB X.Mg divmodD) := by
  intro pins s σ H vs us Q I r h
  obtain ⟨R, c, M, xs, d, m, hx, e, q⟩ := h
  unfold divmodD at e
  split at e
  · split at e
    · rename_i k
      simp only [Option.some.injEq] at e; subst e
      simp only [Bool.and_eq_true, decide_eq_true_eq] at k
      obtain ⟨v, u, rfl, hv, hw⟩ := hx.two
      obtain rfl := rr_int.mp hv
      obtain rfl := rr_int.mp hw
      exact call_divmod pins s σ H _ us Q I r ⟨_, _, rfl, ⟨k.1, k.2⟩, fun p hp => q.tup m (RpL.cons (by simp [Rp]) (RpL.cons (by simp [Rp]) RpL.nil)) hp⟩
    · cases e
  · cases e
theorem blt_repr (hu : X.A.units + 80 < cLine) (hg : X.A.guards = some []) : CallR X (.builtin "repr") (rB X.Mg reprD) := by
  intro pins s σ H vs us Q I r h
  obtain ⟨R, c, M, xs, d, m, hx, e, q⟩ := h
  unfold reprD at e
  split at e
  · split at e
    · rename_i a k
      simp only [Option.some.injEq] at e; subst e
      simp only [Bool.and_eq_true, decide_eq_true_eq] at k
      obtain ⟨v, rfl, hv⟩ := hx.one
      obtain ⟨u, rfl, ru⟩ := vals1 r
      obtain ⟨as, rd⟩ := Dp.reads I _ _ _ (hv.dp (K := X.K) (sh_lay k.1.1)) ru
      have hd := sh_depth k.1.1
      have nd := PyData.hasDict_of_canLay _ (sh_lay k.1.1)
      have q' := q.str m
      cases a with
      | non =>
        cases rd
        exact PySem.P.repr_of_none ⟨.str _, H, I.tok _, ⟨_, rfl⟩, by simpa [D.py, PyData.shown] using q'⟩
      | bl b =>
        cases rd
        exact PySem.P.repr_of_bool ⟨.str _, H, I.tok _, ⟨_, rfl⟩, by simpa [D.py, PyData.shown] using q'⟩
      | int i =>
        cases rd
        exact PySem.P.repr_of_int (by simpa [D.py, PyData.showable] using k.1.2) ⟨.str _, H, I.tok _, ⟨_, rfl⟩, by simpa [D.py, PyData.shown] using q'⟩
      | str x =>
        cases rd
        exact PySem.P.repr_of_str ⟨.str _, H, I.tok _, ⟨_, rfl⟩, by simpa [D.py, PyData.shown] using q'⟩ (by have := k.2; simp only [D.py, PyData.shown] at this; omega)
      | tup ys =>
        obtain ⟨p, ws, rfl, _⟩ := rr_tup.mp hv
        obtain rfl : u = Value.ref p := ru
        exact repr_of_reads' rd k.1.2 (fun z => by rw [nd] at z; cases z) hg (by omega) (fun _ _ z => z) (fun h' u' tk hk => ⟨.str _, H, I.kept hk, ⟨_, rfl⟩, q'⟩) (by omega)
      | lst ys =>
        obtain ⟨p, ws, rfl, _⟩ := hv
        obtain rfl : u = Value.ref p := ru
        exact repr_of_reads' rd k.1.2 (fun z => by rw [nd] at z; cases z) hg (by omega) (fun _ _ z => z) (fun h' u' tk hk => ⟨.str _, H, I.kept hk, ⟨_, rfl⟩, q'⟩) (by omega)
      | dct _ _ _ => exact absurd (sh_lay k.1.1) (by simp [D.py, PyData.canLay0])
      | cell _ => exact absurd (sh_lay k.1.1) (by simp [D.py, PyData.canLay0])
      | fn _ => exact absurd (sh_lay k.1.1) (by simp [D.py, PyData.canLay0])
      | exc _ _ => exact absurd (sh_lay k.1.1) (by simp [D.py, PyData.canLay0])
      | scr _ => exact absurd (sh_lay k.1.1) (by simp [D.py, PyData.canLay0])
    · cases e
  · cases e
/-- every built-in one -/
theorem blt_ok (hc : X.calm = true) (hu : X.A.units + 80 < cLine) (hg : X.A.guards = some []) : ∀ b : Bf, CallR X (bfV b) (rB X.Mg (bltD b))
  | .len => blt_len
  | .abs => blt_abs
  | .max => blt_max hc hu
  | .min => blt_min hc hu
  | .sum => blt_sum hc
  | .all => blt_all hc
  | .any => blt_any hc
  | .sorted => blt_sorted hu
  | .list => blt_list hc
  | .tuple => blt_tuple
  | .int => blt_int
  | .str => blt_str
  | .repr => blt_repr hu hg
  | .divmod => blt_divmod
end
end Mp

/-! Subscripts, slices, methods by values; cells that change. -/
namespace Mp
open PySem PySem.Spec PyProof.Rows L2

/-! ### cells -/
section
variable {mg : Mg} {R : Addr → Prop} {H : Hp} {c : List Addr} {M : Cs}
theorem live_set {M : Cs} {n k : Nat} {d : D} (h : live M n) : live (M.set n (some d)) k ↔ live M k := by
  unfold live
  rw [List.getElem?_set]
  by_cases e : n = k
  · subst e
    obtain ⟨x, hx⟩ := h
    have hl := (List.getElem?_eq_some_iff.mp hx).1
    simp only [if_true, hl, Option.some.injEq, exists_eq', true_iff]
    exact ⟨x, hx⟩
  · simp [e]
theorem lv_set {R : Addr → Prop} {c : List Addr} {M : Cs} {n : Nat} {d : D} (h : live M n) (a : Addr) : Lv R c (M.set n (some d)) a ↔ Lv R c M a := by
  unfold Lv
  constructor
  · rintro (q | ⟨k, h1, h2⟩)
    · exact .inl q
    · exact .inr ⟨k, (live_set h).mp h1, h2⟩
  · rintro (q | ⟨k, h1, h2⟩)
    · exact .inl q
    · exact .inr ⟨k, (live_set h).mpr h1, h2⟩
/-- a cell's contents are others -/
theorem CM.put (m : CM mg R H c M) {n : Nat} {d0 d1 : D} {a : Addr} {o : HO} (hn : M[n]? = some (some d0)) (hc : c[n]? = some a) (hf : d1.free 0 = true)
    (new : ∀ (g : Gr H (Lv R c M) c (upd H a o) (Lv R c (M.set n (some d1))) c), CellOk mg (upd H a o) (Lv R c (M.set n (some d1))) c a d1) : Aft mg R H c M (M.set n (some d1)) (upd H a o) c := by
  have hl : live M n := ⟨_, hn⟩
  have hlv : Lv R c M a := .inr ⟨n, hl, hc⟩
  have hnr : ¬ R a := m.nres n a hl hc
  have g : Gr H (Lv R c M) c (upd H a o) (Lv R c (M.set n (some d1))) c :=
    ⟨fun b u e q => ⟨by rw [upd_ne (show b ≠ a from fun z => q (by rw [z]; exact hlv))]; exact e, fun z => q ((lv_set hl b).mp z)⟩, fun _ _ => rfl⟩
  refine ⟨⟨g.keep, g.pre, fun b r => upd_ne (show b ≠ a from fun z => hnr (by rw [← z]; exact r))⟩, ?_⟩
  refine ⟨by simp [m.len], fun i j b h1 h2 => m.inj i j b ((live_set hl).mp h1) ((live_set hl).mp h2), fun i b h1 => m.nres i b ((live_set hl).mp h1), fun b r => ?_, fun k d e => ?_, fun k d e => ?_⟩
  · obtain ⟨u, e1, e2⟩ := m.there b r
    exact ⟨u, by rw [upd_ne (show b ≠ a from fun z => hnr (by rw [← z]; exact r))]; exact e1, e2⟩
  · rw [List.getElem?_set] at e
    by_cases hk : n = k
    · subst hk
      simp only [if_true] at e
      split at e
      · simp only [Option.some.injEq] at e; subst e
        exact ⟨a, hc, new g⟩
      · cases e
    · simp only [hk, if_false] at e
      obtain ⟨b, e1, e2⟩ := m.obj k d e
      refine ⟨b, e1, e2.mono g (upd_ne fun z => ?_)⟩
      subst z
      exact hk (m.inj n k b hl ⟨_, e⟩ hc e1)
  · rw [List.getElem?_set] at e
    by_cases hk : n = k
    · subst hk
      simp only [if_true] at e
      split at e
      · simp only [Option.some.injEq] at e; subst e
        exact hf
      · cases e
    · simp only [hk, if_false] at e
      exact m.fre k d e
/-- a cell goes -/
theorem live_kill {M : Cs} {n k : Nat} : live (M.set n none) k ↔ live M k ∧ n ≠ k := by
  unfold live
  rw [List.getElem?_set]
  by_cases e : n = k
  · subst e
    simp only [if_true]
    constructor
    · rintro ⟨d, h⟩
      split at h <;> simp at h
    · rintro ⟨_, h⟩; exact absurd rfl h
  · simp [e]
theorem CM.kill (m : CM mg R H c M) {n : Nat} : Aft mg R H c M (M.set n none) H c := by
  have lv : ∀ a, Lv R c (M.set n none) a → Lv R c M a := fun a q => by
    rcases q with q | ⟨k, h1, h2⟩
    · exact .inl q
    · exact .inr ⟨k, (live_kill.mp h1).1, h2⟩
  have g : Gr H (Lv R c M) c H (Lv R c (M.set n none)) c := ⟨fun b u e q => ⟨e, fun z => q (lv b z)⟩, fun _ _ => rfl⟩
  refine ⟨⟨g.keep, g.pre, fun _ _ => rfl⟩, ?_⟩
  have back : ∀ (k : Nat) (d : D), (M.set n none)[k]? = some (some d) → M[k]? = some (some d) := fun k d e => by
    rw [List.getElem?_set] at e
    by_cases hk : n = k
    · subst hk
      simp only [if_true] at e
      split at e <;> simp at e
    · simpa [hk] using e
  refine ⟨by simp [m.len], fun i j b h1 h2 => m.inj i j b (live_kill.mp h1).1 (live_kill.mp h2).1, fun i b h1 => m.nres i b (live_kill.mp h1).1, m.there, fun k d e => ?_, fun k d e => m.fre k d (back k d e)⟩
  obtain ⟨b, e1, e2⟩ := m.obj k d (back k d e)
  exact ⟨b, e1, e2.mono g rfl⟩
end

/-! ### dicts changed -/
theorem put_ok {κ : Type} [DecidableEq κ] {f : κ → D} (hf : ∀ {a b}, f a = f b → a = b) {mg : Mg} {H : Hp} {U : Addr → Prop} {c : List Addr} (k : κ) {x : D} {v : V} {kvs : List (κ × V)} {us : List D} (h : RpL mg H U c us (kvs.map (·.2))) (rv : Rp mg H U c x v) :
    (putD (f k) x (kvs.map fun p => f p.1) us).1 = (putK kvs k v).map (fun p => f p.1) ∧ RpL mg H U c (putD (f k) x (kvs.map fun p => f p.1) us).2 ((putK kvs k v).map (·.2)) := by
  have e1 : ((kvs.map fun p => f p.1).any fun a => decide (a = f k)) = kvs.any fun kv => decide (kv.1 = k) := by
    rw [List.any_map]
    congr 1
    funext p
    by_cases q : p.1 = k
    · simp [q]
    · have : ¬ f p.1 = f k := fun z => q (hf z)
      simp [q, this]
  unfold putD putK
  rw [e1]
  by_cases q : (kvs.any fun kv => decide (kv.1 = k)) = true
  · simp only [q, if_true]
    refine ⟨?_, ?_⟩
    · rw [List.map_map]
      congr 1
      funext p
      simp only [Function.comp]
      split <;> rfl
    · clear e1 q
      induction kvs generalizing us with
      | nil =>
        cases us with
        | nil => exact RpL.nil
        | cons d ds => have := h.len; simp at this
      | cons p r ih =>
        cases us with
        | nil => have := h.len; simp at this
        | cons d ds =>
          obtain ⟨w, t, e, h1, h2⟩ := RpL.cons_iff.mp h
          simp only [List.map_cons, List.cons.injEq] at e
          obtain ⟨rfl, rfl⟩ := e
          simp only [List.map_cons, List.zip_cons_cons]
          refine RpL.cons ?_ (ih h2)
          by_cases hk : p.1 = k
          · simp [hk, rv]
          · have : ¬ f p.1 = f k := fun z => hk (hf z)
            simp [hk, this, h1]
  · simp only [q, if_false, Bool.false_eq_true]
    refine ⟨by simp, ?_⟩
    rw [List.map_append]
    exact h.app (RpL.cons rv RpL.nil)

theorem frees_append (n : Nat) : ∀ (a b : List D), frees n (a ++ b) = (frees n a && frees n b)
  | [], b => by simp [frees]
  | x :: a, b => by simp [frees, frees_append n a b, Bool.and_assoc]
theorem frees_iff (n : Nat) : ∀ (a : List D), frees n a = true ↔ ∀ d ∈ a, d.free n = true
  | [] => by simp [frees]
  | x :: a => by simp [frees, frees_iff n a]

section
variable {X : Cx}
/-! ### subscripts -/
theorem ix_ok (hu : X.A.units + 1 < cLine) : IxR X (rO2 X.Mg idxD) := by
  intro value slice pins s σ H x y v u Q I rx ry h hs
  obtain ⟨R, c, M, a, b, d, m, ha, hb, e, q⟩ := h
  unfold idxD at e
  have pos : ∀ {α : Type} {xs : List α} {i : Int} {z : α}, atI xs i = some z → ∃ j, ixN xs.length i = some j ∧ xs[j]? = some z := fun {α xs i z} e => by
    unfold atI at e
    exact Option.bind_eq_some_iff.mp e
  split at e
  · obtain ⟨p, ws, rfl, h1, h2, r1⟩ := rr_tup.mp ha
    obtain ⟨j, e1, e2⟩ := pos e
    obtain ⟨w, e3, r3⟩ := r1.get e2
    refine ix_tup value slice pins s σ H _ y v u Q I rx ry ⟨p, ws, _, w, rfl, rr_int.mp hb, SqT.of h1, ?_, q.same m r3⟩ hs
    unfold atI
    rw [r1.len, e1]
    exact e3
  · obtain ⟨p, ws, rfl, h1, r1⟩ := ha
    obtain ⟨j, e1, e2⟩ := pos e
    obtain ⟨w, e3, r3⟩ := r1.get e2
    refine ix_list value slice pins s σ H _ y v u Q I rx ry ⟨p, ws, _, w, rfl, rr_int.mp hb, SqL.of h1, ?_, q.same m r3⟩ hs
    unfold atI
    rw [r1.len, e1]
    exact e3
  · split at e
    · rename_i k
      replace e := Option.map_eq_some_iff.mp e
      obtain ⟨z, e, rfl⟩ := e
      exact ix_str value slice pins s σ H _ y v u Q I rx ry ⟨_, _, _, rr_str.mp ha, rr_int.mp hb, k, e, q.str m⟩ hs
    · cases e
  · split at e
    · rename_i k
      obtain ⟨p, o, rfl, g, r⟩ := dget_ok ha k (rr_key hb k)
      rw [e] at r
      obtain ⟨w, rfl, rw'⟩ := r
      obtain rfl : v = Value.ref p := rx
      exact PyProof.Rows.tail_any (dict_typeIs I g) slot_dict_getitem.lookup (d_getItem hu I g ry fun w' s3 I3 rw2 => ⟨w, H, I3, rw2, q.same m rw'⟩) hs
    · cases e
  · replace e := Option.map_eq_some_iff.mp e
    obtain ⟨z, e, rfl⟩ := e
    obtain ⟨p, rfl, h1⟩ := scr_rr ha
    obtain ⟨j, e1, e2⟩ := pos e
    refine ix_list value slice pins s σ H _ y v u Q I rx ry ⟨p, _, _, .int z, rfl, rr_int.mp hb, h1, ?_, q.int m⟩ hs
    unfold atI
    rw [List.length_map, e1]
    simp [e2]
  · cases e

/-! ### slices -/
theorem part_ok (o : Option Int) : partD (ptD o) = some o := by cases o <;> rfl
theorem cut_rp {mg : Mg} {H : Hp} {U : Addr → Prop} {c : List Addr} {ds : List D} {vs : List V} (h : RpL mg H U c ds vs) (lo hi : Option Int) : RpL mg H U c (cut ds lo hi) (cutV vs lo hi) := by
  unfold cut cutV
  rw [h.len]
  exact (h.drop _).take _
def rSl (mg : Mg) : V → Option Int → Option Int → Hp → VK → Prop := fun v lo hi H Q => ∃ R c M x d, CM mg R H c M ∧ Rr mg H (Lv R c M) c x v ∧ slcD x (ptD lo) (ptD hi) .non = some d ∧ Out mg R c M d H Q
theorem cut_all {α : Type} {xs : List α} {lo hi : Option Int} (h : HT.sIx xs.length 0 lo = 0 ∧ HT.sIx xs.length xs.length hi = xs.length) : cut xs lo hi = xs := by
  unfold cut
  rw [h.1, h.2]
  simp
theorem sl_ok : SlR X (rSl X.Mg) := by
  intro pins s σ H x v vl vu lo hi sl Q I rx hs pl pu h
  obtain ⟨R, c, M, a, d, m, ha, e, q⟩ := h
  unfold slcD at e
  split at e <;> try (cases e)
  · simp only [part_ok, Option.some.injEq] at e; subst e
    obtain ⟨p, ws, rfl, h1, r1⟩ := ha
    exact sl_list pins s σ H _ v vl vu lo hi sl Q I rx hs pl pu ⟨p, ws, rfl, SqL.of h1, fun l hl => q.lst m (cut_rp r1 lo hi) hl⟩
  · simp only [part_ok, Option.some.injEq] at e; subst e
    have ha' := ha
    obtain ⟨p, ws, rfl, h1, h2, r1⟩ := rr_tup.mp ha
    refine sl_tupA pins s σ H _ v vl vu lo hi sl Q I rx hs pl pu ⟨p, ws, rfl, SqT.of h1, fun z => ?_, fun _ l hl => q.tup m (cut_rp r1 lo hi) hl⟩
    rw [r1.len] at z
    refine q.same m ?_
    rw [cut_all z]
    exact ha'
  · simp only [part_ok, Option.some.injEq] at e; subst e
    obtain ⟨p, rfl, h1⟩ := scr_rr ha
    refine sl_list pins s σ H _ v vl vu lo hi sl Q I rx hs pl pu ⟨p, _, rfl, h1, fun l hl => q.lst m ?_ hl⟩
    have : ∀ ns : List Int, RpL X.Mg H (Lv R c M) c (ns.map .int) (ns.map V.int) := fun ns => by
      induction ns with
      | nil => exact RpL.nil
      | cons n r ih => exact RpL.cons (by simp [Rp]) ih
    have e2 : ∀ ns : List Int, cutV (ns.map V.int) lo hi = (cut ns lo hi).map V.int := fun ns => by
      unfold cutV cut
      rw [List.length_map, List.map_take, List.map_drop]
    rw [e2]
    exact this _
  · split at e
    · rename_i k
      simp only [part_ok] at *
      split at e
      · rename_i k
        simp only [Option.some.injEq] at e; subst e
        exact sl_str pins s σ H _ v vl vu lo hi sl Q I rx hs pl pu ⟨_, rr_str.mp ha, k, by have := q.str m; simp_all⟩
      · cases e
    · cases e
/-! ### methods -/
theorem find_ok (x : D) : ∀ {xs : List D} {j : Nat}, findD x xs = some j → ∃ z, (pys xs)[j]? = some z ∧ PyData.eqv z x.py = true ∧ ∀ (m : Nat) (z' : PyData), m < j → (pys xs)[m]? = some z' → PyData.eqv z' x.py = false
  | [], j, h => by simp [findD] at h
  | y :: ys, j, h => by
    simp only [findD] at h
    split at h
    · rename_i k
      simp only [Option.some.injEq] at h; subst h
      exact ⟨y.py, rfl, k, fun m z' hm => absurd hm (Nat.not_lt_zero _)⟩
    · rename_i k
      replace h := Option.map_eq_some_iff.mp h
      obtain ⟨i, h, rfl⟩ := h
      obtain ⟨z, h1, h2, h3⟩ := find_ok x h
      refine ⟨z, by simpa [pys] using h1, h2, fun m z' hm hz => ?_⟩
      cases m with
      | zero =>
        simp only [pys, List.getElem?_cons_zero, Option.some.injEq] at hz
        rw [← hz]
        simpa [eqD] using k
      | succ m => exact h3 m z' (by omega) (by simpa [pys] using hz)
def rMt (mg : Mg) (g : D → List D → Option D) : V → List V → Hp → VK → Prop := fun v vs H Q => ∃ R c M x xs d, CM mg R H c M ∧ Rr mg H (Lv R c M) c x v ∧ RrL mg H (Lv R c M) c xs vs ∧ g x xs = some d ∧ Out mg R c M d H Q
theorem mt_lindex (hu : X.A.units + 65 < cLine) : MtR X "list.index" (rMt X.Mg lindexD) := by
  intro pins s σ H v vs w us Q I rx rv h
  obtain ⟨R, c, M, x, xs, d, m, hx, hxs, e, q⟩ := h
  unfold lindexD at e
  split at e
  · split at e
    · rename_i k
      simp only [Bool.and_eq_true] at k
      replace e := Option.map_eq_some_iff.mp e
      obtain ⟨j, e, rfl⟩ := e
      obtain ⟨z, h1, h2, h3⟩ := find_ok _ e
      obtain ⟨y, rfl, hy⟩ := hxs.one
      have hx' := hx
      obtain ⟨p, ws, rfl, h4, r1⟩ := hx
      exact mt_indexD hu pins s σ H _ _ w us Q I rx rv ⟨p, y, _, _, j, z, rfl, rfl, hx'.dp (sh_lay k.2), hy.dp (sh_lay k.1), k.2, k.1, h1, h2, h3, q.int m⟩
    · cases e
  · cases e

/-- a method that changes a cell -/
def rMu (mg : Mg) (g : D → List D → Option (D × D)) : V → List V → Hp → VK → Prop := fun v vs H Q => ∃ R c M n a x xs y w, CM mg R H c M ∧ M[n]? = some (some x) ∧ v = .ref a ∧ c[n]? = some a ∧ RpL mg H (Lv R c M) c xs vs ∧ frees 0 xs = true ∧ g x xs = some (y, w) ∧
  ∀ u H', Aft mg R H c M (M.set n (some y)) H' c → Rp mg H' (Lv R c (M.set n (some y))) c w u → Q u H'
theorem CM.lstAt {mg : Mg} {R : Addr → Prop} {H : Hp} {c : List Addr} {M : Cs} (m : CM mg R H c M) {n : Nat} {a : Addr} {ds : List D} (hn : M[n]? = some (some (.lst ds))) (hc : c[n]? = some a) : ∃ vs, H a = some (.lst vs) ∧ RpL mg H (Lv R c M) c ds vs := by
  obtain ⟨b, e1, e2⟩ := m.obj n _ hn
  rw [hc] at e1; cases e1
  exact e2
theorem mu_append : MtR X "list.append" (rMu X.Mg appendD) := by
  intro pins s σ H v vs w us Q I rx rv h
  obtain ⟨R, c, M, n, a, x, xs, y, r, m, hn, rfl, hc, hxs, hf, e, q⟩ := h
  unfold appendD at e
  split at e
  · split at e
    · rename_i ds z k
      simp only [Option.some.injEq, Prod.mk.injEq] at e
      obtain ⟨rfl, rfl⟩ := e
      obtain ⟨ws, h1, h2⟩ := m.lstAt hn hc
      obtain ⟨u, t, rfl, h3, h4⟩ := RpL.cons_iff.mp hxs
      obtain rfl := RpL.nil_iff.mp h4
      refine mt_append pins s σ H _ _ w us Q I rx rv ⟨a, ws, u, rfl, rfl, h1, by rw [h2.len]; exact k, q _ _ (m.put hn hc ?_ fun g => ?_) (by simp [Rp])⟩
      · have := m.fre n _ hn
        simp only [D.free] at this ⊢
        rw [frees_append, this, Bool.true_and]; exact hf
      · exact ⟨_, upd_same, (h2.mono g).app (RpL.cons (h3.mono g) RpL.nil)⟩
    · cases e
  · cases e
theorem mu_extend : MtR X "list.extend" (rMu X.Mg extendD) := by
  intro pins s σ H v vs w us Q I rx rv h
  obtain ⟨R, c, M, n, a, x, xs, y, r, m, hn, rfl, hc, hxs, hf, e, q⟩ := h
  unfold extendD at e
  split at e
  · split at e
    · rename_i ds es k
      simp only [Option.some.injEq, Prod.mk.injEq] at e
      obtain ⟨rfl, rfl⟩ := e
      obtain ⟨ws, h1, h2⟩ := m.lstAt hn hc
      obtain ⟨u, t, rfl, h3, h4⟩ := RpL.cons_iff.mp hxs
      obtain rfl := RpL.nil_iff.mp h4
      simp only [Rp] at h3
      obtain ⟨b, zs, rfl, h5, h6, h7⟩ := h3
      refine mt_extend pins s σ H _ _ w us Q I rx rv ⟨a, b, ws, zs, rfl, rfl, h1, h5, by rw [h2.len, h7.len]; exact k, q _ _ (m.put hn hc ?_ fun g => ?_) (by simp [Rp])⟩
      · have := m.fre n _ hn
        simp only [D.free] at this ⊢
        simp only [frees, D.free, Bool.and_true] at hf
        rw [frees_append, this, Bool.true_and]; exact hf
      · exact ⟨_, upd_same, (h2.mono g).app (h7.mono g)⟩
    · cases e
  · cases e
theorem mu_pop : MtR X "list.pop" (rMu X.Mg popD) := by
  intro pins s σ H v vs w us Q I rx rv h
  obtain ⟨R, c, M, n, a, x, xs, y, r, m, hn, rfl, hc, hxs, hf, e, q⟩ := h
  unfold popD at e
  have fr : ∀ {ds es : List D}, M[n]? = some (some (.lst ds)) → (∀ d ∈ es, d ∈ ds) → (D.lst es).free 0 = true := fun {ds es} h1 h2 => by
    have := m.fre n _ h1
    simp only [D.free] at this ⊢
    rw [frees_iff] at this ⊢
    exact fun d hd => this d (h2 d hd)
  split at e
  · split at e
    · rename_i ds z k
      simp only [Option.some.injEq, Prod.mk.injEq] at e
      obtain ⟨rfl, rfl⟩ := e
      obtain ⟨ws, h1, h2⟩ := m.lstAt hn hc
      obtain rfl := RpL.nil_iff.mp hxs
      obtain ⟨u, h3, h4⟩ := h2.get k
      refine mt_pop pins s σ H _ _ w us Q I rx rv ⟨a, ws, u, rfl, rfl, h1, by rw [h2.len]; exact h3, ?_⟩
      have A := m.put (o := .lst ws.dropLast) hn hc (fr hn fun d hd => by rw [List.dropLast_eq_take] at hd; exact List.mem_of_mem_take hd) fun g => ⟨_, upd_same, (h2.mono g).dropLast⟩
      exact q _ _ A (h4.mono A.1.gr)
    · cases e
  · split at e
    · rename_i ds i k
      simp only [Bool.and_eq_true, decide_eq_true_eq] at k
      split at e
      · rename_i j ej
        split at e
        · rename_i z ez
          simp only [Option.some.injEq, Prod.mk.injEq] at e
          obtain ⟨rfl, rfl⟩ := e
          obtain ⟨ws, h1, h2⟩ := m.lstAt hn hc
          obtain ⟨u', t, rfl, h3, h4⟩ := RpL.cons_iff.mp hxs
          obtain rfl := RpL.nil_iff.mp h4
          simp only [Rp] at h3
          subst h3
          obtain ⟨u, h5, h6⟩ := h2.get ez
          refine mt_popAt pins s σ H _ _ w us Q I rx rv ⟨a, ws, i, j, u, rfl, rfl, h1, k.1, k.2, by rw [h2.len]; exact ej, h5, ?_⟩
          have A := m.put (o := .lst (ws.eraseIdx j)) hn hc (fr hn fun d hd => List.mem_of_mem_eraseIdx hd) fun g => ⟨_, upd_same, (h2.mono g).eraseIdx j⟩
          exact q _ _ A (h6.mono A.1.gr)
        · cases e
      · cases e
    · cases e
  · cases e
/-- o[i] = v, o a cell -/
def rSet (mg : Mg) : TSet := fun o i v H Q => ∃ R c M n a x y d z, CM mg R H c M ∧ M[n]? = some (some x) ∧ o = .ref a ∧ c[n]? = some a ∧ Rp mg H (Lv R c M) c y i ∧ Rp mg H (Lv R c M) c d v ∧ y.free 0 = true ∧ d.free 0 = true ∧ setD x y d = some z ∧
  ∀ H', Aft mg R H c M (M.set n (some z)) H' c → Q H'
theorem set_ok (hu : X.A.units + 1 < cLine) : PSet X (rSet X.Mg) := by
  intro pins s σ H o i v ov iv u Q I ro ri rv h
  obtain ⟨R, c, M, n, a, x, y, d, z, m, hn, rfl, hc, hy, hd, fy, fd, e, q⟩ := h
  unfold setD at e
  split at e
  · rename_i ds k
    replace e := Option.map_eq_some_iff.mp e
    obtain ⟨j, e, rfl⟩ := e
    obtain ⟨ws, h1, h2⟩ := m.lstAt hn hc
    simp only [Rp] at hy
    refine set_list pins s σ H _ i v ov iv u Q I ro ri rv ⟨a, ws, k, j, rfl, hy, h1, by rw [h2.len]; exact e, ?_⟩
    refine q _ (m.put hn hc ?_ fun g => ⟨_, upd_same, (h2.mono g).set j (hd.mono g)⟩)
    have := m.fre n _ hn
    simp only [D.free] at this ⊢
    rw [frees_iff] at this ⊢
    intro x hx
    rcases List.mem_or_eq_of_mem_set hx with hx | rfl
    · exact this x hx
    · exact fd
  · split at e
    · rename_i t ks us k
      simp only [Bool.and_eq_true, decide_eq_true_eq] at k
      simp only [Option.some.injEq] at e; subst e
      obtain ⟨b, e1, e2⟩ := m.obj n _ hn
      rw [hc] at e1; cases e1
      obtain rfl : ov = Value.ref a := ro
      have hfr := m.fre n _ hn
      simp only [D.free, Bool.and_eq_true] at hfr
      have hff : (D.dct t (putD y d ks us).1 (putD y d ks us).2).free 0 = true := by
        simp only [D.free, Bool.and_eq_true]
        unfold putD
        split
        · refine ⟨hfr.1, (frees_iff 0 _).mpr fun z hz => ?_⟩
          obtain ⟨p, hp, rfl⟩ := List.mem_map.mp hz
          split
          · exact fd
          · exact (frees_iff 0 _).mp hfr.2 _ (List.of_mem_zip hp).2
        · rw [frees_append, frees_append, hfr.1, hfr.2]
          simp [frees, fy, fd]
      simp only [CellOk] at e2
      rcases e2 with ⟨rfl, kvs, e3, rfl, r⟩ | ⟨rfl, kvs, e3, rfl, r⟩
      · obtain ⟨κ, rfl⟩ := isKeyK_ok (show isKeyK y = true from k.1)
        obtain rfl := hy.key
        refine d_setItem hu I (DPut.k e3 (by simpa using k.2)) ri rv fun s4 I4 => ⟨_, I4, q _ (m.put hn hc hff fun g => ?_)⟩
        obtain ⟨p1, p2⟩ := put_ok keyD_inj κ (r.mono g) (hd.mono g)
        exact .inl ⟨rfl, _, upd_same, p1, p2⟩
      · obtain ⟨κ, rfl⟩ := isKeyT_ok (show isKeyT y = true from k.1)
        obtain ⟨b, rfl, eb⟩ := hy.keyT
        refine d_setItem hu I (DPut.t e3 eb (by simpa using k.2)) ri rv fun s4 I4 => ⟨_, I4, q _ (m.put hn hc hff fun g => ?_)⟩
        obtain ⟨p1, p2⟩ := put_ok keyTD_inj κ (r.mono g) (hd.mono g)
        exact .inr ⟨rfl, _, upd_same, p1, p2⟩
    · cases e
  · cases e
end
end Mp

/-! Defs of the text, called where no guard stands. -/
namespace Mp
open PySem PySem.Spec PyProof.Rows L2

/-- a def keeps its promise, where no guard stands -/
structure FnG (P : Program) (w : World) (K : PySem.W.Frag) (mg : Str → Option Value) (base : Heap) (CX : CXT) (k : Nat) (f : Addr) (fd : FuncData) (ps : List Str) (sp : Sp) : Prop where
  len : ∀ vs H Q E, sp vs H Q E → vs.length = ps.length
  run : ∀ (A : Around) (outer : List Env) (s : Shared) (H : Hp) (args : Args) (us : List Value) (vs : List V) (Q : VK) (E : XK), Room k A → A.guards = some [] → Env0 P w K mg base A outer s H →
    BindsTo s fd args (ps.zip us) → Vals vs us → sp vs H Q E → codeAny (model P w) A (.call (.ref f) args) (CR CX outer P w H s Q E) s
theorem FnG.mono {P : Program} {w : World} {K : PySem.W.Frag} {mg : Str → Option Value} {base : Heap} {CX : CXT} {j k : Nat} {f : Addr} {fd : FuncData} {ps : List Str} {sp : Sp} (F : FnG P w K mg base CX j f fd ps sp) (h : j ≤ k) : FnG P w K mg base CX k f fd ps sp :=
  ⟨F.len, fun A outer s H args us vs Q E r => F.run A outer s H args us vs Q E (r.mono h)⟩

section
variable {CX : CXT} {P : Program} {w : World} {K : PySem.W.Frag} {mg : Str → Option Value} {base : Heap} {k : Nat} {f : Addr} {name qual : Str} {params : Arguments} {body : List Stmt} {scope : Scope} {dV kV doc pm cdv ct oc : Value} {an od : Option Addr} {osl : Array (Option Value)} {N ps : List Str} {sp : Sp}
/-- by its body -/
theorem fng_of (lk : K.lookup f = some ⟨oc, od, .func (PySem.W.fnOf name qual params body scope dV kV doc pm an cdv ct), osl⟩) (hcd : PySem.W.codeIn K cdv qual = true) (S : FnScope N ps scope) (len : ∀ vs H Q E, sp vs H Q E → vs.length = ps.length)
    (bd : ∀ (A : Around) (outer : List Env) (s : Shared) (H : Hp) (vs : List V) (Q : VK) (E : XK), Room k (A.deeper (envOfC qual scope s.heap.objs.size f cdv)) → A.guards = some [] → sp vs H Q E →
      ∃ t, PSs (cxOf CX P w K mg base N qual scope f cdv A outer s H E) body t ∧ t { nx := fun _ H' => Q .non H', rt := Q } (start N vs) H) :
    FnG P w K mg base CX (k + 1) f (PySem.W.fnOf name qual params body scope dV kV doc pm an cdv ct) ps sp := by
  refine ⟨len, fun A outer s H args us vs Q E room gd en bind rel wish => ?_⟩
  have inK : K.In s.heap := en.mod.kin.keeps fun b o e => (en.bs b o e).1
  have pars : ∀ z ∈ ps.zip us, scope.names.lookup z.1 = some .local ∨ (scope.names.lookup z.1 = some .cell ∧ ((cellsFrom (s.heap.objs.size + 1) scope.names []).lookup z.1).isSome = true) := by
    rintro ⟨n, v⟩ hz
    rcases S.par n (List.of_mem_zip hz).1 with q | q
    · exact .inl q
    · exact .inr ⟨q, PySem.W.cellsFrom_some _ _ _ (.inl q)⟩
  refine codeAny_call_function room.depth (inK _ _ lk) rfl S.co S.gen rfl (PySem.W.codeRec_of inK hcd) (bind _ _ _ _ ?_)
  refine wpAny_newFunctionEnv_cells S.kind pars fun env he s1 ic => ?_
  subst he
  refine ⟨(en.mod.nolimit.keeps fun b o e => (en.bs b o e).1).keeps ic.toInCall.keep, codeAny_func ?_⟩
  obtain ⟨t, ht, hq⟩ := bd A outer s H vs Q E (room.deeper _) gd wish
  have I0 : Inv (cxOf CX P w K mg base N qual scope f cdv A outer s H E) [] (start N vs) H s1 := inv_start S room.hd en (len _ _ _ _ wish) rel ic
  refine wpAny_mono (ht.run [] s1 (start N vs) H _ I0 hq) (fun fl s' hs => ?_) fun e s' hs => hs
  cases fl with
  | ret u => obtain ⟨v, σ', H', J, rv, q⟩ := hs; exact ⟨v, H', J.os, J.bare, J.base, J.hok, rv, q⟩
  | next => obtain ⟨σ', H', J, q⟩ := hs; exact ⟨.non, H', J.os, J.bare, J.base, J.hok, rfl, q⟩
  | brk => obtain ⟨_, _, _, z⟩ := hs; exact z.elim
  | cont => obtain ⟨_, _, _, z⟩ := hs; exact z.elim
end

/-! ### keywords -/
def permL {α : Type} (z : α) (perm : List Nat) (xs : List α) : List α := match perm with
  | [] => xs
  | _ => perm.map fun i => xs.getD i z
/-- a call's shape: n values by place, ks by name, to the places that perm tells -/
def KwB (K : PySem.W.Frag) (fd : FuncData) (ps : List Str) (n : Nat) (ks : List Str) (perm : List Nat) : Prop :=
  ∀ (s : Shared) (us ws : List Value), K.In s.heap → us.length = n → ws.length = ks.length → BindsTo s fd ⟨us, ks.zip ws⟩ (ps.zip (permL .none perm (us ++ ws)))
theorem map_rel {ix : Type} {f : ix → V} {g : ix → Value} (key : ∀ i, RelV (f i) (g i)) : ∀ p : List ix, Vals (p.map f) (p.map g)
  | [] => .nil
  | i :: p => .cons (key i) (map_rel key p)
theorem permL_rel {vs : List V} {us : List Value} (r : Vals vs us) (perm : List Nat) : Vals (permL .non perm vs) (permL .none perm us) := by
  unfold permL
  split
  · exact r
  · refine map_rel (fun i => ?_) _
    cases e : vs[i]? with
    | none => rw [List.getD_eq_getElem?_getD, List.getD_eq_getElem?_getD, e, Vals.none_of r e]; rfl
    | some v =>
      obtain ⟨u, e2, r2⟩ := r.get e
      rw [List.getD_eq_getElem?_getD, List.getD_eq_getElem?_getD, e, e2]; exact r2
theorem length_permL {α : Type} {z : α} {perm : List Nat} {xs ys : List α} : xs.length = ys.length → (permL z perm xs).length = (permL z perm ys).length := by
  intro h
  unfold permL
  split <;> simp [h]

/-- a call f(e, .., k = v, ..) -/
def tCallG (sp : Sp) (n m : Nat) (perm : List Nat) (E : L2.St → XK) (t tk : TA) : TE := fun σ H Q => t σ H fun vs H1 => tk σ H1 fun zs H2 => vs.length = n ∧ zs.length = m ∧ sp (permL .non perm (vs ++ zs)) H2 Q (E σ)
section
variable {X : Cx} {CX : CXT} {k n : Nat} {σ : L2.St} {f : Addr} {fd : FuncData} {ps ks : List Str} {perm : List Nat} {sp : Sp} {E : L2.St → XK} {x : Str} {p pos : Pos} {es : List Expr} {kws : List Keyword} {t tk : TA}
theorem run_fng {pins : List (Addr × Obj)} {σ : L2.St} {H : Hp} {s : Shared} {Q : VK} {us ws : List Value} {vs zs : List V} (F : FnG X.prog X.w X.K X.mg X.base CX k f fd ps sp) (room : Room k X.A) (gd : X.A.guards = some []) (kb : KwB X.K fd ps n ks perm) (out : PassesAt CX X σ (E σ))
    (I : Inv X pins σ H s) (r : Vals vs us) (rz : Vals zs ws) (l1 : vs.length = n) (l2 : zs.length = ks.length) (wish : sp (permL .non perm (vs ++ zs)) H Q (E σ)) : wpAny (model X.prog X.w) X.A (call (.ref f) us (ks.zip ws)) (EP X pins σ Q) X.xe s := by
  have b := kb s us ws I.kIn (r.length ▸ l1) (rz.length ▸ l2)
  refine wpAny_call (codeAny_mono (F.run X.A X.stack s H ⟨us, ks.zip ws⟩ (permL .none perm (us ++ ws)) _ Q (E σ) room gd I.env0 b (permL_rel (r.append rz) perm) wish) fun res s' hq => ?_)
  cases res with
  | error e => exact out pins H s e s' I hq
  | ok fl => cases fl with
    | ret u => exact I.after hq
    | _ => exact hq.elim
def plainE : Expr → Bool
  | .Starred .. => false
  | _ => true
theorem plain_star {e : Expr} {es : List Expr} {env : Env} (h : plainE e = true) : starEach (e :: es) env = (false, eval e env) :: starEach es env := by
  cases e <;> first | rfl | simp [plainE] at h
theorem plain_any {pos : Pos} {env : Env} : ∀ {es : List Expr}, es.all plainE = true → (backTo pos (starEach es env)).any (·.1) = false
  | [], _ => rfl
  | e :: es, h => by
    simp only [List.all_cons, Bool.and_eq_true] at h
    rw [plain_star h.1]
    show (false || (backTo pos (starEach es env)).any (·.1)) = false
    rw [plain_any h.2]; rfl
/-- keywords' names, all written -/
def kwNames (kws : List Keyword) : List Str := kws.filterMap fun k => match k with | ⟨some n, _, _⟩ => some n | _ => none
def kwAll (kws : List Keyword) : Bool := kws.all fun k => match k with | ⟨some _, _, _⟩ => true | _ => false
theorem kw_facts {pos : Pos} {env : Env} : ∀ {kws : List Keyword}, kwAll kws = true → (backToKw pos (keywordEach kws env)).all (·.1.isSome) = true ∧ (backToKw pos (keywordEach kws env)).any (·.1.isNone) = false ∧ (backToKw pos (keywordEach kws env)).filterMap (·.1) = kwNames kws
  | [], _ => ⟨rfl, rfl, rfl⟩
  | ⟨nm, v, q⟩ :: kws, h => by
    simp only [kwAll, List.all_cons, Bool.and_eq_true] at h
    obtain ⟨i1, i2, i3⟩ := kw_facts (pos := pos) (env := env) (kws := kws) h.2
    cases nm with
    | none => simp at h
    | some n =>
      refine ⟨?_, ?_, ?_⟩
      · show (true && (backToKw pos (keywordEach kws env)).all (·.1.isSome)) = true
        rw [i1]; rfl
      · show (false || (backToKw pos (keywordEach kws env)).any (·.1.isNone)) = false
        rw [i2]; rfl
      · show n :: (backToKw pos (keywordEach kws env)).filterMap (·.1) = _
        rw [i3]; rfl
theorem pe_callG (F : FnG X.prog X.w X.K X.mg X.base CX k f fd ps sp) (room : Room k X.A) (gd : X.A.guards = some []) (gl : Gl X x) (hm : X.mg x = some (.ref f)) (hk : PySem.W.keepIn X.K (.ref f) = true) (kb : KwB X.K fd ps n ks perm) (out : ∀ σ, PassesAt CX X σ (E σ))
    (ha : PA X es t) (hw : PK X kws tk) (pl : es.all plainE = true) (ka : kwAll kws = true) (kn : kwNames kws = ks) (h0 : es = [] → ∀ σ H Q, t σ H Q → Q [] H) (hd : (x == ("__debug__" : Str)) = false) : PE X (.Call (.Name x p) es kws pos) (tCallG sp n ks.length perm E t tk) := by
  refine ⟨fun pins s σ H Q I h => ?_⟩
  obtain ⟨f1, f2, f3⟩ := kw_facts (pos := pos) (env := X.env) ka
  refine wpAny_Call_Name_kw (ld_glob I gl hm ?_ hd)
  cases es with
  | nil =>
    refine PySem.W.callWith_KW0 (h₀ := X.base) I.ok.mod.kin hk f1 ?_ (by rw [f2]; rfl)
    refine thn (hw.run pos pins s σ H _ I (h0 rfl σ H _ h)) fun ws s2 ⟨zs, H2, I2, rz, l1, l2, q2⟩ => ⟨I2.kIn, ?_⟩
    rw [f3, kn]
    exact run_fng F room gd kb (out σ) I2 .nil rz l1 l2 q2
  | cons e es =>
    simp only [List.all_cons, Bool.and_eq_true] at pl
    refine PySem.W.callWith_KW (h₀ := X.base) I.ok.mod.kin hk f1 (thn (ha.run pos pins s σ H _ I h) fun us s1 ⟨vs, H1, I1, r, q⟩ => ?_) (by rw [f2, plain_any (by simp [pl])]; rfl) (plain_star pl.1)
    refine thn (hw.run pos pins s1 σ H1 _ I1 q) fun ws s2 ⟨zs, H2, I2, rz, l1, l2, q2⟩ => ⟨I2.kIn, ?_⟩
    rw [f3, kn]
    exact run_fng F room gd kb (out σ) I2 r rz l1 l2 q2
end
end Mp

/-! What an evaluation promises; the forms of expressions. -/
namespace Mp
open PySem PySem.Spec PyProof.Rows L2

/-- the module's names, the exceptions' fields, the wish about exceptions -/
structure Wk where
  mg : Mg
  att : Str → Option Str
  W : WX
abbrev Rl (α β : Type) := (Addr → Prop) → Hp → List Addr → Cs → α → β → Prop
def rlD (ω : Wk) : Rl D V := fun R H c M d v => Rp ω.mg H (Lv R c M) c d v
def rlL (ω : Wk) : Rl (List D) (List V) := fun R H c M d v => RpL ω.mg H (Lv R c M) c d v
def rlB : Rl Bool Bool := fun _ _ _ _ a b => a = b
def rlO : Rl (Option Int) (Option Int) := fun _ _ _ _ a b => a = b

section
variable {α β γ δ : Type} {ω : Wk} {rel : Rl α β} {rel2 : Rl γ δ} {R : Addr → Prop} {H : Hp} {c : List Addr} {M : Cs} {σ : L2.St}
def Post (ω : Wk) (rel : Rl α β) (R : Addr → Prop) (H : Hp) (c : List Addr) (M : Cs) (σ : L2.St) (Q : β → Hp → Prop) : Res α → Prop
  | .ok a M' => ∀ b H' c', Aft ω.mg R H c M M' H' c' → rel R H' c' M' a b → Q b H'
  | .ex e M' => ∀ cls dd H' c', Aft ω.mg R H c M M' H' c' → ExR ω.mg H' (Lv R c' M') c' ω.att cls dd e → ω.W cls dd σ H'
  | .bad => False
theorem Aft.trans {mg : Mg} {H1 H2 : Hp} {c1 c2 : List Addr} {M1 M2 : Cs} (a : Aft mg R H c M M1 H1 c1) (b : Aft mg R H1 c1 M1 M2 H2 c2) : Aft mg R H c M M2 H2 c2 := ⟨a.1.trans b.1, b.2⟩
theorem Aft.refl {mg : Mg} (m : CM mg R H c M) : Aft mg R H c M M H c := ⟨Stp.refl _ _ _ _, m⟩
theorem Post.shift {Q : β → Hp → Prop} {H1 : Hp} {c1 : List Addr} {M1 : Cs} (a : Aft ω.mg R H c M M1 H1 c1) : ∀ {r : Res α}, Post ω rel R H c M σ Q r → Post ω rel R H1 c1 M1 σ Q r
  | .ok _ _, h => fun b H' c' a2 r => h b H' c' (a.trans a2) r
  | .ex _ _, h => fun cls dd H' c' a2 r => h cls dd H' c' (a.trans a2) r
  | .bad, h => h.elim
theorem Post.bind {Q : δ → Hp → Prop} {Q1 : β → Hp → Prop} {g : α → Cs → Res γ} : ∀ {x : Res α}, Post ω rel2 R H c M σ Q (x.bind g) →
    (∀ a M1 b H1 c1, Aft ω.mg R H c M M1 H1 c1 → rel R H1 c1 M1 a b → Post ω rel2 R H1 c1 M1 σ Q (g a M1) → Q1 b H1) → Post ω rel R H c M σ Q1 x
  | .ok a M1, h, k => fun b H1 c1 a1 r => k a M1 b H1 c1 a1 r (h.shift a1)
  | .ex _ _, h, _ => h
  | .bad, h, _ => h.elim
theorem Post.mono {Q Q1 : β → Hp → Prop} : ∀ {x : Res α}, Post ω rel R H c M σ Q x → (∀ b H1, Q b H1 → Q1 b H1) → Post ω rel R H c M σ Q1 x
  | .ok _ _, h, k => fun b H1 c1 a1 r => k b H1 (h b H1 c1 a1 r)
  | .ex _ _, h, _ => h
  | .bad, h, _ => h.elim
theorem Post.opt {Q : β → Hp → Prop} {o : Option α} (h : Post ω rel R H c M σ Q (opt o M)) : ∃ d, o = some d ∧ ∀ b H' c', Aft ω.mg R H c M M H' c' → rel R H' c' M d b → Q b H' := by
  cases o with
  | none => exact h.elim
  | some d => exact ⟨d, rfl, h⟩
def Snd (ω : Wk) (rel : Rl α β) (f : En → Cs → Res α) : L2.St → Hp → (β → Hp → Prop) → Prop := fun σ H Q => ∃ R c σd M, CM ω.mg R H c M ∧ RpS ω.mg H (Lv R c M) c σd σ ∧ Post ω rel R H c M σ Q (f σd M)
end
abbrev tE (ω : Wk) (f : En → Cs → Res D) : TE := Snd ω (rlD ω) f
abbrev tB (ω : Wk) (f : En → Cs → Res Bool) : TT := Snd ω rlB f
abbrev tA (ω : Wk) (f : En → Cs → Res (List D)) : TA := Snd ω (rlL ω) f
theorem _root_.L2.PE.imp {X : Cx} {e : Expr} {t u : TE} (h : PE X e t) (k : ∀ σ H Q, u σ H Q → t σ H Q) : PE X e u := ⟨fun pins s σ H Q I q => h.run pins s σ H Q I (k σ H Q q)⟩
theorem _root_.L2.PT.imp {X : Cx} {e : Expr} {t u : TT} (h : PT X e t) (k : ∀ σ H Q, u σ H Q → t σ H Q) : PT X e u := ⟨fun pins s σ H Q I q => h.run pins s σ H Q I (k σ H Q q)⟩
theorem _root_.L2.PA.imp {X : Cx} {e : List Expr} {t u : TA} (h : PA X e t) (k : ∀ σ H Q, u σ H Q → t σ H Q) : PA X e u := ⟨fun pos pins s σ H Q I q => h.run pos pins s σ H Q I (k σ H Q q)⟩

section
variable {ω : Wk} {C : Cl} {σ : L2.St} {H : Hp} {Q : VK}
theorem Post.out {R : Addr → Prop} {c : List Addr} {M : Cs} {d : D} (h : ∀ b H', ∀ c', Aft ω.mg R H c M M H' c' → rlD ω R H' c' M d b → Q b H') : Out ω.mg R c M d H Q := fun w H' a r => h w H' c a r

/-! ### forms -/
theorem s_var {i : Nat} (h : tE ω (evE C (.var i)) σ H Q) : tVar i σ H Q := by
  obtain ⟨R, c, σd, M, m, rs, h⟩ := h
  rw [evE] at h
  split at h
  · rename_i d e
    obtain ⟨v, e2, r⟩ := rs.2 i d e
    exact ⟨v, e2, h v H c (Aft.refl m) r⟩
  · exact h.elim
theorem s_con {d : D} {v : V} (hv : ∀ mg H U c, Rp mg H U c d v) (h : tE ω (evE C (.con d)) σ H Q) : tC v σ H Q := by
  obtain ⟨R, c, σd, M, m, rs, h⟩ := h
  rw [evE] at h
  exact h v H c (Aft.refl m) (hv _ _ _ _)
theorem s_gl {x : Str} {d : D} {v : V} (hv : ∀ mg H U c, Rp mg H U c d v) (h : tE ω (evE C (.gl x d)) σ H Q) : tC v σ H Q := by
  obtain ⟨R, c, σd, M, m, rs, h⟩ := h
  rw [evE] at h
  exact h v H c (Aft.refl m) (hv _ _ _ _)
theorem s_bin {o : Operator} {a b : ME} (h : tE ω (evE C (.bin o a b)) σ H Q) : tOp (rO2 ω.mg (binD o)) (tE ω (evE C a)) (tE ω (evE C b)) σ H Q := by
  obtain ⟨R, c, σd, M, m, rs, h⟩ := h
  rw [evE] at h
  refine ⟨R, c, σd, M, m, rs, h.bind fun x M1 v H1 c1 a1 r1 h1 => ⟨R, c1, σd, M1, a1.2, rs.mono a1.1.gr, h1.bind fun y M2 u H2 c2 a2 r2 h2 => ?_⟩⟩
  obtain ⟨d, e, h3⟩ := h2.opt
  simp only [Option.bind_eq_some_iff] at e
  obtain ⟨x', e1, y', e2, e3⟩ := e
  exact ⟨R, c2, M2, x', y', d, a2.2, rd_ok a2.2 (r1.mono a2.1.gr) e1, rd_ok a2.2 r2 e2, e3, Post.out h3⟩
theorem s_cmp {o : CmpOp} {a b : ME} (h : tE ω (evE C (.cmp o a b)) σ H Q) : tOp (rO2 ω.mg (fun x y => (cmpD o x y).map .bl)) (tE ω (evE C a)) (tE ω (evE C b)) σ H Q := by
  obtain ⟨R, c, σd, M, m, rs, h⟩ := h
  rw [evE] at h
  refine ⟨R, c, σd, M, m, rs, h.bind fun x M1 v H1 c1 a1 r1 h1 => ⟨R, c1, σd, M1, a1.2, rs.mono a1.1.gr, h1.bind fun y M2 u H2 c2 a2 r2 h2 => ?_⟩⟩
  obtain ⟨d, e, h3⟩ := h2.opt
  simp only [Option.bind_eq_some_iff] at e
  obtain ⟨x', e1, y', e2, e3⟩ := e
  exact ⟨R, c2, M2, x', y', d, a2.2, rd_ok a2.2 (r1.mono a2.1.gr) e1, rd_ok a2.2 r2 e2, e3, Post.out h3⟩
theorem s_idx {a b : ME} (h : tE ω (evE C (.idx a b)) σ H Q) : tOp (rO2 ω.mg idxD) (tE ω (evE C a)) (tE ω (evE C b)) σ H Q := by
  obtain ⟨R, c, σd, M, m, rs, h⟩ := h
  rw [evE] at h
  refine ⟨R, c, σd, M, m, rs, h.bind fun x M1 v H1 c1 a1 r1 h1 => ⟨R, c1, σd, M1, a1.2, rs.mono a1.1.gr, h1.bind fun y M2 u H2 c2 a2 r2 h2 => ?_⟩⟩
  obtain ⟨d, e, h3⟩ := h2.opt
  simp only [Option.bind_eq_some_iff] at e
  obtain ⟨x', e1, y', e2, e3⟩ := e
  exact ⟨R, c2, M2, x', y', d, a2.2, rd_ok a2.2 (r1.mono a2.1.gr) e1, rd_ok a2.2 r2 e2, e3, Post.out h3⟩
theorem s_neg {a : ME} (h : tE ω (evE C (.neg a)) σ H Q) : tUn (rU fun i => .int (-i)) (tE ω (evE C a)) σ H Q := by
  obtain ⟨R, c, σd, M, m, rs, h⟩ := h
  rw [evE] at h
  refine ⟨R, c, σd, M, m, rs, h.bind fun x M1 v H1 c1 a1 r1 h1 => ?_⟩
  split at h1
  · rename_i i
    simp only [rlD, Rp] at r1
    exact ⟨i, r1, h1 _ H1 c1 (Aft.refl a1.2) (by simp [rlD, Rp])⟩
  · exact h1.elim
theorem truth_ok {K : PySem.W.Frag} {mg : Mg} {R : Addr → Prop} {c : List Addr} {M : Cs} {x : D} {v : V} {k : Bool} (m : CM mg R H c M) (r : Rp mg H (Lv R c M) c x v) (e : (rd M x).bind truthD = some k) : TruV K v H k := by
  simp only [Option.bind_eq_some_iff] at e
  obtain ⟨x', e1, e2⟩ := e
  have r' := rd_ok m r e1
  cases x' with
  | non => rw [rr_non] at r'; subst r'; simp [truthD] at e2; simp [TruV, e2]
  | bl b => rw [rr_bl] at r'; subst r'; simp [truthD] at e2; simp [TruV, e2]
  | int b => rw [rr_int] at r'; subst r'; simp [truthD] at e2; simp [TruV, e2]
  | str y =>
    rw [rr_str] at r'; subst r'
    simp only [truthD] at e2
    split at e2
    · rename_i z
      have e3 := Option.some.inj e2
      refine ⟨z, ?_⟩
      rw [← e3]
      by_cases hy : y.length = 0
      · simp [hy]
      · have : (y.length : Int) ≠ 0 := by omega
        have p : (y.length == 0) = false := beq_false_of_ne hy
        have q : ((y.length : Int) == 0) = false := beq_false_of_ne this
        simp [bne, p, q]
    · cases e2
  | tup xs =>
    obtain ⟨a, vs, rfl, h1, _, h3⟩ := rr_tup.mp r'
    simp [truthD] at e2
    have l := h3.len
    refine .inr (.inl ⟨vs, SqT.of h1, ?_⟩)
    cases vs <;> cases xs <;> simp at l e2 ⊢ <;> first | exact e2 | exact e2.symm
  | lst xs =>
    obtain ⟨a, vs, rfl, h1, h3⟩ := rr_lst.mp r'
    simp [truthD] at e2
    have l := h3.len
    refine .inl ⟨vs, SqL.of h1, ?_⟩
    cases vs <;> cases xs <;> simp at l e2 ⊢ <;> first | exact e2 | exact e2.symm
  | dct _ _ _ => simp [truthD] at e2
  | cell _ => simp [truthD] at e2
  | fn _ => simp [truthD] at e2
  | exc _ _ => simp [truthD] at e2
  | scr _ => simp [truthD] at e2
theorem TruV.one {K : PySem.W.Frag} {v : V} {k : Bool} (h : TruV K v H k) {Q : Bool → Hp → Prop} (q : Q k H) : ∃ k, TruV K v H k ∧ Q k H := ⟨k, h, q⟩
theorem s_not {K : PySem.W.Frag} {a : ME} (h : tE ω (evE C (.not (.tru a))) σ H Q) : tNotT K (tE ω (evE C a)) σ H Q := by
  obtain ⟨R, c, σd, M, m, rs, h⟩ := h
  rw [evE, evB, bind_assoc] at h
  refine ⟨R, c, σd, M, m, rs, h.bind fun x M1 v H1 c1 a1 r1 h1 => ?_⟩
  cases e : (rd M1 x).bind truthD with
  | none => rw [e] at h1; exact h1.elim
  | some k =>
    rw [e] at h1
    exact ⟨k, truth_ok a1.2 r1 e, h1 _ H1 c1 (Aft.refl a1.2) (by simp [rlD, Rp])⟩
theorem s_and {K : PySem.W.Frag} {a b : ME} (h : tE ω (evE C (.and a b)) σ H Q) : tAndT K (tE ω (evE C a)) (tE ω (evE C b)) σ H Q := by
  obtain ⟨R, c, σd, M, m, rs, h⟩ := h
  rw [evE] at h
  refine ⟨R, c, σd, M, m, rs, h.bind fun x M1 v H1 c1 a1 r1 h1 => ?_⟩
  cases e : (rd M1 x).bind truthD with
  | none => rw [e] at h1; exact h1.elim
  | some k =>
    rw [e] at h1
    refine ⟨k, truth_ok a1.2 r1 e, ?_⟩
    cases k with
    | true => rw [if_pos rfl]; exact ⟨R, c1, σd, M1, a1.2, rs.mono a1.1.gr, h1⟩
    | false => rw [if_neg (by decide)]; exact h1 _ H1 c1 (Aft.refl a1.2) r1
theorem s_or {K : PySem.W.Frag} {a b : ME} (h : tE ω (evE C (.or a b)) σ H Q) : tOrT K (tE ω (evE C a)) (tE ω (evE C b)) σ H Q := by
  obtain ⟨R, c, σd, M, m, rs, h⟩ := h
  rw [evE] at h
  refine ⟨R, c, σd, M, m, rs, h.bind fun x M1 v H1 c1 a1 r1 h1 => ?_⟩
  cases e : (rd M1 x).bind truthD with
  | none => rw [e] at h1; exact h1.elim
  | some k =>
    rw [e] at h1
    refine ⟨k, truth_ok a1.2 r1 e, ?_⟩
    cases k with
    | false => rw [if_neg (by decide)]; exact ⟨R, c1, σd, M1, a1.2, rs.mono a1.1.gr, h1⟩
    | true => rw [if_pos rfl]; exact h1 _ H1 c1 (Aft.refl a1.2) r1
theorem s_chain {o p : CmpOp} {a b d : ME} (h : tE ω (evE C (.chain o p a b d)) σ H Q) :
    tChain (rO2 ω.mg (fun x y => (cmpD o x y).map .bl)) (rO2 ω.mg (fun x y => (cmpD p x y).map .bl)) (tE ω (evE C a)) (tE ω (evE C b)) (tE ω (evE C d)) σ H Q := by
  obtain ⟨R, c, σd, M, m, rs, h⟩ := h
  rw [evE] at h
  refine ⟨R, c, σd, M, m, rs, h.bind fun x M1 v H1 c1 a1 r1 h1 => ⟨R, c1, σd, M1, a1.2, rs.mono a1.1.gr, h1.bind fun y M2 u H2 c2 a2 r2 h2 => ?_⟩⟩
  cases e : (rd M2 x).bind fun x' => (rd M2 y).bind fun y' => cmpD o x' y' with
  | none => rw [e] at h2; exact h2.elim
  | some k =>
    rw [e] at h2
    simp only [Option.bind_eq_some_iff] at e
    obtain ⟨x', e1, y', e2, e3⟩ := e
    refine ⟨R, c2, M2, x', y', .bl k, a2.2, rd_ok a2.2 (r1.mono a2.1.gr) e1, rd_ok a2.2 r2 e2, by show Option.map D.bl (cmpD o x' y') = _; rw [e3]; rfl, fun z H3 a3 r3 => ?_⟩
    simp only [Rp] at r3
    refine ⟨k, r3, ?_⟩
    cases k with
    | false => rw [if_neg (by decide)]; exact h2 _ H3 c2 a3 (by simp [rlD, Rp])
    | true =>
      rw [if_pos rfl]
      have rs3 := (rs.mono a1.1.gr).mono (a2.1.trans a3.1).gr
      refine ⟨R, c2, σd, M2, a3.2, rs3, (h2.shift a3).bind fun z M4 w H4 c4 a4 r4 h4 => ?_⟩
      obtain ⟨d, e, h5⟩ := h4.opt
      simp only [Option.bind_eq_some_iff] at e
      obtain ⟨y'', g1, z', g2, g3⟩ := e
      exact ⟨R, c4, M4, y'', z', d, a4.2, rd_ok a4.2 (r2.mono (a3.1.trans a4.1).gr) g1, rd_ok a4.2 r4 g2, g3, Post.out h5⟩
theorem s_ite {q : MB} {a b : ME} (h : tE ω (evE C (.ite q a b)) σ H Q) : tIf (tB ω (evB C q)) (tE ω (evE C a)) (tE ω (evE C b)) σ H Q := by
  obtain ⟨R, c, σd, M, m, rs, h⟩ := h
  rw [evE] at h
  refine ⟨R, c, σd, M, m, rs, h.bind fun x M1 v H1 c1 a1 r1 h1 => ?_⟩
  subst r1
  cases x with
  | true => rw [if_pos rfl] at h1 ⊢; exact ⟨R, c1, σd, M1, a1.2, rs.mono a1.1.gr, h1⟩
  | false => rw [if_neg (by decide)] at h1 ⊢; exact ⟨R, c1, σd, M1, a1.2, rs.mono a1.1.gr, h1⟩

/-! ### rows of expressions -/
theorem s_nil {Q : List V → Hp → Prop} (h : tA ω (evEs C .nil) σ H Q) : tNil σ H Q := by
  obtain ⟨R, c, σd, M, m, rs, h⟩ := h
  rw [evEs] at h
  exact h [] H c (Aft.refl m) (by simp [rlL, RpL])
theorem s_cons {a : ME} {r : MEs} {Q : List V → Hp → Prop} (h : tA ω (evEs C (.cons a r)) σ H Q) : tCons (tE ω (evE C a)) (tA ω (evEs C r)) σ H Q := by
  obtain ⟨R, c, σd, M, m, rs, h⟩ := h
  rw [evEs] at h
  refine ⟨R, c, σd, M, m, rs, h.bind fun x M1 v H1 c1 a1 r1 h1 => ⟨R, c1, σd, M1, a1.2, rs.mono a1.1.gr, h1.bind fun y M2 u H2 c2 a2 r2 h2 => ?_⟩⟩
  exact h2 _ H2 c2 (Aft.refl a2.2) (RpL.cons (r1.mono a2.1.gr) r2)
theorem s_tup {es : MEs} (h : tE ω (evE C (.tup es)) σ H Q) : tTup (tA ω (evEs C es)) σ H Q := by
  obtain ⟨R, c, σd, M, m, rs, h⟩ := h
  rw [evE] at h
  refine ⟨R, c, σd, M, m, rs, h.bind fun x M1 v H1 c1 a1 r1 h1 => ?_⟩
  split at h1
  · rename_i z
    refine ⟨by rw [r1.len]; exact z, fun p hp => (Out.tup a1.2 (Post.out (fun b H' c' => h1 b H' c')) r1 hp)⟩
  · exact h1.elim
end
end Mp

/-! New objects; cells. -/
namespace Mp
open PySem PySem.Spec PyProof.Rows L2

/-- the object o holds d -/
def NwO (mg : Mg) (H : Hp) (U : Addr → Prop) (c : List Addr) (o : HO) : D → Prop
  | .lst ds => ∃ vs, o = .lst vs ∧ RpL mg H U c ds vs
  | .dct t ks us => (t = false ∧ ∃ kvs : List (Key × V), o = .dK kvs ∧ ks = kvs.map (fun p => keyD p.1) ∧ RpL mg H U c us (kvs.map (·.2))) ∨
      (t = true ∧ ∃ kvs : List (List Key × V), o = .dT kvs ∧ ks = kvs.map (fun p => keyTD p.1) ∧ RpL mg H U c us (kvs.map (·.2)))
  | _ => False
def rlN (ω : Wk) : Rl D (Addr × HO) := fun R H c M d po => NwO ω.mg H (Lv R c M) c po.2 d
def isNw : D → Bool
  | .lst _ => true
  | .dct _ _ _ => true
  | _ => false
def nwD (d : D) (M : Cs) : Res D := if isNw d then .ok d M else .bad
/-- the result is a new object -/
def tF (ω : Wk) (f : En → Cs → Res D) : TE := fun σ H Q => Snd ω (rlN ω) (fun σd M => (f σd M).bind nwD) σ H fun po H1 => H1 po.1 = none → Q (.ref po.1) (upd H1 po.1 po.2)
section
variable {ω : Wk} {C : Cl} {σ : L2.St} {H : Hp} {Q : VK} {R : Addr → Prop} {c : List Addr} {M : Cs} {p : Addr} {o : HO} {d : D}
theorem NwO.mono {mg : Mg} {H' : Hp} {U U' : Addr → Prop} {c' : List Addr} (g : Gr H U c H' U' c') : ∀ {d : D}, NwO mg H U c o d → NwO mg H' U' c' o d
  | .lst ds, h => by
    obtain ⟨vs, e, r⟩ := h
    exact ⟨vs, e, r.mono g⟩
  | .dct t ks us, h => by
    rcases h with ⟨e, kvs, e1, e2, r⟩ | ⟨e, kvs, e1, e2, r⟩
    · exact .inl ⟨e, kvs, e1, e2, r.mono g⟩
    · exact .inr ⟨e, kvs, e1, e2, r.mono g⟩
  | .non, h => h.elim
  | .bl _, h => h.elim
  | .int _, h => h.elim
  | .str _, h => h.elim
  | .tup _, h => h.elim
  | .cell _, h => h.elim
  | .fn _, h => h.elim
  | .exc _ _, h => h.elim
  | .scr _, h => h.elim
theorem NwO.rp {mg : Mg} (m : CM mg R H c M) (hp : H p = none) (h : NwO mg H (Lv R c M) c o d) : Rp mg (upd H p o) (Lv R c M) c d (.ref p) := by
  have g := (Stp.new (o := o) m hp).gr
  cases d with
  | lst ds =>
    obtain ⟨vs, rfl, r⟩ := h
    simp only [Rp]
    exact ⟨p, vs, rfl, upd_same, m.fresh hp, r.mono g⟩
  | dct t ks us =>
    simp only [Rp]
    refine ⟨p, rfl, m.fresh hp, ?_⟩
    rcases h with ⟨e, kvs, rfl, e2, r⟩ | ⟨e, kvs, rfl, e2, r⟩
    · exact .inl ⟨e, kvs, upd_same, e2, r.mono g⟩
    · exact .inr ⟨e, kvs, upd_same, e2, r.mono g⟩
  | _ => exact h.elim
theorem s_fresh {f : En → Cs → Res D} (hf : ∀ σd M d M1, f σd M = .ok d M1 → isNw d = true) (h : tE ω f σ H Q) : tF ω f σ H Q := by
  obtain ⟨R, c, σd, M, m, rs, h⟩ := h
  refine ⟨R, c, σd, M, m, rs, ?_⟩
  dsimp only
  cases e : f σd M with
  | bad => rw [e] at h; exact h.elim
  | ex x M1 => rw [e] at h; exact h
  | ok d M1 =>
    rw [e] at h
    rw [ok_bind, nwD, if_pos (hf _ _ _ _ e)]
    intro po H1 c1 a r hp
    exact h _ _ c1 (a.trans ⟨Stp.new a.2 hp, a.2.new hp⟩) (r.rp a.2 hp)
theorem live_app {n : Nat} {d : D} : live (M ++ [some d]) n ↔ live M n ∨ n = M.length := by
  unfold live
  constructor
  · rintro ⟨x, e⟩
    rcases Nat.lt_trichotomy n M.length with q | q | q
    · rw [List.getElem?_append_left q] at e; exact .inl ⟨x, e⟩
    · exact .inr q
    · rw [List.getElem?_append_right (by omega), List.getElem?_eq_none (by simp; omega)] at e; cases e
  · rintro (⟨x, e⟩ | q)
    · exact ⟨x, by rw [List.getElem?_append_left (List.getElem?_eq_some_iff.mp e).1]; exact e⟩
    · exact ⟨d, by subst q; simp⟩
theorem live_lt {n : Nat} (h : live M n) : n < M.length := let ⟨_, e⟩ := h; (List.getElem?_eq_some_iff.mp e).1
theorem CM.grow {mg : Mg} (m : CM mg R H c M) (hp : H p = none) (h : NwO mg H (Lv R c M) c o d) (hf : d.free 0 = true) : Aft mg R H c M (M ++ [some d]) (upd H p o) (c ++ [p]) := by
  have cl : ∀ n, live M n → (c ++ [p])[n]? = c[n]? := fun n l => List.getElem?_append_left (by rw [m.len]; exact live_lt l)
  have cz : (c ++ [p])[M.length]? = some p := by rw [← m.len]; simp
  have lv : ∀ a o', H a = some o' → ¬ Lv R c M a → ¬ Lv R (c ++ [p]) (M ++ [some d]) a := fun a o' e n q => by
    rcases q with q | ⟨k, l, e2⟩
    · exact n (.inl q)
    · rcases live_app.mp l with l | rfl
      · rw [cl k l] at e2; exact n (.inr ⟨k, l, e2⟩)
      · rw [cz] at e2; cases e2; rw [hp] at e; cases e
  have st : Stp R H c M (upd H p o) (c ++ [p]) (M ++ [some d]) := ⟨fun a o' e n => ⟨by rw [upd_ne (ne_of_none e hp)]; exact e, lv a o' e n⟩, fun n hn => List.getElem?_append_left hn, (Stp.new (o := o) m hp).res⟩
  have pc : ∀ n a, live M n → c[n]? = some a → a ≠ p := fun n a ⟨x, e⟩ hc z => by
    obtain ⟨b, e1, e2⟩ := m.obj n x e
    rw [hc] at e1; cases e1
    obtain ⟨o', e3⟩ := e2.at
    rw [z, hp] at e3; cases e3
  refine ⟨st, ?_, ?_, ?_, (m.new hp).there, ?_, ?_⟩
  · simp [m.len]
  · intro n k a l1 l2 e1 e2
    rcases live_app.mp l1 with l1 | rfl <;> rcases live_app.mp l2 with l2 | rfl
    · rw [cl _ l1] at e1; rw [cl _ l2] at e2; exact m.inj n k a l1 l2 e1 e2
    · rw [cl _ l1] at e1; rw [cz] at e2; cases e2; exact (pc _ _ l1 e1 rfl).elim
    · rw [cl _ l2] at e2; rw [cz] at e1; cases e1; exact (pc _ _ l2 e2 rfl).elim
    · rfl
  · intro n a l e r
    rcases live_app.mp l with l | rfl
    · rw [cl _ l] at e; exact m.nres n a l e r
    · rw [cz] at e; cases e
      obtain ⟨o', e1, _⟩ := m.there _ r
      rw [hp] at e1; cases e1
  · intro n x e
    rcases live_app.mp ⟨x, e⟩ with l | rfl
    · rw [List.getElem?_append_left (live_lt l)] at e
      obtain ⟨a, e1, e2⟩ := m.obj n x e
      exact ⟨a, by rw [cl _ l]; exact e1, e2.mono st.gr (upd_ne (pc _ _ l e1))⟩
    · simp at e; subst e
      refine ⟨p, cz, ?_⟩
      have h' := h.mono st.gr
      cases d with
      | lst ds => obtain ⟨vs, rfl, r⟩ := h'; exact ⟨vs, upd_same, r⟩
      | dct t ks us =>
        rcases h' with ⟨e, kvs, rfl, e2, r⟩ | ⟨e, kvs, rfl, e2, r⟩
        · exact .inl ⟨e, kvs, upd_same, e2, r⟩
        · exact .inr ⟨e, kvs, upd_same, e2, r⟩
      | _ => exact h'.elim
  · intro n x e
    rcases live_app.mp ⟨x, e⟩ with l | rfl
    · rw [List.getElem?_append_left (live_lt l)] at e
      exact m.fre n x e
    · simp at e; subst e; exact hf
theorem s_new {e : ME} (h : tE ω (evE C (.new e)) σ H Q) : tF ω (evE C e) σ H Q := by
  obtain ⟨R, c, σd, M, m, rs, h⟩ := h
  have e0 : ((evE C e σd M).bind nwD).bind (fun x M1 => if frees 0 [x] then .ok (.cell M1.length) (M1 ++ [some x]) else .bad) = evE C (.new e) σd M := by
    rw [evE, bind_assoc]
    cases evE C e σd M with
    | ok x M1 => cases x <;> simp [nwD, isNw, frees, D.free] <;> rfl
    | _ => rfl
  rw [← e0] at h
  refine ⟨R, c, σd, M, m, rs, h.bind fun x M1 po H1 c1 a1 r1 h1 hp => ?_⟩
  have key : x.free 0 = true → Post ω (rlD ω) R H1 c1 M1 σ Q (.ok (.cell M1.length) (M1 ++ [some x])) → Q (.ref po.1) (upd H1 po.1 po.2) := fun hf h1 => by
    refine h1 _ _ (c1 ++ [po.1]) (a1.2.grow hp r1 hf) ?_
    simp only [rlD, Rp]
    exact ⟨_, rfl, by rw [← a1.2.len]; simp⟩
  split at h1
  · rename_i f; exact key (by simpa [frees] using f) h1
  · exact h1.elim
theorem s_frz {e : ME} (h : tE ω (evE C (.frz e)) σ H Q) : tE ω (evE C e) σ H Q := by
  obtain ⟨R, c, σd, M, m, rs, h⟩ := h
  rw [evE] at h
  refine ⟨R, c, σd, M, m, rs, h.bind fun x M1 v H1 c1 a1 r1 h1 => ?_⟩
  split at h1
  · rename_i n
    split at h1
    · rename_i d e
      refine h1 v H1 c1 a1.2.kill ?_
      have hn : M1[n]? = some (some d) := by
        simp only [rd] at e
        split at e
        · rename_i u he; simp at e; rw [he, e]
        · cases e
      simp only [rlD, Rp] at r1
      obtain ⟨a, rfl, hc⟩ := r1
      obtain ⟨b, e1, e2⟩ := a1.2.obj n d hn
      rw [hc] at e1; cases e1
      have nl : ¬ Lv R c1 (M1.set n none) a := fun q => by
        rcases q with q | ⟨k, l, ek⟩
        · exact a1.2.nres n a ⟨d, hn⟩ hc q
        · obtain ⟨l1, l2⟩ := live_kill.mp l
          exact l2 (a1.2.inj n k a ⟨d, hn⟩ l1 hc ek)
      have g := (a1.2.kill (n := n)).1.gr
      cases d <;> simp only [CellOk] at e2
      · obtain ⟨vs, e3, e4⟩ := e2
        simp only [rlD, Rp]
        exact ⟨a, vs, rfl, e3, nl, e4.mono g⟩
      · simp only [rlD, Rp]
        refine ⟨a, rfl, nl, ?_⟩
        rcases e2 with ⟨e, kvs, e1, e2, r⟩ | ⟨e, kvs, e1, e2, r⟩
        · exact .inl ⟨e, kvs, e1, e2, r.mono g⟩
        · exact .inr ⟨e, kvs, e1, e2, r.mono g⟩
    · exact h1.elim
  · exact h1 v H1 c1 (Aft.refl a1.2) r1
/-! ### forms that make a list -/
theorem s_lst {es : MEs} (h : tF ω (evE C (.lst es)) σ H Q) : tLst (tA ω (evEs C es)) σ H Q := by
  obtain ⟨R, c, σd, M, m, rs, h⟩ := h
  dsimp only at h
  rw [evE, bind_assoc] at h
  refine ⟨R, c, σd, M, m, rs, h.bind fun x M1 v H1 c1 a1 r1 h1 => ?_⟩
  split at h1
  · rename_i z
    exact ⟨by rw [r1.len]; exact z, fun p hp => h1 (p, .lst v) H1 c1 (Aft.refl a1.2) ⟨v, rfl, r1⟩ hp⟩
  · exact h1.elim
end
end Mp

/-! Operations that give a new list. -/
namespace Mp
open PySem PySem.Spec PyProof.Rows L2

/-- d, a list, in a new object -/
def OutF (mg : Mg) (R : Addr → Prop) (c : List Addr) (M : Cs) (d : D) (H : Hp) (Q : VK) : Prop := ∀ ds vs p, d = .lst ds → RpL mg H (Lv R c M) c ds vs → H p = none → Q (.ref p) (upd H p (.lst vs))
def rBF (mg : Mg) (g : List D → Option D) : List V → Hp → VK → Prop := fun vs H Q => ∃ R c M xs d, CM mg R H c M ∧ RrL mg H (Lv R c M) c xs vs ∧ g xs = some d ∧ OutF mg R c M d H Q
def rOF (mg : Mg) (g : D → D → Option D) : R2 := fun v u H Q => ∃ R c M x y d, CM mg R H c M ∧ Rr mg H (Lv R c M) c x v ∧ Rr mg H (Lv R c M) c y u ∧ g x y = some d ∧ OutF mg R c M d H Q
section
variable {X : Cx}
theorem bltF_sorted (hu : X.A.units + 80 < cLine) : CallR X (.builtin "sorted") (rBF X.Mg sortedD) := by
  intro pins s σ H vs us Q I r h
  obtain ⟨R, c, M, xs, d, m, hx, e, q⟩ := h
  unfold sortedD at e
  split at e
  · split at e
    · rename_i ys k
      simp only [Option.some.injEq] at e; subst e
      simp only [sortOk, Bool.and_eq_true, decide_eq_true_eq] at k
      obtain ⟨k1, k2, k3⟩ := datOk_ok k.1
      obtain ⟨v, rfl, hv⟩ := hx.one
      obtain ⟨p, ws, rfl, h1, r1⟩ := hv
      obtain ⟨u, rfl, ru⟩ := vals1 r
      obtain rfl : u = Value.ref p := ru
      obtain ⟨its, rv, hl, hz⟩ := I.list (SqL.of (K := X.K) h1)
      refine PySem.W.sorted_dataAny (enc := D.py) hl.isList (each_rp r1 rv) (each_rd I r1 rv k1) k3.1 k3.2 k.2 (fun b hb => ?_) fun out hlen he => ?_
      · have hs := k1
        simp only [shs, List.all_eq_true] at hs
        have := sh_depth (hs b hb)
        omega
      · obtain ⟨zs, rz, rp⟩ := rp_each he
        obtain ⟨ep, he'⟩ := PyProof.Rows.sortedAll_at s.heap its out.toArray
        have fr : H (s.heap.objs.size + 1) = none := I.hok.fresh (Nat.le_succ _)
        refine ⟨.ref (s.heap.objs.size + 1), upd H (s.heap.objs.size + 1) (.lst zs), I.laid (t' := s.toks) (fun b o q => PyProof.Rows.sortedAll_old q) (Nat.le_succ _) ⟨?_, out, ep, rz, he'⟩, rfl, ?_⟩
        · rw [rz.length, hlen]; exact k.2
        · exact q _ zs _ rfl rp fr
    · cases e
  · cases e
theorem bltF_list (hc : X.calm = true) : CallR X (.type "list") (rBF X.Mg listD) := by
  intro pins s σ H vs us Q I r h
  obtain ⟨R, c, M, xs, d, m, hx, e, q⟩ := h
  unfold listD at e
  split at e
  · simp only [Option.some.injEq] at e; subst e
    obtain ⟨v, rfl, hv⟩ := hx.one
    obtain ⟨p, ws, rfl, h1, r1⟩ := hv
    exact call_list_of pins s σ H _ us Q I r ⟨p, ws, rfl, .inl (SqL.of h1), fun l hl => q _ _ _ rfl r1 hl⟩
  · simp only [Option.some.injEq] at e; subst e
    obtain ⟨v, rfl, hv⟩ := hx.one
    obtain ⟨p, ws, rfl, h1, _, r1⟩ := rr_tup.mp hv
    exact call_list_of pins s σ H _ us Q I r ⟨p, ws, rfl, .inr (SqT.of h1), fun l hl => q _ _ _ rfl r1 hl⟩
  · simp only [Option.some.injEq] at e; subst e
    obtain ⟨v, rfl, hv⟩ := hx.one
    obtain ⟨p, rfl, h2⟩ := hv
    rcases h2 with ⟨rfl, kvs, e1, rfl, _⟩ | ⟨rfl, kvs, e1, rfl, _⟩
    · exact call_list_dK hc pins s σ H _ us Q I r ⟨p, kvs, rfl, e1, fun l hl => q _ _ _ rfl (keys_rp kvs) hl⟩
    · exact call_list_dT hc pins s σ H _ us Q I r ⟨p, kvs, rfl, .inl e1, fun l bs hl hk => q _ _ _ rfl (keyTs_rp m hk) hl⟩
  · cases e
def addL (x y : D) : Option D := match x with
  | .lst _ => binD .Add x y
  | _ => none
def mulL (x y : D) : Option D := match x with
  | .lst _ => binD .Mult x y
  | _ => none
theorem opF_add : OpR X (binaryOp .Add) (rOF X.Mg addL) := by
  intro pins s σ H x y v u Q I rx ry h
  obtain ⟨R, c, M, a, b, d, m, ha, hb, e, q⟩ := h
  unfold addL at e
  split at e
  · cases b <;> simp only [binD] at e <;> try contradiction
    split at e
    · rename_i k
      simp at e; subst e
      obtain ⟨p1, vs, rfl, h1, r1⟩ := ha
      obtain ⟨p2, us, rfl, h2, r2⟩ := hb
      exact op_cat pins s σ H _ _ v u Q I rx ry ⟨p1, p2, vs, us, rfl, rfl, h1, h2, by rw [r1.len, r2.len]; exact k, fun p hp => q _ _ _ rfl (r1.app r2) hp⟩
    · cases e
  · cases e
theorem opF_mul : OpR X (binaryOp .Mult) (rOF X.Mg mulL) := by
  intro pins s σ H x y v u Q I rx ry h
  obtain ⟨R, c, M, a, b, d, m, ha, hb, e, q⟩ := h
  unfold mulL at e
  split at e
  · cases b <;> simp only [binD] at e <;> try contradiction
    split at e
    · rename_i k
      simp at e; subst e
      simp only [Bool.and_eq_true, decide_eq_true_eq] at k
      obtain ⟨p1, vs, rfl, h1, r1⟩ := ha
      exact op_rep pins s σ H _ y v u Q I rx ry ⟨p1, _, vs, rfl, rr_int.mp hb, h1, k.1.1, k.1.2, by rw [r1.len]; exact k.2, fun p hp => q _ _ _ rfl (r1.rep _) hp⟩
    · cases e
  · cases e
/-! ### the forms -/
variable {ω : Wk} {C : Cl} {σ : L2.St} {H : Hp} {Q : VK}
theorem addL_of {x y d : D} (e : binD .Add x y = some d) (n : isNw d = true) : addL x y = some d := by
  cases x <;> cases y <;> simp only [binD] at e <;> first | contradiction | (cases e; cases n) | exact e | (split at e <;> cases e; cases n)
theorem mulL_of {x y d : D} (e : binD .Mult x y = some d) (n : isNw d = true) : mulL x y = some d := by
  cases x <;> cases y <;> simp only [binD] at e <;> first | contradiction | (cases e; cases n) | exact e | (split at e <;> cases e; cases n)
theorem nw_opt {R : Addr → Prop} {c : List Addr} {M : Cs} {o : Option D} {Q : (Addr × HO) → Hp → Prop} (h : Post ω (rlN ω) R H c M σ Q ((opt o M).bind nwD)) : ∃ d, o = some d ∧ isNw d = true ∧ ∀ b H' c', Aft ω.mg R H c M M H' c' → rlN ω R H' c' M d b → Q b H' := by
  cases o with
  | none => exact h.elim
  | some d =>
    rw [opt_some, ok_bind, nwD] at h
    split at h
    · rename_i n; exact ⟨d, rfl, n, h⟩
    · exact h.elim
theorem sF_bin {o : Operator} {g : D → D → Option D} (hg : ∀ x y d, binD o x y = some d → isNw d = true → g x y = some d) {a b : ME} (h : tF ω (evE C (.bin o a b)) σ H Q) : tOp (rOF ω.mg g) (tE ω (evE C a)) (tE ω (evE C b)) σ H Q := by
  obtain ⟨R, c, σd, M, m, rs, h⟩ := h
  dsimp only at h
  rw [evE, bind_assoc] at h
  refine ⟨R, c, σd, M, m, rs, h.bind fun x M1 v H1 c1 a1 r1 h1 => ⟨R, c1, σd, M1, a1.2, rs.mono a1.1.gr, ?_⟩⟩
  rw [bind_assoc] at h1
  refine h1.bind fun y M2 u H2 c2 a2 r2 h2 => ?_
  obtain ⟨d, e, n, h3⟩ := nw_opt h2
  simp only [Option.bind_eq_some_iff] at e
  obtain ⟨x', e1, y', e2, e3⟩ := e
  exact ⟨R, c2, M2, x', y', d, a2.2, rd_ok a2.2 (r1.mono a2.1.gr) e1, rd_ok a2.2 r2 e2, hg _ _ _ e3 n, fun ds vs p e r hp => h3 (p, .lst vs) H2 c2 (Aft.refl a2.2) (by subst e; exact ⟨vs, rfl, r⟩) hp⟩
theorem sF_blt {b : Bf} {es : MEs} (h : tF ω (evE C (.blt b es)) σ H Q) : tCB (rBF ω.mg (bltD b)) (tA ω (evEs C es)) σ H Q := by
  obtain ⟨R, c, σd, M, m, rs, h⟩ := h
  dsimp only at h
  rw [evE, bind_assoc] at h
  refine ⟨R, c, σd, M, m, rs, h.bind fun x M1 v H1 c1 a1 r1 h1 => ?_⟩
  obtain ⟨d, e, n, h3⟩ := nw_opt h1
  simp only [Option.bind_eq_some_iff] at e
  obtain ⟨xs, e1, e2⟩ := e
  exact ⟨R, c1, M1, xs, d, a1.2, rds_ok a1.2 r1 e1, e2, fun ds vs p e r hp => h3 (p, .lst vs) H1 c1 (Aft.refl a1.2) (by subst e; exact ⟨vs, rfl, r⟩) hp⟩
theorem s_blt {b : Bf} {es : MEs} (h : tE ω (evE C (.blt b es)) σ H Q) : tCB (rB ω.mg (bltD b)) (tA ω (evEs C es)) σ H Q := by
  obtain ⟨R, c, σd, M, m, rs, h⟩ := h
  rw [evE] at h
  refine ⟨R, c, σd, M, m, rs, h.bind fun x M1 v H1 c1 a1 r1 h1 => ?_⟩
  obtain ⟨d, e, h3⟩ := h1.opt
  simp only [Option.bind_eq_some_iff] at e
  obtain ⟨xs, e1, e2⟩ := e
  exact ⟨R, c1, M1, xs, d, a1.2, rds_ok a1.2 r1 e1, e2, Post.out h3⟩
end
end Mp

/-! Slices, methods, calls, tests, rows with stars. -/
namespace Mp
open PySem PySem.Spec PyProof.Rows L2
section
variable {ω : Wk} {C : Cl} {σ : L2.St} {H : Hp} {Q : VK} {X : Cx}

/-! ### tests -/
theorem s_tru {K : PySem.W.Frag} {e : ME} {Q : Bool → Hp → Prop} (h : tB ω (evB C (.tru e)) σ H Q) : tE ω (evE C e) σ H fun x H' => ∃ k, TruV K x H' k ∧ Q k H' := by
  obtain ⟨R, c, σd, M, m, rs, h⟩ := h
  rw [evB] at h
  refine ⟨R, c, σd, M, m, rs, h.bind fun x M1 v H1 c1 a1 r1 h1 => ?_⟩
  obtain ⟨k, e1, h3⟩ := h1.opt
  exact ⟨k, truth_ok a1.2 r1 e1, h3 k H1 c1 (Aft.refl a1.2) rfl⟩
/-- a form whose value is a bool -/
theorem s_truB {e : ME} (hb : ∀ σd M d M1, evE C e σd M = .ok d M1 → ∃ b, d = .bl b) {Q : Bool → Hp → Prop} (h : tB ω (evB C (.tru e)) σ H Q) : tE ω (evE C e) σ H fun x H' => ∃ k, x = .bl k ∧ Q k H' := by
  obtain ⟨R, c, σd, M, m, rs, h⟩ := h
  rw [evB] at h
  refine ⟨R, c, σd, M, m, rs, ?_⟩
  cases e1 : evE C e σd M with
  | bad => rw [e1] at h; exact h.elim
  | ex x M1 => rw [e1] at h; exact h
  | ok d M1 =>
    obtain ⟨b, rfl⟩ := hb _ _ _ _ e1
    rw [e1] at h
    intro v H1 c1 a1 r1
    simp only [rlD, Rp] at r1
    exact ⟨b, r1, h b H1 c1 a1 rfl⟩
theorem cmp_bl {o : CmpOp} {a b : ME} {σd : En} {M : Cs} {d : D} {M1 : Cs} (h : evE C (.cmp o a b) σd M = .ok d M1) : ∃ b, d = .bl b := by
  rw [evE] at h
  cases e1 : evE C a σd M with
  | ok x M2 =>
    rw [e1, ok_bind] at h
    cases e2 : evE C b σd M2 with
    | ok y M3 =>
      rw [e2, ok_bind] at h
      cases e3 : (rd M3 x).bind fun x' => (rd M3 y).bind fun y' => (cmpD o x' y').map D.bl with
      | none => rw [e3] at h; cases h
      | some z =>
        rw [e3] at h; cases h
        simp only [Option.bind_eq_some_iff, Option.map_eq_some_iff] at e3
        obtain ⟨_, _, _, _, b, _, rfl⟩ := e3
        exact ⟨b, rfl⟩
    | _ => rw [e2] at h; cases h
  | _ => rw [e1] at h; cases h
theorem chain_bl {o p : CmpOp} {a b z : ME} {σd : En} {M : Cs} {d : D} {M1 : Cs} (h : evE C (.chain o p a b z) σd M = .ok d M1) : ∃ b, d = .bl b := by
  rw [evE] at h
  cases e1 : evE C a σd M with
  | ok x M2 =>
    rw [e1, ok_bind] at h
    cases e2 : evE C b σd M2 with
    | ok y M3 =>
      rw [e2, ok_bind] at h
      split at h
      · cases e4 : evE C z σd M3 with
        | ok w M4 =>
          rw [e4, ok_bind] at h
          cases e3 : (rd M4 y).bind fun x' => (rd M4 w).bind fun y' => (cmpD p x' y').map D.bl with
          | none => rw [e3] at h; cases h
          | some z =>
            rw [e3] at h; cases h
            simp only [Option.bind_eq_some_iff, Option.map_eq_some_iff] at e3
            obtain ⟨_, _, _, _, b, _, rfl⟩ := e3
            exact ⟨b, rfl⟩
        | _ => rw [e4] at h; cases h
      · cases h; exact ⟨_, rfl⟩
      · cases h
    | _ => rw [e2] at h; cases h
  | _ => rw [e1] at h; cases h
theorem s_bnot {a : MB} {Q : Bool → Hp → Prop} (h : tB ω (evB C (.not a)) σ H Q) : tNot (tB ω (evB C a)) σ H Q := by
  obtain ⟨R, c, σd, M, m, rs, h⟩ := h
  rw [evB] at h
  refine ⟨R, c, σd, M, m, rs, h.bind fun x M1 v H1 c1 a1 r1 h1 => ?_⟩
  subst r1
  exact h1 _ H1 c1 (Aft.refl a1.2) rfl
theorem s_band {a b : MB} {Q : Bool → Hp → Prop} (h : tB ω (evB C (.and a b)) σ H Q) : tAnd (tB ω (evB C a)) (tB ω (evB C b)) σ H Q := by
  obtain ⟨R, c, σd, M, m, rs, h⟩ := h
  rw [evB] at h
  refine ⟨R, c, σd, M, m, rs, h.bind fun x M1 v H1 c1 a1 r1 h1 => ?_⟩
  subst r1
  cases x with
  | true => rw [if_pos rfl] at h1 ⊢; exact ⟨R, c1, σd, M1, a1.2, rs.mono a1.1.gr, h1⟩
  | false => rw [if_neg (by decide)] at h1 ⊢; exact h1 _ H1 c1 (Aft.refl a1.2) rfl
theorem s_bor {a b : MB} {Q : Bool → Hp → Prop} (h : tB ω (evB C (.or a b)) σ H Q) : tOr (tB ω (evB C a)) (tB ω (evB C b)) σ H Q := by
  obtain ⟨R, c, σd, M, m, rs, h⟩ := h
  rw [evB] at h
  refine ⟨R, c, σd, M, m, rs, h.bind fun x M1 v H1 c1 a1 r1 h1 => ?_⟩
  subst r1
  cases x with
  | false => rw [if_neg (by decide)] at h1 ⊢; exact ⟨R, c1, σd, M1, a1.2, rs.mono a1.1.gr, h1⟩
  | true => rw [if_pos rfl] at h1 ⊢; exact h1 _ H1 c1 (Aft.refl a1.2) rfl
theorem pw_of {op : BoolOp} {es : List Expr} {pos : Pos} {t : TT} (h : PT X (.BoolOp op es pos) t) : PW X (.BoolOp op es pos) t := ⟨fun _ pins s σ H Q I q => h.run pins s σ H Q I q⟩

/-! ### stars, slices -/
theorem s_star {K : PySem.W.Frag} {a : ME} {r : MEs} {Q : List V → Hp → Prop} (h : tA ω (evEs C (.star a r)) σ H Q) : StX.tStar K (tE ω (evE C a)) (tA ω (evEs C r)) σ H Q := by
  obtain ⟨R, c, σd, M, m, rs, h⟩ := h
  rw [evEs] at h
  refine ⟨R, c, σd, M, m, rs, h.bind fun x M1 v H1 c1 a1 r1 h1 => ?_⟩
  have key : ∀ ys vs, RpL ω.mg H1 (Lv R c1 M1) c1 ys vs → Post ω (rlL ω) R H1 c1 M1 σ Q ((evEs C r σd M1).bind fun xs M2 => .ok (ys ++ xs) M2) → tA ω (evEs C r) σ H1 fun zs H2 => Q (vs ++ zs) H2 := fun ys vs rl h1 =>
    ⟨R, c1, σd, M1, a1.2, rs.mono a1.1.gr, h1.bind fun y M2 u H2 c2 a2 r2 h2 => h2 _ H2 c2 (Aft.refl a2.2) ((rl.mono a2.1.gr).app r2)⟩
  split at h1
  · rename_i ys e
    obtain ⟨p, vs, rfl, e1, _, e3⟩ := rr_tup.mp (rd_ok a1.2 r1 e)
    exact ⟨p, vs, rfl, .inl (SqT.of e1), key ys vs e3 h1⟩
  · rename_i ys e
    obtain ⟨p, vs, rfl, e1, e3⟩ := rr_lst.mp (rd_ok a1.2 r1 e)
    exact ⟨p, vs, rfl, .inr (SqL.of e1), key ys vs e3 h1⟩
  · exact h1.elim
/-- a slice's part -/
abbrev tO (ω : Wk) (f : En → Cs → Res (Option Int)) : TO := Snd ω rlO f
theorem o_nil {Q : Option Int → Hp → Prop} (h : tO ω (evO C .nil) σ H Q) : tNoPart σ H Q := by
  obtain ⟨R, c, σd, M, m, rs, h⟩ := h
  rw [evO] at h
  exact h none H c (Aft.refl m) rfl
theorem o_one {e : ME} {Q : Option Int → Hp → Prop} (h : tO ω (evO C (.one e)) σ H Q) : tPart (tE ω (evE C e)) σ H Q := by
  obtain ⟨R, c, σd, M, m, rs, h⟩ := h
  rw [evO] at h
  refine ⟨R, c, σd, M, m, rs, h.bind fun x M1 v H1 c1 a1 r1 h1 => ?_⟩
  obtain ⟨d, e, h3⟩ := h1.opt
  cases x <;> simp only [intD?, Option.some.injEq, reduceCtorEq] at e
  subst e
  simp only [rlD, Rp] at r1
  exact ⟨_, r1, h3 _ H1 c1 (Aft.refl a1.2) rfl⟩
theorem _root_.L2.PO.imp {X : Cx} {e : Option Expr} {t u : TO} (h : PO X e t) (k : ∀ σ H Q, u σ H Q → t σ H Q) : PO X e u := ⟨fun pins s σ H Q I q => h.run pins s σ H Q I (k σ H Q q)⟩
theorem s_slc {a : ME} {lo hi : MO} (h : tE ω (evE C (.slc a lo hi)) σ H Q) : tSl (rSl ω.mg) (tE ω (evE C a)) (tO ω (evO C lo)) (tO ω (evO C hi)) σ H Q := by
  obtain ⟨R, c, σd, M, m, rs, h⟩ := h
  rw [evE] at h
  refine ⟨R, c, σd, M, m, rs, h.bind fun x M1 v H1 c1 a1 r1 h1 => ⟨R, c1, σd, M1, a1.2, rs.mono a1.1.gr, h1.bind fun l M2 l' H2 c2 a2 r2 h2 => ?_⟩⟩
  refine ⟨R, c2, σd, M2, a2.2, (rs.mono a1.1.gr).mono a2.1.gr, h2.bind fun u M3 u' H3 c3 a3 r3 h3 => ?_⟩
  obtain rfl : l = l' := r2
  obtain rfl : u = u' := r3
  obtain ⟨d, e, h4⟩ := h3.opt
  simp only [Option.bind_eq_some_iff] at e
  obtain ⟨x', e1, e2⟩ := e
  exact ⟨R, c3, M3, x', d, a3.2, rd_ok a3.2 (r1.mono (a2.1.trans a3.1).gr) e1, e2, Post.out h4⟩

/-! ### methods -/
theorem okL_at {mg : Mg} {R : Addr → Prop} {c : List Addr} {M : Cs} {x : D} {v : V} {K : PySem.W.Frag} (m : CM mg R H c M) (r : Rp mg H (Lv R c M) c x v) (e : okL (rd M x) = true) : tyV K "list" v H := by
  cases e1 : rd M x with
  | none => rw [e1] at e; cases e
  | some d =>
    rw [e1] at e
    cases d <;> simp only [okL] at e <;> try contradiction
    obtain ⟨p, vs, rfl, h1, _⟩ := rr_lst.mp (rd_ok m r e1)
    exact .inl ⟨rfl, vs, SqL.of h1⟩
theorem s_lindex {K : PySem.W.Frag} {o : ME} {es : MEs} (h : tE ω (evE C (.met .lindex o es)) σ H Q) : tBM K "list" (rMt ω.mg lindexD) (tE ω (evE C o)) (tA ω (evEs C es)) σ H Q := by
  obtain ⟨R, c, σd, M, m, rs, h⟩ := h
  rw [evE] at h
  refine ⟨R, c, σd, M, m, rs, h.bind fun x M1 v H1 c1 a1 r1 h1 => ?_⟩
  split at h1
  · rename_i k
    refine ⟨okL_at a1.2 r1 k, R, c1, σd, M1, a1.2, rs.mono a1.1.gr, h1.bind fun y M2 u H2 c2 a2 r2 h2 => ?_⟩
    obtain ⟨d, e, h3⟩ := h2.opt
    simp only [Option.bind_eq_some_iff] at e
    obtain ⟨x', e1, ys, e2, e3⟩ := e
    exact ⟨R, c2, M2, x', ys, d, a2.2, rd_ok a2.2 (r1.mono a2.1.gr) e1, rds_ok a2.2 r2 e2, e3, Post.out h3⟩
  · exact h1.elim
theorem s_mut {K : PySem.W.Frag} {mu : Mu} {o : ME} {es : MEs} (h : tE ω (evE C (.mut mu o es)) σ H Q) : tBM K "list" (rMu ω.mg (mutD mu)) (tE ω (evE C o)) (tA ω (evEs C es)) σ H Q := by
  obtain ⟨R, c, σd, M, m, rs, h⟩ := h
  rw [evE] at h
  refine ⟨R, c, σd, M, m, rs, h.bind fun x M1 v H1 c1 a1 r1 h1 => ?_⟩
  split at h1
  · rename_i k
    refine ⟨okL_at a1.2 r1 k, R, c1, σd, M1, a1.2, rs.mono a1.1.gr, h1.bind fun y M2 u H2 c2 a2 r2 h2 => ?_⟩
    split at h2
    · rename_i n
      split at h2
      · rename_i hf
        split at h2
        · rename_i z w e
          simp only [Option.bind_eq_some_iff] at e
          obtain ⟨x', e1, e2⟩ := e
          have r1' := r1.mono a2.1.gr
          simp only [Rp] at r1'
          obtain ⟨a, rfl, hc⟩ := r1'
          have hn : M2[n]? = some (some x') := by
            simp only [rd] at e1
            split at e1
            · rename_i u he; simp at e1; rw [he, e1]
            · cases e1
          exact ⟨R, c2, M2, n, a, x', y, z, w, a2.2, hn, rfl, hc, r2, hf, e2, fun u H' a3 r3 => h2 u H' c2 a3 r3⟩
        · exact h2.elim
      · exact h2.elim
    · exact h2.elim
  · exact h1.elim
theorem s_mut0 {K : PySem.W.Frag} {mu : Mu} {o : ME} (h : tE ω (evE C (.mut mu o .nil)) σ H Q) : tBM0 K "list" (rMu ω.mg (mutD mu)) (tE ω (evE C o)) σ H Q := by
  obtain ⟨R, c, σd, M, m, rs, h⟩ := s_mut (K := K) h
  refine ⟨R, c, σd, M, m, rs, h.mono fun v H1 q => ⟨q.1, s_nil q.2⟩⟩
/-- isinstance -/
def tyS : Ty → String
  | .int => "int"
  | .bool => "bool"
  | .tuple => "tuple"
  | .str => "str"
  | .list => "list"
  | .dict => "dict"
theorem kits (a : String) (t : Ty) (K : PySem.W.Frag) (b : Bool) (ha : a = "NoneType" ∨ a = "bool" ∨ a = "int" ∨ a = "str" ∨ a = "tuple" ∨ a = "list" ∨ a = "dict") (e : kitB a (tyS t) = some b) : PySem.W.kitOne K (.type a) (.type (tyS t)) = some b := kit_ty e
theorem isa_ok {K : PySem.W.Frag} {mg : Mg} {U : Addr → Prop} {c : List Addr} {x : D} {v : V} {b : Bool} {t : Ty} (r : Rr mg H U c x v) (e : isaD x t = some b) : ∃ T, TyX K H v (.type T) ∧ PySem.W.kitOne K (.type T) (.type (tyS t)) = some b := by
  cases x with
  | non => rw [rr_non] at r; subst r; refine ⟨_, .base .non, ?_⟩; cases t <;> simp only [isaD, Option.some.injEq] at e <;> subst e <;> exact kit_ty (by decide +kernel)
  | bl y => rw [rr_bl] at r; subst r; refine ⟨_, .base (.bl y), ?_⟩; cases t <;> simp only [isaD, Option.some.injEq] at e <;> subst e <;> exact kit_ty (by decide +kernel)
  | int y => rw [rr_int] at r; subst r; refine ⟨_, .base (.int y), ?_⟩; cases t <;> simp only [isaD, Option.some.injEq] at e <;> subst e <;> exact kit_ty (by decide +kernel)
  | str y => rw [rr_str] at r; subst r; refine ⟨_, .base (.str y), ?_⟩; cases t <;> simp only [isaD, Option.some.injEq] at e <;> subst e <;> exact kit_ty (by decide +kernel)
  | tup y =>
    obtain ⟨p, vs, rfl, h1, _⟩ := rr_tup.mp r
    refine ⟨_, .base (.tup h1), ?_⟩; cases t <;> simp only [isaD, Option.some.injEq] at e <;> subst e <;> exact kit_ty (by decide +kernel)
  | lst y =>
    obtain ⟨p, vs, rfl, h1, _⟩ := rr_lst.mp r
    refine ⟨_, .base (.lst h1), ?_⟩; cases t <;> simp only [isaD, Option.some.injEq] at e <;> subst e <;> exact kit_ty (by decide +kernel)
  | dct tt ks us =>
    obtain ⟨p, rfl, h2⟩ := r
    rcases h2 with ⟨_, kvs, h1, _⟩ | ⟨_, kvs, h1, _⟩
    · refine ⟨_, .base (.dK h1), ?_⟩; cases t <;> simp only [isaD, Option.some.injEq] at e <;> subst e <;> exact kit_ty (by decide +kernel)
    · refine ⟨_, .base (.dT h1), ?_⟩; cases t <;> simp only [isaD, Option.some.injEq] at e <;> subst e <;> exact kit_ty (by decide +kernel)
  | _ => simp [isaD] at e
theorem s_isa {K : PySem.W.Frag} {a : ME} {t : Ty} (h : tE ω (evE C (.isa a t)) σ H Q) : tCB (rIsi K) (tCons (tE ω (evE C a)) (tCons (tC (.ty (tyS t))) tNil)) σ H Q := by
  obtain ⟨R, c, σd, M, m, rs, h⟩ := h
  rw [evE] at h
  refine ⟨R, c, σd, M, m, rs, h.bind fun x M1 v H1 c1 a1 r1 h1 => ?_⟩
  obtain ⟨d, e, h3⟩ := h1.opt
  simp only [Option.bind_eq_some_iff, Option.map_eq_some_iff] at e
  obtain ⟨x', e1, b, e2, rfl⟩ := e
  obtain ⟨T, k1, k2⟩ := isa_ok (K := K) (rd_ok a1.2 r1 e1) e2
  exact ⟨v, .ty (tyS t), _, _, b, rfl, .ty _, k1, k2, h3 _ H1 c1 (Aft.refl a1.2) (by simp [rlD, Rp])⟩

/-! ### calls -/
/-- what a def promises by the evaluator -/
def spF (mg : Mg) (att : Str → Option Str) (n : Nat) (f : List D → Cs → Res D) : Sp := fun vs H Q E => vs.length = n ∧ ∃ R c ds M, CM mg R H c M ∧ RpL mg H (Lv R c M) c ds vs ∧ Post ⟨mg, att, fun cls dd _ H' => E cls dd H'⟩ (rlD ⟨mg, att, fun cls dd _ H' => E cls dd H'⟩) R H c M [] Q (f ds M)
def MEs.len : MEs → Option Nat
  | .nil => some 0
  | .cons _ r => r.len.map (· + 1)
  | .star _ _ => none
theorem evEs_len : ∀ {es : MEs} {n : Nat} {σd : En} {M : Cs} {xs : List D} {M1 : Cs}, es.len = some n → evEs C es σd M = .ok xs M1 → xs.length = n
  | .nil, n, σd, M, xs, M1, h, e => by
    rw [evEs] at e; cases e; simp [MEs.len] at h; simp [h]
  | .cons a r, n, σd, M, xs, M1, h, e => by
    simp only [MEs.len, Option.map_eq_some_iff] at h
    obtain ⟨k, h1, rfl⟩ := h
    rw [evEs] at e
    cases e1 : evE C a σd M with
    | ok x M2 =>
      rw [e1, ok_bind] at e
      cases e2 : evEs C r σd M2 with
      | ok ys M3 =>
        rw [e2, ok_bind] at e; cases e
        simp [evEs_len h1 e2]
      | _ => rw [e2] at e; cases e
    | _ => rw [e1] at e; cases e
  | .star _ _, _, _, _, _, _, h, _ => by simp [MEs.len] at h
theorem permD_rp {mg : Mg} {U : Addr → Prop} {c : List Addr} {ds : List D} {vs : List V} (h : RpL mg H U c ds vs) (perm : List Nat) : RpL mg H U c (permD perm ds) (permL .non perm vs) := by
  unfold permD permL
  cases perm with
  | nil => exact h
  | cons i r =>
    have key : ∀ i, Rp mg H U c (ds.getD i .non) (vs.getD i .non) := fun i => by
      cases e : ds[i]? with
      | none =>
        have : vs[i]? = none := by
          rw [List.getElem?_eq_none_iff] at e ⊢
          rw [h.len]; exact e
        rw [List.getD_eq_getElem?_getD, List.getD_eq_getElem?_getD, e, this]; simp [Rp]
      | some d =>
        obtain ⟨v, e2, r2⟩ := h.get e
        rw [List.getD_eq_getElem?_getD, List.getD_eq_getElem?_getD, e, e2]; exact r2
    have : ∀ p : List Nat, RpL mg H U c (p.map fun i => ds.getD i .non) (p.map fun i => vs.getD i .non) := fun p => by
      induction p with
      | nil => exact RpL.nil
      | cons j p ih => exact RpL.cons (key j) ih
    exact this _
theorem Post.sp {R : Addr → Prop} {c : List Addr} {M : Cs} {r : Res D} (h : Post ω (rlD ω) R H c M σ Q r) : Post ⟨ω.mg, ω.att, fun cls dd _ H' => ω.W cls dd σ H'⟩ (rlD ⟨ω.mg, ω.att, fun cls dd _ H' => ω.W cls dd σ H'⟩) R H c M [] Q r := by
  cases r <;> exact h
theorem s_call {f : Nat} {es ks : MEs} {perm : List Nat} {n k l : Nat} (h1 : es.len = some n) (h2 : ks.len = some k) (h3 : (if perm = [] then n + k else perm.length) = l) (h : tE ω (evE C (.call f es ks perm)) σ H Q) :
    tCallG (spF ω.mg ω.att l (C.call f)) n k perm (WE ω.W) (tA ω (evEs C es)) (tA ω (evEs C ks)) σ H Q := by
  obtain ⟨R, c, σd, M, m, rs, h⟩ := h
  rw [evE] at h
  refine ⟨R, c, σd, M, m, rs, ?_⟩
  cases e1 : evEs C es σd M with
  | bad => rw [e1] at h; exact h.elim
  | ex x M1 => rw [e1] at h; exact h
  | ok xs M1 =>
    rw [e1, ok_bind] at h
    intro vs H1 c1 a1 r1
    replace h := h.shift a1
    refine ⟨R, c1, σd, M1, a1.2, rs.mono a1.1.gr, ?_⟩
    cases e2 : evEs C ks σd M1 with
    | bad => rw [e2] at h; exact h.elim
    | ex x M1 => rw [e2] at h; exact h
    | ok ys M2 =>
      rw [e2, ok_bind] at h
      intro zs H2 c2 a2 r2
      replace h := h.shift a2
      have rr := permD_rp ((RpL.mono a2.1.gr _ r1).app r2) perm
      have l1 : vs.length = n := by rw [r1.len]; exact evEs_len h1 e1
      have l2 : zs.length = k := by rw [r2.len]; exact evEs_len h2 e2
      refine ⟨l1, l2, ?_, R, c2, permD perm (xs ++ ys), M2, a2.2, rr, h.sp⟩
      rw [← h3]
      unfold permL
      split
      · simp [l1, l2]
      · rename_i ne
        rw [if_neg (by simpa using ne)]
        simp
end
section
variable {prog : Program} {w : World} {A : Around} {E : Value → Shared → Prop} {s : Shared}
theorem pick_rev (xs : Array Value) : ((List.range xs.size).filterMap fun (m : Nat) => xs[((xs.size : Int) - 1 + (m : Int) * (-1)).toNat]?).toArray = xs.toList.reverse.toArray := by
  have e : (fun m : Nat => xs[((xs.size : Int) - 1 + (m : Int) * (-1)).toNat]?) = (fun x => xs[x]?) ∘ fun m => xs.size - 1 - m := by
    funext m
    simp only [Function.comp_apply]
    congr 1
    omega
  rw [e, ← List.filterMap_map, ← PySem.W.krv_sliceRange, ← PySem.W.krv_pick]
  unfold slicePick
  rw [PySem.W.krv_bounds]
theorem sliceApplied_rev {sl : Addr} {vs : Value} {n : Nat} {Q : Int × Int × Nat → Shared → Prop} (hs : s.heap.IsSliceOf sl .none .none vs) (ps : IsPart vs (some (-1)))
    (h : Q ((n : Int) - 1, -1, n) s) : wpAny (model prog w) A (Builtin.Slice.sliceApplied (.ref sl) (pure (n : Int))) Q E s := by
  obtain ⟨os, hos, hcs, hds⟩ := id hs
  unfold Builtin.Slice.sliceApplied Builtin.Slice.sliceFields
  refine wpAny_bind (wpAny_bind (wpAny_field hos hds (x := .none) rfl (wpAny_bind (wpAny_field hos hds (x := .none) rfl (wpAny_bind (wpAny_field hos hds (x := vs) rfl (wpAny_pure ?_)))))))
  refine wpAny_bind (HT.slicePart_ ps ?_)
  show wpAny _ _ (if ((-1 : Int) == 0) = true then _ else _) _ _ s
  rw [if_neg (by decide)]
  refine wpAny_bind (slicePart_none (wpAny_bind (slicePart_none (wpAny_bind (wpAny_pure ?_)))))
  have e : Builtin.Slice.sliceAdjust none none (-1) (n : Int) = ((n : Int) - 1, -1) := rfl
  have e2 : Builtin.Slice.slicePlaces ((n : Int) - 1) (-1) (-1) = n := by
    unfold Builtin.Slice.slicePlaces
    rw [if_neg (by decide)]
    by_cases hn : n = 0
    · subst hn; rfl
    · rw [if_pos (by omega)]
      have : ((n : Int) - 1 - -1 - 1) / (- -1) + 1 = n := by
        rw [show (- -1 : Int) = 1 by decide, Int.ediv_one]; omega
      rw [this, Int.toNat_natCast]
  show wpAny _ _ (match Builtin.Slice.sliceAdjust none none (-1) (n : Int) with | (lo, hi) => pure (lo, (-1 : Int), Builtin.Slice.slicePlaces lo hi (-1))) _ _ s
  rw [e]
  show wpAny _ _ (pure ((n : Int) - 1, (-1 : Int), Builtin.Slice.slicePlaces ((n : Int) - 1) (-1) (-1))) _ _ s
  rw [e2]
  exact wpAny_pure h
theorem getItem_tuple_rev {t sl : Addr} {items : Array Value} {vs : Value} {Q : Value → Shared → Prop} (ht : IsTup s.heap t items) (hs : s.heap.IsSliceOf sl .none .none vs) (ps : IsPart vs (some (-1)))
    (h : Q (.ref s.heap.objs.size) { s with heap := s.heap.push { cls := .type "tuple", data := .seq items.toList.reverse.toArray } })
    (hsz : items.size ≤ sizeLine) : wpAny (model prog w) A (getItem (.ref t) (.ref sl)) Q E s := by
  have htake : sizeOk (.seq items.toList.reverse.toArray) := by
    show items.toList.reverse.toArray.size ≤ sizeLine
    simpa using hsz
  obtain ⟨os, hos, hcs, hds⟩ := id hs
  have hTs : s.TypeIs (.ref sl) "slice" := ⟨os, hos, hcs⟩
  unfold getItem
  try with_reducible refine wpAny_holding ?_
  first | refine wpAny_bind (wpAny_pure ?_) | skip
  refine wpAny_bind (wpAny_sequenceKey ht.typeIs (by decide) ?_)
  refine wpAny_bind (wpAny_callSpecial?_slot (name := Str.ofString "__getitem__") ht.typeIs PyProof.Rows.slot_tuple_getitem
    (wpAny_call_entry PyProof.Rows.slot_tuple_getitem ht.typeIs entry_tuple_getitem ?_ (args_tuple_getitem _ _)))
  show wpAny _ _ (Builtin.Tuple.tupleItemsOf (.ref t) >>= _) _ _ s
  refine wpAny_bind (tupleItemsOf_ ht ?_)
  refine wpAny_bind (wpAny_typeOf hTs ?_)
  rw [if_pos (by decide)]
  refine wpAny_bind (sliceApplied_rev hs ps ?_)
  have hno : ¬ ((((items.size : Int) - 1) == 0 && (-1 : Int) == 1 && items.size == items.size) = true) := by simp
  show wpAny _ _ (if (((items.size : Int) - 1) == 0 && (-1 : Int) == 1 && items.size == items.size) = true then _ else _) _ _ s
  rw [if_neg hno, pick_rev]
  first
    | exact wpAny_bind (m := Builtin.Tuple.tupleExact _) (wpAny_newObj_type (wpAny_pure ⟨_, rfl, wpAny_pure h⟩) htake)
    | exact wpAny_bind (m := Builtin.Tuple.tupleExact _) (wpAny_newObj_type (wpAny_bind (wpAny_pure (wpAny_pure ⟨_, rfl, wpAny_pure h⟩))) htake)
    | exact wpAny_bind (wpAny_bind (m := Builtin.Tuple.tupleExact _) (wpAny_newObj_type (wpAny_pure (wpAny_pure ⟨_, rfl, wpAny_pure h⟩)) htake))
    | exact wpAny_bind (wpAny_bind (m := Builtin.Tuple.tupleExact _) (wpAny_newObj_type (wpAny_pure ⟨_, rfl, wpAny_pure h⟩) htake))
end

/-- x[::-1] -/
def tRevA (K : PySem.W.Frag) (te : TE) : TE := fun σ H Q => te σ H fun x H1 => ∃ a xs, x = .ref a ∧ ((SqL K H1 a xs ∧ ∀ p, H1 p = none → Q (.ref p) (upd H1 p (.lst xs.reverse))) ∨ (SqT K H1 a xs ∧ ∀ p, H1 p = none → Q (.ref p) (upd H1 p (.tup xs.reverse))))
section
variable {X : Cx} {ω : Wk} {C : Cl} {σ : L2.St} {H : Hp} {Q : VK}
theorem pe_rev {e : Expr} {te : TE} {k : Nat} {p1 p2 p3 pos : Pos} (he : PE X e te) : PE X (.Subscript e (.Slice none none (some (.UnaryOp .USub (.Constant (.int 1) k p1) p2)) p3) pos) (tRevA X.K te) := by
  refine ⟨fun pins s σ H Q I h => ?_⟩
  refine Subscript_ (thn (he.run pins s σ H _ I h) fun v s1 ⟨x, H1, I1, r1, q1⟩ => ?_)
  obtain ⟨a, xs, ex, q1⟩ := q1
  subst ex
  cases r1
  have hst : PO X (some (.UnaryOp .USub (.Constant (.int 1) k p1) p2)) (tPart (tUn (rU fun i => .int (-i)) (tC (.int 1)))) := po_some (pe_un un_neg pe_int)
  refine wpAny_Slice (thn (po_none.run pins s1 σ H1 (fun o H2 => o = none ∧ H2 = H1) I1 ⟨rfl, rfl⟩) fun vl s2 ⟨l, H2, I2, pl, el, e2⟩ => ?_)
  subst el e2
  refine thn (po_none.run pins s2 σ H2 (fun o H3 => o = none ∧ H3 = H2) I2 ⟨rfl, rfl⟩) fun vu s3 ⟨u, H3, I3, pu, eu, e3⟩ => ?_
  subst eu e3
  refine thn (hst.run pins s3 σ H3 (fun o H4 => o = some (-1) ∧ H4 = H3) I3 ⟨1, rfl, -1, rfl, rfl, rfl⟩) fun vs s4 ⟨o, H4, I4, ps, eo, e4⟩ => ?_
  subst eo e4
  have I5 : Inv X pins σ H4 { s4 with heap := s4.heap.push { cls := .type "slice", data := .fields #[vl, vu, vs] } } := I4.kept (t' := s4.toks) fun b ob q => Heap.get?_push_of_some _ q
  cases pl
  cases pu
  rcases q1 with ⟨hx, q⟩ | ⟨hx, q⟩
  · obtain ⟨its, r, ht, hz⟩ := I5.list hx
    have hlen := r.length
    show wpAny (model X.prog X.w) X.A (subscriptTail e (.Slice none none (some (.UnaryOp .USub (.Constant (.int 1) k p1) p2)) p3) (.ref a) (.ref s4.heap.objs.size)) (EP X pins σ Q) X.xe { s4 with heap := s4.heap.push { cls := .type "slice", data := .fields #[.none, .none, vs] } }
    refine tail_any (ops := [.ref a, .ref s4.heap.objs.size]) ht.isList.typeIs (PySem.slot_list_getitem.lookup) ?_ (by with_unfolding_all rfl)
    refine wpAny_getItem_list_slice ht.isList (Heap.IsSliceOf.new _ .none .none vs) .none .none ps (by decide) ?_ (by rw [List.size_toArray]; omega)
    rw [PySem.W.krv_pick]
    refine ⟨.ref _, _, I5.laid (t' := s4.toks) (o := .lst xs.reverse) (fun b ob q => Heap.get?_push_of_some _ q) (Nat.le_refl _) ?_, rfl, q _ (I5.hok.fresh (Nat.le_refl _))⟩
    exact ⟨by rw [List.length_reverse]; exact hz, _, 0, r.reverse, Heap.get?_push_size _ rfl⟩
  · obtain ⟨its, r, ht, hz⟩ := I5.tuple hx
    have hlen := r.length
    show wpAny (model X.prog X.w) X.A (subscriptTail e (.Slice none none (some (.UnaryOp .USub (.Constant (.int 1) k p1) p2)) p3) (.ref a) (.ref s4.heap.objs.size)) (EP X pins σ Q) X.xe { s4 with heap := s4.heap.push { cls := .type "slice", data := .fields #[.none, .none, vs] } }
    refine tail_any (ops := [.ref a, .ref s4.heap.objs.size]) ht.typeIs PyProof.Rows.slot_tuple_getitem.lookup ?_ (by with_unfolding_all rfl)
    refine getItem_tuple_rev ht (Heap.IsSliceOf.new _ .none .none vs) ps ?_ (by rw [List.size_toArray]; omega)
    refine ⟨.ref _, _, I5.laid (t' := s4.toks) (o := .tup xs.reverse) (fun b ob q => Heap.get?_push_of_some _ q) (Nat.le_refl _) ?_, rfl, q _ (I5.hok.fresh (Nat.le_refl _))⟩
    exact ⟨by rw [List.length_reverse]; exact hz, _, r.reverse, IsTup.new _ _⟩
theorem RpL.reverse {mg : Mg} {U : Addr → Prop} {c : List Addr} : ∀ {ds : List D} {vs : List V}, RpL mg H U c ds vs → RpL mg H U c ds.reverse vs.reverse
  | [], vs, h => by
    rw [RpL.nil_iff] at h; subst h; exact RpL.nil
  | d :: ds, vs, h => by
    obtain ⟨v, r, rfl, h1, h2⟩ := RpL.cons_iff.mp h
    rw [List.reverse_cons, List.reverse_cons]
    exact h2.reverse.app (RpL.cons h1 RpL.nil)
theorem s_rev {K : PySem.W.Frag} {a : ME} (h : tE ω (evE C (.rev a)) σ H Q) : tRevA K (tE ω (evE C a)) σ H Q := by
  obtain ⟨R, c, σd, M, m, rs, h⟩ := h
  rw [evE] at h
  refine ⟨R, c, σd, M, m, rs, h.bind fun x M1 v H1 c1 a1 r1 h1 => ?_⟩
  obtain ⟨d, e, h3⟩ := h1.opt
  simp only [Option.bind_eq_some_iff] at e
  obtain ⟨x', e1, e2⟩ := e
  have r2 := rd_ok a1.2 r1 e1
  have q := Post.out h3
  unfold revD at e2
  split at e2 <;> cases e2
  · obtain ⟨p, vs, rfl, e1, e3⟩ := rr_lst.mp r2
    exact ⟨p, vs, rfl, .inl ⟨SqL.of e1, fun l hl => q.lst a1.2 e3.reverse hl⟩⟩
  · obtain ⟨p, vs, rfl, e1, _, e3⟩ := rr_tup.mp r2
    exact ⟨p, vs, rfl, .inr ⟨SqT.of e1, fun l hl => q.tup a1.2 e3.reverse hl⟩⟩
end
end Mp

/-! Targets, what is walked, comprehensions. -/
namespace Mp
open PySem PySem.Spec PyProof.Rows L2

def rlS (ω : Wk) : Rl En L2.St := fun R H c M σd σ => RpS ω.mg H (Lv R c M) c σd σ
/-- no exception leaves -/
def Wk.no (ω : Wk) : Wk := { ω with W := fun _ _ _ _ => False }
section
variable {α β : Type} {ω : Wk} {rel : Rl α β} {R : Addr → Prop} {H : Hp} {c : List Addr} {M : Cs} {σ σ' : L2.St} {C : Cl} {K : PySem.W.Frag}
theorem Post.slots {Q : β → Hp → Prop} : ∀ {r : Res α}, Post ω.no rel R H c M σ Q r → Post ω.no rel R H c M σ' Q r
  | .ok _ _, h => h
  | .ex _ _, h => h
  | .bad, h => h
/-- an evaluation that comes to an end -/
theorem Post.here {r : Res α} {a : α} {M1 : Cs} (e : r = .ok a M1) : Post ω rel R H c M σ (fun b H' => ∃ c', Aft ω.mg R H c M M1 H' c' ∧ rel R H' c' M1 a b) r := by
  subst e
  exact fun b H' c' a r => ⟨c', a, r⟩
theorem Post.eq {Q : β → Hp → Prop} {r : Res α} {a : α} {M1 : Cs} (e : r = .ok a M1) (k : ∀ b H' c', Aft ω.mg R H c M M1 H' c' → rel R H' c' M1 a b → Q b H') : Post ω rel R H c M σ Q r := by
  subst e
  exact k
theorem Post.wide {Q : β → Hp → Prop} : ∀ {r : Res α}, Post ω.no rel R H c M σ Q r → Post ω rel R H c M σ Q r
  | .ok _ _, h => h
  | .ex _ _, h => fun cls dd H' c' a r => (h cls dd H' c' a r).elim
  | .bad, h => h

theorem _root_.L2.PG.or {X : Cx} {e : Expr} {t u : TG} (h : PG X e t) (k : PG X e u) : PG X e (fun v σ H Q => t v σ H Q ∨ u v σ H Q) := ⟨fun pins s σ H v w Q I r q => q.elim (h.run pins s σ H v w Q I r) (k.run pins s σ H v w Q I r)⟩

/-! ### targets -/
def tG (ω : Wk) (f : D → En → Cs → Res En) : TG := fun v σ H Q => ∃ R c σd M d, CM ω.mg R H c M ∧ RpS ω.mg H (Lv R c M) c σd σ ∧ Rp ω.mg H (Lv R c M) c d v ∧ Post ω.no (rlS ω) R H c M σ Q (f d σd M)
def tGs (ω : Wk) (f : List D → En → Cs → Res En) : TGs := fun vs σ H Q => ∃ R c σd M ds, CM ω.mg R H c M ∧ RpS ω.mg H (Lv R c M) c σd σ ∧ RpL ω.mg H (Lv R c M) c ds vs ∧ Post ω.no (rlS ω) R H c M σ Q (f ds σd M)
def MTs.len : MTs → Nat
  | .nil => 0
  | .cons _ r => r.len + 1
mutual
def gOf (ω : Wk) (C : Cl) (K : PySem.W.Frag) : MT → TG
  | .nm i => gName i
  | .tp ts => fun v σ H Q => gTup K ts.len (gsOf ω C K ts) v σ H Q ∨ gLst K ts.len (gsOf ω C K ts) v σ H Q
  | .sub o i => gSub (tE ω (evE C o)) (tE ω (evE C i)) (rSet ω.mg)
def gsOf (ω : Wk) (C : Cl) (K : PySem.W.Frag) : MTs → TGs
  | .nil => gNil
  | .cons t r => gCons (gOf ω C K t) (gsOf ω C K r)
end
theorem tupD_some {d : D} {xs : List D} (h : tupD d = some xs) : d = .tup xs ∨ d = .lst xs := by
  cases d <;> simp [tupD] at h
  · rw [h]; exact .inl rfl
  · rw [h]; exact .inr rfl
theorem consD_some {ds : List D} {p : D × List D} (h : consD ds = some p) : ds = p.1 :: p.2 := by
  cases ds <;> simp [consD] at h
  rw [← h]
theorem evTs_len : ∀ {ts : MTs} {ds : List D} {σd σ1 : En} {M M1 : Cs}, evTs C ts ds σd M = .ok σ1 M1 → ds.length = ts.len
  | .nil, ds, _, _, _, _, e => by
    rw [evTs] at e
    split at e
    · rename_i z; simp at z; simp [z, MTs.len]
    · cases e
  | .cons t r, ds, σd, σ1, M, M1, e => by
    rw [evTs] at e
    split at e
    · rename_i p z
      rw [consD_some z]
      cases e1 : evT C t p.1 σd M with
      | ok σ2 M2 =>
        rw [e1, ok_bind] at e
        simp [MTs.len, evTs_len e]
      | _ => rw [e1] at e; cases e
    · cases e
mutual
theorem evT_noex : ∀ (t : MT) (d : D) (σd : En) (M : Cs) (x : D) (M1 : Cs), evT C t d σd M ≠ .ex x M1
  | .nm i, d, σd, M, x, M1, e => by rw [evT] at e; cases e
  | .tp ts, d, σd, M, x, M1, e => by
    rw [evT] at e
    split at e
    · exact evTs_noex ts _ σd M x M1 e
    · cases e
  | .sub o i, d, σd, M, x, M1, e => by
    rw [evT] at e
    split at e
    · split at e
      · split at e
        · split at e
          · split at e <;> cases e
          · cases e
        · cases e
      · cases e
    · cases e
theorem evTs_noex : ∀ (t : MTs) (d : List D) (σd : En) (M : Cs) (x : D) (M1 : Cs), evTs C t d σd M ≠ .ex x M1
  | .nil, _, _, _, _, _, e => by
    rw [evTs] at e
    split at e <;> cases e
  | .cons t r, ds, σd, M, x, M1, e => by
    rw [evTs] at e
    split at e
    · rename_i p z
      cases e1 : evT C t p.1 σd M with
      | ok σ2 M2 =>
        rw [e1, ok_bind] at e
        exact evTs_noex r p.2 σ2 M2 x M1 e
      | bad => rw [e1] at e; cases e
      | ex _ _ => exact evT_noex t p.1 σd M _ _ e1
    · cases e
end
theorem Post.oks {Q : β → Hp → Prop} {r : Res α} (h : Post ω.no rel R H c M σ Q r) (n : ∀ x M1, r ≠ .ex x M1) : ∃ a M1, r = .ok a M1 := by
  cases r with
  | ok a M1 => exact ⟨a, M1, rfl⟩
  | ex x M1 => exact (n x M1 rfl).elim
  | bad => exact h.elim
mutual
theorem g_ok : ∀ (t : MT) {v : V} {σ : L2.St} {H : Hp} {Q : L2.St → Hp → Prop}, tG ω (evT C t) v σ H Q → gOf ω C K t v σ H Q
  | .nm i, v, σ, H, Q, h => by
    obtain ⟨R, c, σd, M, d, m, rs, rd, h⟩ := h
    rw [evT] at h
    exact h _ H c (Aft.refl m) (rs.set i rd)
  | .tp ts, v, σ, H, Q, h => by
    obtain ⟨R, c, σd, M, d, m, rs, rd, h⟩ := h
    rw [evT] at h
    split at h
    · rename_i xs z
      obtain ⟨σ1, M1, e⟩ := h.oks (evTs_noex _ _ _ _)
      rcases tupD_some z with z | z
      · rw [z] at rd
        simp only [Rp] at rd
        obtain ⟨a, vs, rfl, e1, _, e3⟩ := rd
        exact .inl ⟨a, vs, rfl, SqT.of e1, by rw [e3.len]; exact evTs_len e, gs_ok ts ⟨R, c, σd, M, xs, m, rs, e3, h⟩⟩
      · rw [z] at rd
        simp only [Rp] at rd
        obtain ⟨a, vs, rfl, e1, _, e3⟩ := rd
        exact .inr ⟨a, vs, rfl, SqL.of e1, by rw [e3.len]; exact evTs_len e, gs_ok ts ⟨R, c, σd, M, xs, m, rs, e3, h⟩⟩
    · exact h.elim
  | .sub o i, v, σ, H, Q, h => by
    obtain ⟨R, c, σd, M, d, m, rs, rd, h⟩ := h
    rw [evT] at h
    split at h
    · rename_i x M1 e1
      refine ⟨R, c, σd, M, m, rs, Post.eq e1 fun ov H1 c1 a1 r1 => ?_⟩
      replace h := Post.shift (ω := ω.no) a1 h
      split at h
      · rename_i y M2 e2
        refine ⟨R, c1, σd, M1, a1.2, rs.mono a1.1.gr, Post.eq e2 fun iv H2 c2 a2 r2 => ?_⟩
        replace h := Post.shift (ω := ω.no) a2 h
        split at h
        · rename_i n
          split at h
          · rename_i hf
            simp only [Bool.and_eq_true] at hf
            split at h
            · rename_i z e3
              simp only [Option.bind_eq_some_iff] at e3
              obtain ⟨x', e4, e5⟩ := e3
              have r1' := r1.mono a2.1.gr
              simp only [Rp] at r1'
              obtain ⟨a, rfl, hc⟩ := r1'
              have hn : M2[n]? = some (some x') := by
                simp only [Mp.rd] at e4
                split at e4
                · rename_i u he; simp at e4; rw [he, e4]
                · cases e4
              exact ⟨R, c2, M2, n, a, x', y, d, z, a2.2, hn, rfl, hc, r2, rd.mono (a1.1.trans a2.1).gr, hf.1, hf.2, e5, fun H' a3 => h σ H' c2 a3 (rs.mono ((a1.1.trans a2.1).trans a3.1).gr)⟩
            · exact h.elim
          · exact h.elim
        · exact h.elim
      · exact h.elim
    · exact h.elim
theorem gs_ok : ∀ (t : MTs) {v : List V} {σ : L2.St} {H : Hp} {Q : L2.St → Hp → Prop}, tGs ω (evTs C t) v σ H Q → gsOf ω C K t v σ H Q
  | .nil, v, σ, H, Q, h => by
    obtain ⟨R, c, σd, M, d, m, rs, rd, h⟩ := h
    rw [evTs] at h
    split at h
    · rename_i z
      simp at z; subst z
      exact ⟨RpL.nil_iff.mp rd, h _ H c (Aft.refl m) rs⟩
    · exact h.elim
  | .cons t r, v, σ, H, Q, h => by
    obtain ⟨R, c, σd, M, d, m, rs, rd, h⟩ := h
    rw [evTs] at h
    split at h
    · rename_i p z
      rw [consD_some z] at rd
      obtain ⟨v, vr, rfl, h1, h2⟩ := RpL.cons_iff.mp rd
      refine ⟨v, vr, rfl, g_ok t ⟨R, c, σd, M, p.1, m, rs, h1, h.bind fun σ1 M1 σ1' H1 c1 a1 r1 q => ?_⟩⟩
      exact gs_ok r ⟨R, c1, σ1, M1, p.2, a1.2, r1, h2.mono a1.1.gr, q.slots⟩
    · exact h.elim
end
mutual
/-- the names that a target stores -/
def MT.within (vs : List Nat) : MT → Bool
  | .nm i => decide (i ∈ vs)
  | .tp ts => ts.within vs
  | .sub _ _ => false
def MTs.within (vs : List Nat) : MTs → Bool
  | .nil => true
  | .cons t r => t.within vs && r.within vs
end
theorem wipe_set {x : Option V} : ∀ {vs : List Nat} {σ : L2.St} {i : Nat}, i ∈ vs → wipe (σ.set i x) vs = wipe σ vs
  | v :: vs, σ, i, h => by
    by_cases hv : i ∈ vs
    · simp only [wipe]; rw [wipe_set hv]
    · have e : i = v := by simpa [hv] using h
      subst e
      have : ∀ us : List Nat, i ∉ us → wipe (σ.set i x) us = (wipe σ us).set i x := fun us hu => by
        induction us with
        | nil => rfl
        | cons u us ih =>
          simp only [List.mem_cons, not_or] at hu
          simp only [wipe]
          rw [ih hu.2, List.set_comm _ _ hu.1]
      simp only [wipe]
      rw [this vs hv, List.set_set]
mutual
theorem g_wipe {vs : List Nat} : ∀ (t : MT) {v : V} {σ : L2.St} {H : Hp} {Q : L2.St → Hp → Prop}, t.within vs = true → gOf ω C K t v σ H Q → gOf ω C K t v σ H fun σ2 H2 => wipe σ2 vs = wipe σ vs ∧ Q σ2 H2
  | .nm i, v, σ, H, Q, w, h => ⟨wipe_set (by simpa [MT.within] using w), h⟩
  | .tp ts, v, σ, H, Q, w, h => by
    rcases h with ⟨a, xs, e1, e2, e3, h⟩ | ⟨a, xs, e1, e2, e3, h⟩
    · exact .inl ⟨a, xs, e1, e2, e3, gs_wipe ts (by simpa [MT.within] using w) h⟩
    · exact .inr ⟨a, xs, e1, e2, e3, gs_wipe ts (by simpa [MT.within] using w) h⟩
  | .sub o i, v, σ, H, Q, w, h => by simp [MT.within] at w
theorem gs_wipe {vs : List Nat} : ∀ (t : MTs) {v : List V} {σ : L2.St} {H : Hp} {Q : L2.St → Hp → Prop}, t.within vs = true → gsOf ω C K t v σ H Q → gsOf ω C K t v σ H fun σ2 H2 => wipe σ2 vs = wipe σ vs ∧ Q σ2 H2
  | .nil, v, σ, H, Q, w, h => ⟨h.1, rfl, h.2⟩
  | .cons t r, v, σ, H, Q, w, h => by
    simp only [MTs.within, Bool.and_eq_true] at w
    obtain ⟨x, xs, e, h⟩ := h
    have mono : ∀ (t : MT) {v : V} {σ : L2.St} {H : Hp} {Q Q' : L2.St → Hp → Prop}, t.within vs = true → (∀ σ2 H2, wipe σ2 vs = wipe σ vs → Q σ2 H2 → Q' σ2 H2) → gOf ω C K t v σ H (fun σ2 H2 => wipe σ2 vs = wipe σ vs ∧ Q σ2 H2) → gOf ω C K t v σ H Q' := fun t v σ H Q Q' w k h => g_mono t w (fun σ2 H2 q => k σ2 H2 q.1 q.2) h
    exact ⟨x, xs, e, mono t w.1 (fun σ2 H2 ew q => gs_mono r w.2 (fun σ3 H3 q3 => ⟨q3.1.trans ew, q3.2⟩) (gs_wipe r w.2 q)) (g_wipe t w.1 h)⟩
theorem g_mono {vs : List Nat} : ∀ (t : MT) {v : V} {σ : L2.St} {H : Hp} {Q Q' : L2.St → Hp → Prop}, t.within vs = true → (∀ σ2 H2, Q σ2 H2 → Q' σ2 H2) → gOf ω C K t v σ H Q → gOf ω C K t v σ H Q'
  | .nm i, v, σ, H, Q, Q', _, k, h => k _ _ h
  | .tp ts, v, σ, H, Q, Q', w, k, h => by
    rcases h with ⟨a, xs, e1, e2, e3, h⟩ | ⟨a, xs, e1, e2, e3, h⟩
    · exact .inl ⟨a, xs, e1, e2, e3, gs_mono ts (by simpa [MT.within] using w) k h⟩
    · exact .inr ⟨a, xs, e1, e2, e3, gs_mono ts (by simpa [MT.within] using w) k h⟩
  | .sub o i, v, σ, H, Q, Q', w, k, h => by simp [MT.within] at w
theorem gs_mono {vs : List Nat} : ∀ (t : MTs) {v : List V} {σ : L2.St} {H : Hp} {Q Q' : L2.St → Hp → Prop}, t.within vs = true → (∀ σ2 H2, Q σ2 H2 → Q' σ2 H2) → gsOf ω C K t v σ H Q → gsOf ω C K t v σ H Q'
  | .nil, v, σ, H, Q, Q', _, k, h => ⟨h.1, k _ _ h.2⟩
  | .cons t r, v, σ, H, Q, Q', w, k, h => by
    simp only [MTs.within, Bool.and_eq_true] at w
    obtain ⟨x, xs, e, h⟩ := h
    exact ⟨x, xs, e, g_mono t w.1 (fun σ2 H2 q => gs_mono r w.2 k q) h⟩
end
end
end Mp

/-! What is walked; list comprehensions. -/
namespace Mp
open PySem PySem.Spec PyProof.Rows L2

/-- J gives ds one by one, while what it leans on stands -/
structure Wkd (mg : Mg) (R : Addr → Prop) (H : Hp) (c : List Addr) (M : Cs) (J : It) (ds : List D) (ws : List Nat) : Prop where
  go : ∀ R' H' c' M' i, CM mg R' H' c' M' → Gr H (Lv R c M) c H' (Lv R' c' M') c' → same ws M M' = true → i < ds.length → J.go i H'
  stop : ∀ R' H' c' M', CM mg R' H' c' M' → Gr H (Lv R c M) c H' (Lv R' c' M') c' → same ws M M' = true → J.stop ds.length H'
  yld : ∀ R' H' c' M' i x H'', CM mg R' H' c' M' → Gr H (Lv R c M) c H' (Lv R' c' M') c' → same ws M M' = true → i < ds.length → J.yld i H' x H'' → ∃ d, ds[i]? = some d ∧ Aft mg R' H' c' M' M' H'' c' ∧ Rp mg H'' (Lv R' c' M') c' d x
def rlI (ω : Wk) : Rl (List D × List Nat) It := fun R H c M p J => Wkd ω.mg R H c M J p.1 p.2
abbrev tI (ω : Wk) (f : En → Cs → Res (List D × List Nat)) : TI := Snd ω (rlI ω) f
theorem _root_.L2.PI.imp {X : Cx} {tg e : Expr} {t u : TI} (h : PI X tg e t) (k : ∀ σ H Q, u σ H Q → t σ H Q) : PI X tg e u := ⟨fun pins s σ H Q I q => h.run pins s σ H Q I (k σ H Q q)⟩
theorem _root_.L2.PI.or {X : Cx} {tg e : Expr} {t u : TI} (h : PI X tg e t) (k : PI X tg e u) : PI X tg e (fun σ H R => t σ H R ∨ u σ H R) :=
  ⟨fun pins s σ H Q I q => q.elim (h.run pins s σ H Q I) (k.run pins s σ H Q I)⟩

section
variable {ω : Wk} {C : Cl} {σ : L2.St} {H : Hp} {X : Cx} {K : PySem.W.Frag} {mg : Mg} {R : Addr → Prop} {c : List Addr} {M : Cs} {a b : Addr} {ds es : List D} {ws us : List Nat} {x y : D}
/-- the row at a -/
def RowL (mg : Mg) (R : Addr → Prop) (H : Hp) (c : List Addr) (M : Cs) (a : Addr) (ds : List D) (ws : List Nat) : Prop := ∀ R' H' c' M', CM mg R' H' c' M' → Gr H (Lv R c M) c H' (Lv R' c' M') c' → same ws M M' = true → ∃ vs, H' a = some (.lst vs) ∧ RpL mg H' (Lv R' c' M') c' ds vs
def RowT (mg : Mg) (R : Addr → Prop) (H : Hp) (c : List Addr) (M : Cs) (a : Addr) (ds : List D) : Prop := ∀ R' H' c' M', CM mg R' H' c' M' → Gr H (Lv R c M) c H' (Lv R' c' M') c' → ∃ vs, H' a = some (.tup vs) ∧ RpL mg H' (Lv R' c' M') c' ds vs
theorem row_of {v : V} (m : CM mg R H c M) (r : Rp mg H (Lv R c M) c x v) (e : itemsD M x = some ds) : ∃ a, v = .ref a ∧ ((rd M x = some (.lst ds) ∧ RowL mg R H c M a ds (watch x)) ∨ (rd M x = some (.tup ds) ∧ RowT mg R H c M a ds)) := by
  unfold itemsD at e
  split at e
  · rename_i xs e1
    simp only [Option.some.injEq] at e; subst e
    have : x = .tup xs := by
      cases x <;> simp only [rd] at e1 <;> first | (split at e1 <;> first | (rename_i u he; simp at e1; subst e1; have := (m.obj _ _ he); obtain ⟨_, _, z⟩ := this; exact z.elim) | cases e1) | (cases e1; try rfl)
    subst this
    simp only [Rp] at r
    obtain ⟨a, vs, rfl, h1, h2, h3⟩ := r
    exact ⟨a, rfl, .inr ⟨e1, fun R' H' c' M' m' g => ⟨vs, (g.keep a _ h1 h2).1, h3.mono g⟩⟩⟩
  · rename_i xs e1
    simp only [Option.some.injEq] at e; subst e
    cases x <;> simp only [rd, Option.some.injEq, reduceCtorEq] at e1
    case lst ys =>
      have e2 : ys = xs := by simpa using e1
      subst e2
      simp only [Rp] at r
      obtain ⟨a, vs, rfl, h1, h2, h3⟩ := r
      exact ⟨a, rfl, .inl ⟨rfl, fun R' H' c' M' m' g _ => ⟨vs, (g.keep a _ h1 h2).1, h3.mono g⟩⟩⟩
    case cell n =>
      have e1' := e1
      split at e1
      · rename_i u he
        have e2 : u = .lst xs := by simpa using e1
        subst e2
        simp only [Rp] at r
        obtain ⟨a, rfl, hc⟩ := r
        refine ⟨a, rfl, .inl ⟨by simp only [rd]; exact e1', fun R' H' c' M' m' g w => ?_⟩⟩
        have hw : M'[n]? = M[n]? := by simpa [same, watch] using w
        obtain ⟨a', k1, k2⟩ := m'.obj n (.lst xs) (hw.trans he)
        rw [g.pre n (List.getElem?_eq_some_iff.mp hc).1, hc] at k1
        cases k1
        exact k2
      · cases e1
  · cases e
theorem wkd_lst (h : RowL mg R H c M a ds ws) : Wkd mg R H c M (Itl K a) ds ws where
  go := fun R' H' c' M' i m g w hi => by
    obtain ⟨vs, h1, h2⟩ := h R' H' c' M' m g w
    exact ⟨vs, vs[i]'(by rw [h2.len]; exact hi), SqL.of h1, List.getElem?_eq_getElem _⟩
  stop := fun R' H' c' M' m g w => by
    obtain ⟨vs, h1, h2⟩ := h R' H' c' M' m g w
    exact ⟨vs, SqL.of h1, by rw [h2.len]; exact Nat.le_refl _⟩
  yld := fun R' H' c' M' i x H'' m g w hi q => by
    obtain ⟨rfl, q⟩ := q
    obtain ⟨vs, h1, h2⟩ := h R' _ c' M' m g w
    obtain ⟨d, e1, e2⟩ := h2.get' (q vs (SqL.of h1))
    exact ⟨d, e1, Aft.refl m, e2⟩
theorem wkd_tup (h : RowT mg R H c M a ds) : Wkd mg R H c M (Itt K a) ds ws where
  go := fun R' H' c' M' i m g w hi => by
    obtain ⟨vs, h1, h2⟩ := h R' H' c' M' m g
    exact ⟨vs, vs[i]'(by rw [h2.len]; exact hi), SqT.of h1, List.getElem?_eq_getElem _⟩
  stop := fun R' H' c' M' m g w => by
    obtain ⟨vs, h1, h2⟩ := h R' H' c' M' m g
    exact ⟨vs, SqT.of h1, by rw [h2.len]; exact Nat.le_refl _⟩
  yld := fun R' H' c' M' i x H'' m g w hi q => by
    obtain ⟨rfl, q⟩ := q
    obtain ⟨vs, h1, h2⟩ := h R' _ c' M' m g
    obtain ⟨d, e1, e2⟩ := h2.get' (q vs (SqT.of h1))
    exact ⟨d, e1, Aft.refl m, e2⟩
theorem rng_len (i : Int) (n : Nat) : ((List.range n).map fun k : Nat => D.int (i + k)).length = n := by simp
theorem wkd_rng {i : Int} {n : Nat} : Wkd mg R H c M (Itr i n) ((List.range n).map fun k : Nat => .int (i + k)) ws where
  go := fun _ _ _ _ j _ _ _ hj => by rw [rng_len] at hj; exact hj
  stop := fun _ _ _ _ _ _ _ => by rw [rng_len]; exact Nat.le_refl _
  yld := fun R' H' c' M' j x H'' m g w hj q => by
    obtain ⟨rfl, rfl⟩ := q
    rw [rng_len] at hj
    exact ⟨.int (i + j), by simp [hj], Aft.refl m, by simp [Rp]⟩
theorem same_app : same (ws ++ us) M M = true := by simp [same]
theorem same_split {M' : Cs} (h : same (ws ++ us) M M' = true) : same ws M M' = true ∧ same us M M' = true := by
  simpa [same, List.all_append] using h
theorem pair_new {H' : Hp} {d e : D} {v u : V} {T : Addr} (m : CM mg R H c M) (hT : H T = none) (r1 : Rp mg H (Lv R c M) c d v) (r2 : Rp mg H (Lv R c M) c e u) :
    Aft mg R H c M M (upd H T (.tup [v, u])) c ∧ Rp mg (upd H T (.tup [v, u])) (Lv R c M) c (.tup [d, e]) (.ref T) := by
  refine ⟨⟨Stp.new m hT, m.new hT⟩, ?_⟩
  simp only [Rp]
  exact ⟨T, [v, u], rfl, upd_same, m.fresh hT, RpL.mono (Stp.new m hT).gr _ (RpL.cons r1 (RpL.cons r2 RpL.nil))⟩
theorem enum_len : (enumD ds).length = ds.length := by simp [enumD]
theorem wkd_enum (h : RowL mg R H c M a ds ws) : Wkd mg R H c M (Ite K a) (enumD ds) ws where
  go := fun R' H' c' M' i m g w hi => by
    obtain ⟨vs, h1, h2⟩ := h R' H' c' M' m g w
    rw [enum_len] at hi
    exact ⟨vs, vs[i]'(by rw [h2.len]; exact hi), SqL.of h1, List.getElem?_eq_getElem _⟩
  stop := fun R' H' c' M' m g w => by
    obtain ⟨vs, h1, h2⟩ := h R' H' c' M' m g w
    exact ⟨vs, SqL.of h1, by rw [h2.len, enum_len]; exact Nat.le_refl _⟩
  yld := fun R' H' c' M' i x H'' m g w hi q => by
    obtain ⟨T, z, rfl, hT, rfl, q⟩ := q
    obtain ⟨vs, h1, h2⟩ := h R' H' c' M' m g w
    obtain ⟨d, e1, e2⟩ := h2.get' (q vs (SqL.of h1))
    obtain ⟨k1, k2⟩ := pair_new (H' := H') m hT (d := .int (i : Nat)) (v := .int (i : Nat)) (by simp [Rp]) e2
    refine ⟨.tup [.int (i : Nat), d], ?_, k1, k2⟩
    have hlt : i < ds.length := by rw [enum_len] at hi; exact hi
    have e3 : ds[i] = d := by rw [List.getElem?_eq_getElem hlt] at e1; simpa using e1
    simp [enumD, hlt, e3]
theorem zip_len : (zipD ds es).length = min ds.length es.length := by simp [zipD]
theorem zip_get {i : Nat} {d e : D} (h1 : ds[i]? = some d) (h2 : es[i]? = some e) : (zipD ds es)[i]? = some (.tup [d, e]) := by
  rw [zipD, List.getElem?_map, List.getElem?_zip_eq_some (z := (d, e)) |>.mpr ⟨h1, h2⟩]
  rfl
theorem wkd_zipL (h : RowL mg R H c M a ds ws) (k : RowL mg R H c M b es us) : Wkd mg R H c M (Itz K a b) (zipD ds es) (ws ++ us) where
  go := fun R' H' c' M' i m g w hi => by
    obtain ⟨vs, h1, h2⟩ := h R' H' c' M' m g (same_split w).1
    obtain ⟨zs, k1, k2⟩ := k R' H' c' M' m g (same_split w).2
    rw [zip_len] at hi
    exact ⟨vs, zs, vs[i]'(by rw [h2.len]; omega), zs[i]'(by rw [k2.len]; omega), SqL.of h1, SqL.of k1, by simp, by simp⟩
  stop := fun R' H' c' M' m g w => by
    obtain ⟨vs, h1, h2⟩ := h R' H' c' M' m g (same_split w).1
    obtain ⟨zs, k1, k2⟩ := k R' H' c' M' m g (same_split w).2
    exact ⟨vs, zs, SqL.of h1, SqL.of k1, by rw [h2.len, k2.len, zip_len]; omega⟩
  yld := fun R' H' c' M' i x H'' m g w hi q => by
    obtain ⟨T, z1, z2, rfl, hT, rfl, q1, q2⟩ := q
    obtain ⟨vs, h1, h2⟩ := h R' H' c' M' m g (same_split w).1
    obtain ⟨zs, k1, k2⟩ := k R' H' c' M' m g (same_split w).2
    obtain ⟨d, e1, e2⟩ := h2.get' (q1 vs (SqL.of h1))
    obtain ⟨e, f1, f2⟩ := k2.get' (q2 zs (SqL.of k1))
    obtain ⟨g1, g2⟩ := pair_new (H' := H') m hT e2 f2
    exact ⟨.tup [d, e], zip_get e1 f1, g1, g2⟩
theorem wkd_zipT (h : RowT mg R H c M a ds) (k : RowT mg R H c M b es) : Wkd mg R H c M (RZ.ItzT K a b) (zipD ds es) ws where
  go := fun R' H' c' M' i m g w hi => by
    obtain ⟨vs, h1, h2⟩ := h R' H' c' M' m g
    obtain ⟨zs, k1, k2⟩ := k R' H' c' M' m g
    rw [zip_len] at hi
    exact ⟨vs, zs, vs[i]'(by rw [h2.len]; omega), zs[i]'(by rw [k2.len]; omega), SqT.of h1, SqT.of k1, by simp, by simp⟩
  stop := fun R' H' c' M' m g w => by
    obtain ⟨vs, h1, h2⟩ := h R' H' c' M' m g
    obtain ⟨zs, k1, k2⟩ := k R' H' c' M' m g
    exact ⟨vs, zs, SqT.of h1, SqT.of k1, by rw [h2.len, k2.len, zip_len]; omega⟩
  yld := fun R' H' c' M' i x H'' m g w hi q => by
    obtain ⟨T, z1, z2, rfl, hT, rfl, q1, q2⟩ := q
    obtain ⟨vs, h1, h2⟩ := h R' H' c' M' m g
    obtain ⟨zs, k1, k2⟩ := k R' H' c' M' m g
    obtain ⟨d, e1, e2⟩ := h2.get' (q1 vs (SqT.of h1))
    obtain ⟨e, f1, f2⟩ := k2.get' (q2 zs (SqT.of k1))
    obtain ⟨g1, g2⟩ := pair_new (H' := H') m hT e2 f2
    exact ⟨.tup [d, e], zip_get e1 f1, g1, g2⟩

/-! ### the forms of what is walked -/
theorem i_seq {e : ME} {Q : It → Hp → Prop} (h : tI ω (evI C (.seq e)) σ H Q) : iList K (tE ω (evE C e)) σ H Q ∨ iTup K (tE ω (evE C e)) σ H Q := by
  obtain ⟨R, c, σd, M, m, rs, h⟩ := h
  rw [evI] at h
  cases e1 : evE C e σd M with
  | bad => rw [e1] at h; exact h.elim
  | ex x M1 =>
    rw [e1] at h
    exact .inl ⟨R, c, σd, M, m, rs, by rw [e1]; exact h⟩
  | ok x M1 =>
    rw [e1, ok_bind] at h
    cases e2 : itemsD M1 x with
    | none => rw [e2] at h; exact h.elim
    | some ds =>
      rw [e2] at h
      cases e3 : rd M1 x with
      | none => simp [itemsD, e3] at e2
      | some z =>
        by_cases hz : ∃ ys, z = .tup ys
        · obtain ⟨ys, rfl⟩ := hz
          refine .inr ⟨R, c, σd, M, m, rs, Post.eq e1 fun v H1 c1 a1 r1 => ?_⟩
          obtain ⟨a, rfl, k⟩ := row_of a1.2 r1 e2
          rcases k with ⟨k, _⟩ | ⟨k, w⟩
          · rw [e3] at k; cases k
          · obtain ⟨vs, h1, _⟩ := w R H1 c1 M1 a1.2 (Stp.refl R H1 c1 M1).gr
            exact ⟨a, rfl, ⟨vs, SqT.of h1⟩, h _ H1 c1 a1 (wkd_tup w)⟩
        · refine .inl ⟨R, c, σd, M, m, rs, Post.eq e1 fun v H1 c1 a1 r1 => ?_⟩
          obtain ⟨a, rfl, k⟩ := row_of a1.2 r1 e2
          rcases k with ⟨k, w⟩ | ⟨k, _⟩
          · obtain ⟨vs, h1, _⟩ := w R H1 c1 M1 a1.2 (Stp.refl R H1 c1 M1).gr (by simp [same])
            exact ⟨a, rfl, ⟨vs, SqL.of h1⟩, h _ H1 c1 a1 (wkd_lst w)⟩
          · rw [e3] at k; cases k; exact (hz ⟨_, rfl⟩).elim
theorem rngD_some {p q : D} {zs : List D} (h : rngD p q = some zs) : ∃ i j : Int, p = .int i ∧ q = .int j ∧ (-(2 ^ 62) ≤ i ∧ i < 2 ^ 62 ∧ -(2 ^ 62) ≤ j ∧ j < 2 ^ 62) ∧ zs = (List.range (j - i).toNat).map fun n : Nat => .int (i + n) := by
  cases p <;> cases q <;> simp only [rngD] at h <;> try contradiction
  rename_i i j
  split at h
  · rename_i k
    simp only [Bool.and_eq_true, decide_eq_true_eq] at k
    cases h
    exact ⟨i, j, rfl, rfl, ⟨k.1.1.1, k.1.1.2, k.1.2, k.2⟩, rfl⟩
  · cases h
theorem i_rng {p q : ME} {Q : It → Hp → Prop} (h : tI ω (evI C (.rng p q)) σ H Q) : iRng2 (tCons (tE ω (evE C p)) (tCons (tE ω (evE C q)) tNil)) σ H Q := by
  obtain ⟨R, c, σd, M, m, rs, h⟩ := h
  rw [evI] at h
  refine ⟨R, c, σd, M, m, rs, h.bind fun x M1 v H1 c1 a1 r1 h1 => ⟨R, c1, σd, M1, a1.2, rs.mono a1.1.gr, h1.bind fun y M2 u H2 c2 a2 r2 h2 => ?_⟩⟩
  obtain ⟨d, e, h3⟩ := h2.opt
  simp only [Option.map_eq_some_iff] at e
  obtain ⟨zs, e, rfl⟩ := e
  obtain ⟨i, j, rfl, rfl, k, rfl⟩ := rngD_some e
  simp only [rlD, Rp] at r1 r2
  exact ⟨i, j, by rw [r1, r2], k, h3 _ H2 c2 (Aft.refl a2.2) wkd_rng⟩
theorem i_rng1 {q : ME} {Q : It → Hp → Prop} (h : tI ω (evI C (.rng (.con (.int 0)) q)) σ H Q) : iRng1 (tCons (tE ω (evE C q)) tNil) σ H Q := by
  obtain ⟨R, c, σd, M, m, rs, h⟩ := h
  rw [evI, evE, ok_bind] at h
  refine ⟨R, c, σd, M, m, rs, h.bind fun y M2 u H2 c2 a2 r2 h2 => ?_⟩
  obtain ⟨d, e, h3⟩ := h2.opt
  simp only [Option.map_eq_some_iff] at e
  obtain ⟨zs, e, rfl⟩ := e
  obtain ⟨i, j, e1, rfl, k, rfl⟩ := rngD_some e
  cases e1
  simp only [rlD, Rp] at r2
  have h4 := h3 (Itr 0 j.toNat) H2 c2 (Aft.refl a2.2) (by
    have : (j - 0).toNat = j.toNat := by rw [Int.sub_zero]
    show Wkd _ _ _ _ _ _ _ _
    rw [this]
    exact wkd_rng)
  exact ⟨j, by rw [r2], k.2.2.1, k.2.2.2, h4⟩
/-! ### range(a, -1, -1), list(range(..)) -/
theorem wkd_rdn {R : Addr → Prop} {c : List Addr} {M : Cs} {ws : List Nat} {mg : Mg} {i : Int} {n : Nat} : Wkd mg R H c M (Itc i (-1) n) ((List.range n).map fun k : Nat => .int (i - k)) ws where
  go := fun _ _ _ _ j _ _ _ hj => by rw [List.length_map, List.length_range] at hj; exact hj
  stop := fun _ _ _ _ _ _ _ => by rw [List.length_map, List.length_range]; exact Nat.le_refl _
  yld := fun R' H' c' M' j x H'' m g w hj q => by
    obtain ⟨rfl, rfl⟩ := q
    rw [List.length_map, List.length_range] at hj
    exact ⟨.int (i - j), by simp [hj], Aft.refl m, by simp [Rp, Int.sub_eq_add_neg]⟩
/-- -1 -/
def tM1 : TE := tUn (rU fun i => .int (-i)) (tC (.int 1))
theorem i_rdn {p : ME} {Q : It → Hp → Prop} (h : tI ω (evI C (.rdn p)) σ H Q) : iRng3 (tCons (tE ω (evE C p)) (tCons tM1 (tCons tM1 tNil))) σ H Q := by
  obtain ⟨R, c, σd, M, m, rs, h⟩ := h
  rw [evI] at h
  refine ⟨R, c, σd, M, m, rs, h.bind fun x M1 v H1 c1 a1 r1 h1 => ?_⟩
  obtain ⟨d, e, h3⟩ := h1.opt
  simp only [Option.map_eq_some_iff] at e
  obtain ⟨zs, e, rfl⟩ := e
  cases x <;> simp only [rdnD] at e <;> try contradiction
  rename_i i
  split at e
  · rename_i k
    simp only [Bool.and_eq_true, decide_eq_true_eq] at k
    cases e
    simp only [rlD, Rp] at r1
    refine ⟨1, rfl, 1, rfl, i, -1, -1, (i + 1).toNat, by rw [r1], ?_, h3 _ H1 c1 (Aft.refl a1.2) wkd_rdn⟩
    have := RgC.neg (i := i) (j := -1) k.1 k.2 (by omega) (by omega)
    rw [show i - -1 = i + 1 by omega] at this
    exact this
  · cases e
theorem rgV_rp {mg : Mg} {U : Addr → Prop} {c : List Addr} (i : Int) : ∀ n : Nat, RpL mg H U c ((List.range n).map fun k : Nat => .int (i + k)) ((List.range n).map fun k : Nat => V.int (i + k)) := fun n => by
  have key : ∀ ks : List Nat, RpL mg H U c (ks.map fun k : Nat => .int (i + k)) (ks.map fun k : Nat => V.int (i + k)) := fun ks => by
    induction ks with
    | nil => exact RpL.nil
    | cons k ks ih => exact RpL.cons (by simp [Rp]) ih
  exact key _
theorem sF_lrng {Q : VK} {p q : ME} (h : tF ω (evE C (.lrng p q)) σ H Q) : tLstRg (tRg2 (tE ω (evE C p)) (tE ω (evE C q))) σ H Q := by
  obtain ⟨R, c, σd, M, m, rs, h⟩ := h
  dsimp only at h
  rw [evE, bind_assoc] at h
  refine ⟨R, c, σd, M, m, rs, h.bind fun x M1 v H1 c1 a1 r1 h1 => ?_⟩
  rw [bind_assoc] at h1
  refine ⟨R, c1, σd, M1, a1.2, rs.mono a1.1.gr, h1.bind fun y M2 u H2 c2 a2 r2 h2 => ?_⟩
  obtain ⟨d, e, h3⟩ := nw_opt h2
  simp only [Option.bind_eq_some_iff] at e
  obtain ⟨zs, e, e2⟩ := e
  obtain ⟨i, j, rfl, rfl, k, rfl⟩ := rngD_some e
  split at e2
  · rename_i hl
    cases e2
    simp only [rlD, Rp] at r1 r2
    rw [List.length_map, List.length_range] at hl
    refine ⟨i, j, r1, r2, ⟨k.1, k.2.1, k.2.2.1, k.2.2.2, hl⟩, fun l hl2 => ?_⟩
    exact h3.2 (l, .lst (rgV i j)) H2 c2 (Aft.refl a2.2) ⟨_, rfl, rgV_rp i _⟩ hl2
  · cases e2
theorem sF_lrng1 {Q : VK} {q : ME} (h : tF ω (evE C (.lrng (.con (.int 0)) q)) σ H Q) : tLstRg (tRg1 (tE ω (evE C q))) σ H Q := by
  obtain ⟨R, c, σd, M, m, rs, h⟩ := h
  dsimp only at h
  rw [evE, bind_assoc, evE, ok_bind, bind_assoc] at h
  refine ⟨R, c, σd, M, m, rs, h.bind fun y M2 u H2 c2 a2 r2 h2 => ?_⟩
  obtain ⟨d, e, h3⟩ := nw_opt h2
  simp only [Option.bind_eq_some_iff] at e
  obtain ⟨zs, e, e2⟩ := e
  obtain ⟨i, j, e1, rfl, k, rfl⟩ := rngD_some e
  cases e1
  split at e2
  · rename_i hl
    cases e2
    simp only [rlD, Rp] at r2
    rw [List.length_map, List.length_range] at hl
    refine ⟨j, r2, ⟨k.1, k.2.1, k.2.2.1, k.2.2.2, hl⟩, fun l hl2 => ?_⟩
    exact h3.2 (l, .lst (rgV 0 j)) H2 c2 (Aft.refl a2.2) ⟨_, rfl, rgV_rp 0 _⟩ hl2
  · cases e2
end
end Mp

/-! enumerate over a tuple; the forms enumerate, zip. -/
namespace Mp
open PySem PySem.Spec PyProof.Rows L2
open Sem (wp)

section
variable {prog : Program} {w : World} {A : Around} {E : Value → Shared → Prop} {s : Shared}
theorem meets_enum1 {v : Value} {oi : Obj} {Hv : Heap → Prop} (B : Begins v oi Hv) :
    Meets (Builtin.«enumerate.__new__» ⟨[.type "enumerate", v], []⟩) (fun _ R s1 => Hv s1.heap ∧ R (.ok (.ret (.ref (s1.heap.push oi).objs.size)))
      { s1 with heap := (s1.heap.push oi).push { cls := .type "enumerate", data := .fields #[.none, .bool false, .ref s1.heap.objs.size, rawInt 0, .none, .none] } }) :=
  .of_wp fun prog w A R s h => by
    obtain ⟨hq, gq, dq, tq, oq⟩ := s
    obtain ⟨hv, hk⟩ := h
    have _sub := sub_enumerate
    have itv : ∀ {A' : Around} {E : Value → Shared → Prop} {Q : Value → Shared → Prop}, Q (.ref hq.objs.size) ⟨hq.push oi, gq, dq, tq, oq⟩ → wpAny (model prog w) A' (pyIter v) Q E ⟨hq, gq, dq, tq, oq⟩ := fun q => B.iter prog w _ _ ⟨hq, gq, dq, tq, oq⟩ _ hv q
    wp_walk using itv
    refine wpAny_stack_any fun st => wpAny_pure ?_
    split
    · rename_i cq _ _ _ _ _
      cases (cq == Value.type "enumerate")
      all_goals
        wp_walk using itv
        exact ⟨_, rfl, hk⟩
    · wp_walk using itv
      exact ⟨_, rfl, hk⟩
/-- enumerate(t): its two new records -/
theorem call_enum1 {t : Addr} {its : Array Value} {Q : Value → Shared → Prop} (ht : s.heap.IsTuple t its)
    (k : ∀ hn, IsEnum hn (s.heap.objs.size + 1) s.heap.objs.size 0 .none → hn.IsTupleIter s.heap.objs.size t 0 → (∀ b o, s.heap.get? b = some o → hn.get? b = some o) → Q (.ref (s.heap.objs.size + 1)) { s with heap := hn }) :
    wpAny (model prog w) A (call (.type "enumerate") [.ref t]) Q E s := by
  refine callType_new F.called_enumerate (by decide) (F.typeCall_enumerate_1 _) (F.newCall_enumerate_1 _) (fun ob => F.args_object_init_2 ob _) F.entry_enumerate_new (meets_enum1 (begins_tuple t its)) ⟨ht, ?_⟩
  generalize hoi : ({ cls := .type "tuple_iterator", data := .fields #[.ref t, .int 0 0] } : Obj) = oi
  have size1 : (s.heap.push oi).objs.size = s.heap.objs.size + 1 := Heap.size_push ..
  show _ ∧ _
  rw [size1]
  have here : IsEnum ((s.heap.push oi).push { cls := .type "enumerate", data := .fields #[.none, .bool false, .ref s.heap.objs.size, rawInt 0, .none, .none] }) (s.heap.objs.size + 1) s.heap.objs.size 0 .none := by
    have e := Heap.get?_push_size (s.heap.push oi) (o := { cls := .type "enumerate", data := .fields #[.none, .bool false, .ref s.heap.objs.size, rawInt 0, .none, .none] }) rfl
    rw [size1] at e
    exact e
  exact ⟨⟨_, here, rfl⟩, k _ here ⟨oi, Heap.get?_push_of_some _ (Heap.get?_push_size _ (by rw [← hoi]; rfl)), by rw [← hoi], by rw [← hoi]; rfl⟩ fun b o q => Heap.get?_push_of_some _ (Heap.get?_push_of_some _ q)⟩
end

/-- the tuple at a as it stands at each turn, each item in a new pair -/
def IteT (K : PySem.W.Frag) (a : Addr) : It where
  go := fun i H => ∃ (xs : List V) (x : V), SqT K H a xs ∧ xs[i]? = some x
  yld := fun i H v H' => ∃ T x, v = .ref T ∧ H T = none ∧ H' = upd H T (.tup [.int (i : Nat), x]) ∧ ∀ xs, SqT K H a xs → xs[i]? = some x
  stop := fun i H => ∃ xs : List V, SqT K H a xs ∧ xs.length ≤ i
theorem turn_enumT {P : Program} {w : World} {K : PySem.W.Frag} {elts : List Expr} {kk : Nat} {tpos : Pos} (a e it : Addr) :
    Turn P w K (.Tuple elts kk tpos) (IteT K a) [e, it] e (fun i h => (∃ old, IsEnum h e it ((i : Nat) : Int) old) ∧ h.IsTupleIter it a i ∧ e ≠ it) where
  mem := List.mem_cons_self ..
  obj := by
    rintro i h ⟨⟨old, he⟩, ⟨oi, ho, hc, hd⟩, ne⟩ b hb
    rcases (by simpa using hb : b = e ∨ b = it) with rfl | rfl
    · exact ⟨_, he, fun v q => nomatch q⟩
    · exact ⟨oi, ho, fun v q => by rw [hd] at q; cases q⟩
  keep := by
    rintro i h h' ⟨⟨old, he⟩, hi, ne⟩ k
    exact ⟨⟨old, k e (by simp) _ he⟩, hi.at fun o q => k it (by simp) o q, ne⟩
  item := by
    rintro X rfl rfl rfl hc i pins s σ H E I hf ⟨⟨old, he⟩, hit, ne⟩ ⟨xs, x, hq, hx⟩
    obtain ⟨its, rv, tp, hz⟩ := I.tuple hq
    obtain ⟨u, hu, ru⟩ := rv.get hx
    have tp' : s.heap.IsTuple a its.toArray := let ⟨o, h1, h2, n, h4⟩ := tp; ⟨o, h1, h2, n, h4⟩
    have le : e < s.heap.objs.size := Heap.lt_size he
    have li : it < s.heap.objs.size := let ⟨_, q, _⟩ := hit; Heap.lt_size q
    have na : a ≠ it := fun z => by
      obtain ⟨o1, p1, p2, _⟩ := hit
      obtain ⟨o2, q1, q2, _⟩ := tp'
      rw [z, p1] at q1; cases q1
      rw [p2] at q2; injection q2 with q2; exact absurd q2 (by decide)
    have nae : e ∉ [it, a] := fun z => by
      rcases (by simpa using z : e = it ∨ e = a) with z | z
      · exact ne z
      · obtain ⟨o2, q1, q2, _⟩ := tp'
        rw [← z, show s.heap.get? e = _ from he] at q1
        cases q1; injection q2 with q2; exact absurd q2 (by decide)
    have lt : i < its.toArray.size := by
      have := (List.getElem?_eq_some_iff.mp hu).1
      simpa using this
    refine wpAny_pyNext_enum_itemD (Draws.tuple (A := X.A.in1) (I.ok.hd hc) it a na its.toArray) he ⟨hit, tp'⟩ lt ne nae fun z h1 tk hz1 out st hT hs1 keepb => ?_
    have ez : z = u := by
      have : (its.toArray)[i]? = some u := by simpa using hu
      rw [this] at hz1; cases hz1; rfl
    subst ez
    refine ⟨_, rfl, wpAny_letOwnedTupleGo_enum (s := { s with heap := h1, toks := tk + 1 }) out fun h2 he2 sb => ?_⟩
    have hT2 : h2.get? s.heap.objs.size = some { cls := .type "tuple", data := .seq #[.int i tk, z] } := (sb.2 _ (Nat.ne_of_gt le)).trans hT
    have made : ObjOk X.prog X.w (upd H s.heap.objs.size (.tup [.int (i : Nat), x])) h2 s.heap.objs.size (.tup [.int (i : Nat), x]) := ⟨by show 2 ≤ sizeLine; decide, [.int i tk, z], .cons ⟨_, rfl⟩ (.cons ru .nil), ⟨_, hT2, rfl, _, rfl⟩⟩
    have I1 : Inv X pins σ (upd H s.heap.objs.size (.tup [.int (i : Nat), x])) { s with heap := h2, toks := tk + 1 } :=
      I.turnedNew (ch := [e, it]) (fun b ob hb q => (sb.2 b (fun z => hb (by simp [z]))).trans (keepb b ob (fun z => hb (by simp [z])) (fun z => hb (by simp [z])) q)) hf (Nat.le_refl _) made
    refine ⟨.ref s.heap.objs.size, _, I1, rfl, ⟨_, x, rfl, I.hok.fresh (Nat.le_refl _), rfl, fun ys hy => by rw [I.tuple_inj hy hq]; exact hx⟩, ⟨⟨z, ?_⟩, st.1.at fun o q => (sb.2 it (Ne.symm ne)).trans q, ne⟩, fun b hb => ?_⟩
    · rw [show ((i + 1 : Nat) : Int) = (i : Int) + 1 by omega]; exact he2
    · have hb' : b < s.heap.objs.size := by
        rcases (by simpa using hb : b = e ∨ b = it) with rfl | rfl
        · exact le
        · exact li
      rw [upd_ne (Nat.ne_of_lt hb')]
      exact (hf b hb).1
  done := by
    rintro X rfl rfl rfl hc i pins s σ H E I hf ⟨⟨old, he⟩, hit, ne⟩ ⟨xs, hq, hx⟩
    obtain ⟨its, rv, tp, hz⟩ := I.tuple hq
    have tp' : s.heap.IsTuple a its.toArray := let ⟨o, h1, h2, n, h4⟩ := tp; ⟨o, h1, h2, n, h4⟩
    obtain ⟨f0, f1, f2, f3, f4, f5⟩ := hf it (by simp)
    have hl := rv.length
    have hT : s.TypeIs (.ref e) "enumerate" := ⟨_, he, rfl⟩
    unfold pyNext
    refine wpAny_bind (wpAny_attempt (wpAny_callSpecial?_slot (name := Str.ofString "__next__") hT F.slot_enumerate_next (wpAny_call_entry F.slot_enumerate_next hT F.entry_enumerate_next ?_ (F.args_enumerate_next_1 _))))
    show wpAny _ _ (field (.ref e) 2 >>= _) _ _ _
    refine wpAny_bind (wpAny_field he rfl (x := .ref it) rfl ?_)
    refine wpAny_bind (wpAny_nextOf_tuple_end (I.ok.hd hc) hit tp' (by simp; omega) fun h1 ev ex hx1 => ?_)
    obtain ⟨oe, ho, hc1⟩ := hx1
    exact wpAny_bind (wpAny_isInstance (T := "StopIteration") (b := true) ⟨oe, ho, hc1⟩ isSubtype_stop (wpAny_pure ⟨rfl, I.turned (t' := s.toks) (fun b o hb q => ex b o hb q) f0 f1 f3 f4 f5⟩))
  self := fun A i s Q E st h => let ⟨⟨_, he⟩, _⟩ := st; wpAny_pyIter_enum he h
def iEnumT (K : PySem.W.Frag) (ta : TA) : TI := fun σ H R => ta σ H fun vs H1 => ∃ a xs, vs = [.ref a] ∧ SqT K H1 a xs ∧ R (IteT K a) H1
theorem pi_enumT {X : Cx} {e : Expr} {ta : TA} {p pos tpos : Pos} {elts : List Expr} {kk : Nat} (hg : Gl X "enumerate") (hm : X.mg "enumerate" = none) (ha : PA X [e] ta) (hs : starEach [e] X.env = [(false, eval e X.env)]) : PI X (.Tuple elts kk tpos) (.Call (.Name "enumerate" p) [e] [] pos) (iEnumT X.K ta) := by
  refine ⟨fun pins s σ H R I h => ?_⟩
  refine Call_ (ld_blt I hg hm boot_enumerate (PyProof.Rows.callWith_type1 (thn (ha.run pos pins s σ H _ I h) fun us s1 ⟨vs, H1, I1, r1, a, xs, ex, hq, q⟩ => ?_) hs rfl))
  subst ex
  obtain ⟨u, rfl, ru⟩ := vals1 r1
  obtain rfl : u = Value.ref a := ru
  obtain ⟨its, rv, tp, hz⟩ := I1.tuple hq
  have tp' : s1.heap.IsTuple a its.toArray := let ⟨o, h1, h2, n, h4⟩ := tp; ⟨o, h1, h2, n, h4⟩
  refine call_enum1 tp' fun hn he hit hk => wpAny_pyIter_enum he ?_
  have I2 : Inv X pins σ H1 { s1 with heap := hn } := I1.kept (t' := s1.toks) hk
  refine ⟨s1.heap.objs.size + 1, [s1.heap.objs.size + 1, s1.heap.objs.size], _, _, H1, rfl, I2, turn_enumT a (s1.heap.objs.size + 1) s1.heap.objs.size, ⟨⟨.none, he⟩, hit, Nat.succ_ne_self _⟩, fun b hb => ?_, q⟩
  have up : s1.heap.objs.size ≤ b := by
    rcases (by simpa using hb : b = s1.heap.objs.size + 1 ∨ b = s1.heap.objs.size) with z | z
    · rw [z]; exact Nat.le_add_right _ _
    · rw [z]; exact Nat.le_refl _
  exact I1.fpOk up (I1.hok.fresh up)
section
variable {ω : Wk} {C : Cl} {σ : L2.St} {H : Hp} {X : Cx} {K : PySem.W.Frag} {mg : Mg} {R : Addr → Prop} {c : List Addr} {M : Cs} {a b : Addr} {ds es : List D} {ws us : List Nat}
theorem wkd_enumT (h : RowT mg R H c M a ds) : Wkd mg R H c M (IteT K a) (enumD ds) ws where
  go := fun R' H' c' M' i m g w hi => by
    obtain ⟨vs, h1, h2⟩ := h R' H' c' M' m g
    rw [enum_len] at hi
    exact ⟨vs, vs[i]'(by rw [h2.len]; exact hi), SqT.of h1, List.getElem?_eq_getElem _⟩
  stop := fun R' H' c' M' m g w => by
    obtain ⟨vs, h1, h2⟩ := h R' H' c' M' m g
    exact ⟨vs, SqT.of h1, by rw [h2.len, enum_len]; exact Nat.le_refl _⟩
  yld := fun R' H' c' M' i x H'' m g w hi q => by
    obtain ⟨T, z, rfl, hT, rfl, q⟩ := q
    obtain ⟨vs, h1, h2⟩ := h R' H' c' M' m g
    obtain ⟨d, e1, e2⟩ := h2.get' (q vs (SqT.of h1))
    obtain ⟨k1, k2⟩ := pair_new (H' := H') m hT (d := .int (i : Nat)) (v := .int (i : Nat)) (by simp [Rp]) e2
    refine ⟨.tup [.int (i : Nat), d], ?_, k1, k2⟩
    have hlt : i < ds.length := by rw [enum_len] at hi; exact hi
    have e3 : ds[i] = d := by rw [List.getElem?_eq_getElem hlt] at e1; simpa using e1
    simp [enumD, hlt, e3]
theorem i_enm {e : ME} {Q : It → Hp → Prop} (h : tI ω (evI C (.enm e)) σ H Q) : iEnum K (tCons (tE ω (evE C e)) tNil) σ H Q ∨ iEnumT K (tCons (tE ω (evE C e)) tNil) σ H Q := by
  obtain ⟨R, c, σd, M, m, rs, h⟩ := h
  rw [evI] at h
  cases e1 : evE C e σd M with
  | bad => rw [e1] at h; exact h.elim
  | ex x M1 =>
    rw [e1] at h
    exact .inl ⟨R, c, σd, M, m, rs, by rw [e1]; exact h⟩
  | ok x M1 =>
    rw [e1, ok_bind] at h
    cases e2 : itemsD M1 x with
    | none => rw [e2] at h; exact h.elim
    | some ds =>
      rw [e2] at h
      cases e3 : rd M1 x with
      | none => simp [itemsD, e3] at e2
      | some z =>
        by_cases hz : ∃ ys, z = .tup ys
        · obtain ⟨ys, rfl⟩ := hz
          refine .inr ⟨R, c, σd, M, m, rs, Post.eq e1 fun v H1 c1 a1 r1 => ?_⟩
          obtain ⟨a, rfl, k⟩ := row_of a1.2 r1 e2
          rcases k with ⟨k, _⟩ | ⟨k, w⟩
          · rw [e3] at k; cases k
          · obtain ⟨vs, h1, _⟩ := w R H1 c1 M1 a1.2 (Stp.refl R H1 c1 M1).gr
            exact ⟨a, vs, rfl, SqT.of h1, h _ H1 c1 a1 (wkd_enumT w)⟩
        · refine .inl ⟨R, c, σd, M, m, rs, Post.eq e1 fun v H1 c1 a1 r1 => ?_⟩
          obtain ⟨a, rfl, k⟩ := row_of a1.2 r1 e2
          rcases k with ⟨k, w⟩ | ⟨k, _⟩
          · obtain ⟨vs, h1, _⟩ := w R H1 c1 M1 a1.2 (Stp.refl R H1 c1 M1).gr (by simp [same])
            exact ⟨a, vs, rfl, SqL.of h1, h _ H1 c1 a1 (wkd_enum w)⟩
          · rw [e3] at k; cases k; exact (hz ⟨_, rfl⟩).elim
theorem i_zip {e f : ME} {Q : It → Hp → Prop} (h : tI ω (evI C (.zip e f)) σ H Q) : RZ.iZipA K (tCons (tE ω (evE C e)) (tCons (tE ω (evE C f)) tNil)) σ H Q := by
  obtain ⟨R, c, σd, M, m, rs, h⟩ := h
  rw [evI] at h
  refine ⟨R, c, σd, M, m, rs, h.bind fun x M1 v H1 c1 a1 r1 h1 => ⟨R, c1, σd, M1, a1.2, rs.mono a1.1.gr, h1.bind fun y M2 u H2 c2 a2 r2 h2 => ?_⟩⟩
  obtain ⟨d, e, h3⟩ := h2.opt
  simp only [Option.bind_eq_some_iff] at e
  obtain ⟨xs, e1, e⟩ := e
  split at e
  · rename_i k
    simp only [Option.map_eq_some_iff] at e
    obtain ⟨ys, e2, rfl⟩ := e
    obtain ⟨a, rfl, k1⟩ := row_of a2.2 (r1.mono a2.1.gr) e1
    obtain ⟨b, rfl, k2⟩ := row_of a2.2 r2 e2
    have g := (Stp.refl R H2 c2 M2).gr
    rcases k1 with ⟨q1, w1⟩ | ⟨q1, w1⟩ <;> rcases k2 with ⟨q2, w2⟩ | ⟨q2, w2⟩
    · obtain ⟨vs, g1, _⟩ := w1 R H2 c2 M2 a2.2 g (by simp [same])
      obtain ⟨zs, g2, _⟩ := w2 R H2 c2 M2 a2.2 g (by simp [same])
      exact ⟨a, b, vs, zs, rfl, .inl ⟨SqL.of g1, SqL.of g2, h3 _ H2 c2 (Aft.refl a2.2) (wkd_zipL w1 w2)⟩⟩
    · rw [q1, q2] at k; cases k
    · rw [q1, q2] at k; cases k
    · obtain ⟨vs, g1, _⟩ := w1 R H2 c2 M2 a2.2 g
      obtain ⟨zs, g2, _⟩ := w2 R H2 c2 M2 a2.2 g
      exact ⟨a, b, vs, zs, rfl, .inr ⟨SqT.of g1, SqT.of g2, h3 _ H2 c2 (Aft.refl a2.2) (wkd_zipT w1 w2)⟩⟩
  · cases e
end
end Mp

/-! List comprehensions. -/
namespace Mp
open PySem PySem.Spec PyProof.Rows L2

def hide (D : Addr) (H : Hp) : Hp := fun a => if a = D then none else H a
theorem hide_ne {D a : Addr} {H : Hp} (h : a ≠ D) : hide D H a = H a := if_neg h
theorem hide_same {D : Addr} {H : Hp} : hide D H D = none := if_pos rfl
theorem hide_none {D : Addr} {H : Hp} (h : H D = none) : hide D H = H := by
  funext a
  unfold hide
  split
  · rename_i e; rw [e, h]
  · rfl
theorem hide_upd {D : Addr} {H : Hp} {o : HO} : hide D (upd H D o) = hide D H := by
  funext a
  unfold hide
  split
  · rfl
  · rename_i e; exact upd_ne e
theorem upd_hide {D : Addr} {H : Hp} {o : HO} (h : H D = some o) : upd (hide D H) D o = H := by
  funext a
  unfold upd
  split
  · rename_i e; rw [e, h]
  · rename_i e; exact hide_ne e
def plus (R : Addr → Prop) (D : Addr) : Addr → Prop := fun a => R a ∨ a = D
/-- a step, the object at D apart -/
def SD (R : Addr → Prop) (D : Addr) (H : Hp) (c : List Addr) (M : Cs) (H' : Hp) (c' : List Addr) (M' : Cs) : Prop := Stp R (hide D H) c M (hide D H') c' M'
section
variable {mg : Mg} {R : Addr → Prop} {D : Addr} {H H1 H' H'' : Hp} {c c1 c' c'' : List Addr} {M M1 M' M'' : Cs} {o : HO}
theorem lv_plus {a : Addr} : Lv (plus R D) c M a ↔ Lv R c M a ∨ a = D := by
  unfold Lv plus
  constructor
  · rintro ((h | h) | h)
    · exact .inl (.inl h)
    · exact .inr h
    · exact .inl (.inr h)
  · rintro ((h | h) | h)
    · exact .inl (.inl h)
    · exact .inr h
    · exact .inl (.inr h)
theorem SD.trans (a : SD R D H c M H' c' M') (b : SD R D H' c' M' H'' c'' M'') : SD R D H c M H'' c'' M'' := Stp.trans a b
theorem SD.refl : SD R D H c M H c M := Stp.refl ..
theorem SD.of (nD : ¬ R D) (a : Stp (plus R D) H c M H' c' M') : SD R D H c M H' c' M' := by
  refine ⟨fun b o e n => ?_, a.pre, fun b r => ?_⟩
  · have nb : b ≠ D := fun z => by rw [z, hide_same] at e; cases e
    rw [hide_ne nb] at e
    obtain ⟨k1, k2⟩ := a.keep b o e fun q => (lv_plus.mp q).elim n nb
    exact ⟨by rw [hide_ne nb]; exact k1, fun q => k2 (lv_plus.mpr (.inl q))⟩
  · have nb : b ≠ D := fun z => nD (z ▸ r)
    rw [hide_ne nb, hide_ne nb]
    exact a.res b (.inl r)
theorem SD.gr (a : SD R D H c M H' c' M') : Gr H (Lv (plus R D) c M) c H' (Lv (plus R D) c' M') c' := by
  refine ⟨fun b o e n => ?_, a.pre⟩
  have nb : b ≠ D := fun z => n (lv_plus.mpr (.inr z))
  obtain ⟨k1, k2⟩ := a.keep b o (by rw [hide_ne nb]; exact e) fun q => n (lv_plus.mpr (.inl q))
  rw [hide_ne nb] at k1
  exact ⟨k1, fun q => (lv_plus.mp q).elim k2 nb⟩
/-- from where D was not yet -/
theorem SD.gr0 (h : H D = none) (a : SD R D H c M H' c' M') : Gr H (Lv R c M) c H' (Lv (plus R D) c' M') c' := by
  refine ⟨fun b o e n => ?_, a.pre⟩
  have nb : b ≠ D := ne_of_none e h
  obtain ⟨k1, k2⟩ := a.keep b o (by rw [hide_ne nb]; exact e) n
  rw [hide_ne nb] at k1
  exact ⟨k1, fun q => (lv_plus.mp q).elim k2 nb⟩
theorem SD.upd : SD R D H c M (upd H D o) c M := by
  unfold SD
  rw [hide_upd]
  exact Stp.refl ..
theorem CM.notR (m : CM mg R H c M) (h : H D = none) : ¬ R D := fun r => by
  obtain ⟨o, e, _⟩ := m.there D r
  rw [h] at e; cases e
theorem CM.cne (m : CM mg R H c M) (h : H D = none) {n : Nat} {a : Addr} (l : live M n) (e : c[n]? = some a) : a ≠ D := fun z => by
  obtain ⟨d, e1⟩ := l
  obtain ⟨b, e2, e3⟩ := m.obj n d e1
  rw [e] at e2; cases e2
  obtain ⟨o, e4⟩ := e3.at
  rw [z, h] at e4; cases e4
/-- D is laid and kept apart -/
theorem CM.reserve (m : CM mg R H c M) (h : H D = none) (ho : ∀ vs, o ≠ .tup vs) : CM mg (plus R D) (L2.upd H D o) c M := by
  have g := SD.gr0 (R := R) (c := c) (M := M) h (SD.upd (H := H) (o := o))
  refine ⟨m.len, m.inj, fun n a l e r => ?_, fun a r => ?_, fun n d e => ?_, m.fre⟩
  · rcases r with r | r
    · exact m.nres n a l e r
    · exact m.cne h l e r
  · rcases r with r | r
    · obtain ⟨o', e1, e2⟩ := m.there a r
      exact ⟨o', by rw [upd_ne (ne_of_none e1 h)]; exact e1, e2⟩
    · exact ⟨o, by rw [r]; exact upd_same, ho⟩
  · obtain ⟨a, e1, e2⟩ := m.obj n d e
    exact ⟨a, e1, e2.mono g (upd_ne (m.cne h ⟨d, e⟩ e1))⟩
/-- what stands at D changes -/
theorem CM.upd (m : CM mg (plus R D) H c M) (ho : ∀ vs, o ≠ .tup vs) : CM mg (plus R D) (L2.upd H D o) c M := by
  have g := SD.gr (SD.upd (R := R) (D := D) (H := H) (c := c) (M := M) (o := o))
  refine ⟨m.len, m.inj, m.nres, fun a r => ?_, fun n d e => ?_, m.fre⟩
  · by_cases z : a = D
    · exact ⟨o, by rw [z]; exact upd_same, ho⟩
    · obtain ⟨o', e1, e2⟩ := m.there a r
      exact ⟨o', by rw [upd_ne z]; exact e1, e2⟩
  · obtain ⟨a, e1, e2⟩ := m.obj n d e
    exact ⟨a, e1, e2.mono g (upd_ne fun z => m.nres n a ⟨d, e⟩ e1 (.inr z))⟩
/-- D is given back, hidden -/
theorem CM.unres (m : CM mg (plus R D) H c M) (nD : ¬ R D) : CM mg R (hide D H) c M ∧ Gr H (Lv (plus R D) c M) c (hide D H) (Lv R c M) c := by
  have g : Gr H (Lv (plus R D) c M) c (hide D H) (Lv R c M) c := by
    refine ⟨fun b o e n => ?_, fun _ _ => rfl⟩
    have nb : b ≠ D := fun z => n (lv_plus.mpr (.inr z))
    exact ⟨by rw [hide_ne nb]; exact e, fun q => n (lv_plus.mpr (.inl q))⟩
  refine ⟨⟨m.len, m.inj, fun n a l e r => m.nres n a l e (.inl r), fun a r => ?_, fun n d e => ?_, m.fre⟩, g⟩
  · obtain ⟨o', e1, e2⟩ := m.there a (.inl r)
    exact ⟨o', by rw [hide_ne fun z => by rw [z] at r; exact nD r]; exact e1, e2⟩
  · obtain ⟨a, e1, e2⟩ := m.obj n d e
    exact ⟨a, e1, e2.mono g (hide_ne fun z => m.nres n a ⟨d, e⟩ e1 (.inr z))⟩
theorem same_trans {ws : List Nat} (a : same ws M M1 = true) (b : same ws M1 M' = true) : same ws M M' = true := by
  simp only [same, List.all_eq_true, decide_eq_true_eq] at a b ⊢
  exact fun n hn => (b n hn).trans (a n hn)
end
section
variable {ω : Wk} {C : Cl} {σ : L2.St} {H : Hp} {Q : VK} {K : PySem.W.Frag}
theorem lcGo_ok {M : Cs} {ws : List Nat} {step : D → Cs → Res (List D)} {d : D} {ds acc : List D} (h : lcGo ws step (d :: ds) acc M ≠ .bad) :
    ∃ xs M1, step d M = .ok xs M1 ∧ acc.length + xs.length ≤ sizeLine ∧ same ws M M1 = true ∧ lcGo ws step (d :: ds) acc M = lcGo ws step ds (acc ++ xs) M1 := by
  rw [lcGo] at h
  split at h
  · rename_i xs M1 e
    split at h
    · rename_i k
      simp only [Bool.and_eq_true, decide_eq_true_eq] at k
      refine ⟨xs, M1, e, k.1, k.2, ?_⟩
      rw [lcGo, e]
      simp only
      rw [if_pos (by simp [k.1, k.2])]
    · exact (h rfl).elim
  · exact (h rfl).elim
theorem drop_cons {α : Type} {ds : List α} {i : Nat} {d : α} (e : ds[i]? = some d) : ds.drop i = d :: ds.drop (i + 1) := by
  have hi := (List.getElem?_eq_some_iff.mp e).1
  have := (List.getElem?_eq_some_iff.mp e).2
  rw [List.drop_eq_getElem_cons hi, this]
theorem wipe_in {u : Nat} : ∀ {vs : List Nat} {σ : L2.St}, u ∈ vs → (wipe σ vs).set u none = wipe σ vs
  | v :: vs, σ, h => by
    simp only [wipe]
    by_cases e : u = v
    · rw [e, List.set_set]
    · rw [List.set_comm _ _ (fun z => e z.symm), wipe_in (by simpa [e] using h)]
theorem wipe_sub {vs : List Nat} {σ : L2.St} : ∀ {us : List Nat}, (∀ u ∈ us, u ∈ vs) → wipe (wipe σ vs) us = wipe σ vs
  | [], _ => rfl
  | u :: us, h => by
    simp only [wipe]
    rw [wipe_sub fun x hx => h x (List.mem_cons_of_mem _ hx), wipe_in (h u List.mem_cons_self)]
theorem g_wipe1 {vs : List Nat} (t : MT) {v : V} {σ : L2.St} {H : Hp} {Q : L2.St → Hp → Prop} (w : t.within vs = true) (h : gOf ω C K t v (wipe σ vs) H Q) : gOf ω C K t v (wipe σ vs) H fun σ2 H2 => wipe σ2 vs = wipe σ vs ∧ Q σ2 H2 := by
  have := g_wipe t w h
  rwa [wipe_sub fun _ h => h] at this
theorem s_lc {own : List Nat} {e : ME} {t : MT} {it : MI} {q : MC} (hw : t.within own = true) (h : tF ω (evE C (.lc own e t it q)) σ H Q) :
    tLc (tI ω (evI C it)) (gOf ω.no C K t) (tB ω.no (evC C q)) (tE ω.no (evE C e)) own σ H Q := by
  obtain ⟨R, c, σd, M, m, rs, h⟩ := h
  dsimp only at h
  rw [evE, bind_assoc] at h
  refine ⟨R, c, σd, M, m, rs, h.bind fun p M1 J H1 c1 a1 w h1 D hD => ?_⟩
  obtain ⟨ds, ws⟩ := p
  dsimp only at h1
  generalize hstep : (fun d M => (evT C t d (wip σd own) M).bind fun σ1 M2 => (evC C q σ1 M2).bind fun b M3 => if b = true then (evE C e σ1 M3).bind fun x M4 => Res.ok [x] M4 else .ok [] M3) = step at h1
  have hst : ∀ d M, step d M = (evT C t d (wip σd own) M).bind fun σ1 M2 => (evC C q σ1 M2).bind fun b M3 => if b = true then (evE C e σ1 M3).bind fun x M4 => Res.ok [x] M4 else .ok [] M3 := fun d M => by rw [← hstep]
  clear hstep
  have nb : lcGo ws step ds [] M1 ≠ .bad := fun z => by rw [z] at h1; exact h1
  have nD : ¬ R D := a1.2.notR hD
  have rs1 := rs.mono a1.1.gr
  let Iv : Nat → Hp → Prop := fun i Hh => ∃ c' M' acc vs, CM ω.mg (plus R D) Hh c' M' ∧ SD R D H1 c1 M1 Hh c' M' ∧ same ws M1 M' = true ∧ Hh D = some (.lst vs) ∧ RpL ω.mg Hh (Lv (plus R D) c' M') c' acc vs ∧ lcGo ws step ds [] M1 = lcGo ws step (ds.drop i) acc M'
  refine ⟨fun i n Hh => n = ds.length - i ∧ i ≤ ds.length ∧ Iv i Hh, ⟨ds.length, by simp, Nat.zero_le _, c1, M1, [], [], a1.2.reserve hD (fun _ => nofun), SD.upd, by simp [same], upd_same, RpL.nil, rfl⟩, ?_⟩
  rintro i n Hh ⟨rfl, hi, c', M', acc, vs, m', sd, sm, hDl, hacc, heq⟩
  have g0 := sd.gr0 hD
  rcases Nat.lt_or_ge i ds.length with hlt | hge
  · refine .inr ⟨w.go (plus R D) Hh c' M' i m' g0 sm hlt, Iv (i + 1), fun H' p' => ⟨ds.length - (i + 1), by omega, rfl, hlt, p'⟩, fun x H' y => ?_⟩
    obtain ⟨d, e1, af, rx⟩ := w.yld (plus R D) Hh c' M' i x H' m' g0 sm hlt y
    rw [drop_cons e1] at heq
    obtain ⟨xs, M2, es, hl, sm2, heq2⟩ := lcGo_ok (by rw [← heq]; exact nb)
    rw [heq2] at heq
    have hp : Post ω.no (rlL ω) (plus R D) H' c' M' (wipe σ own) (fun b H4 => ∃ c4, Aft ω.mg (plus R D) H' c' M' M2 H4 c4 ∧ RpL ω.mg H4 (Lv (plus R D) c4 M2) c4 xs b) (step d M') := Post.here (ω := ω.no) es
    rw [hst] at hp
    have sdA := sd.trans (SD.of nD af.1)
    have rsA : RpS ω.mg H' (Lv (plus R D) c' M') c' (wip σd own) (wipe σ own) := ((rs1.mono g0).mono af.1.gr).wip own
    refine g_wipe1 t hw (g_ok t ⟨plus R D, c', wip σd own, M', d, af.2, rsA, rx, hp.bind fun σ1 M3 σ1' H2 c2 a2 r2 h2 => ?_⟩)
    refine ⟨plus R D, c2, σ1, M3, a2.2, r2, (h2.slots).bind fun b M4 b' H3 c3 a3 r3 h3 => ?_⟩
    obtain rfl : b = b' := r3
    have resB : H3 D = some (.lst vs) := by
      rw [a3.1.res D (.inr rfl), a2.1.res D (.inr rfl), af.1.res D (.inr rfl)]; exact hDl
    cases b with
    | false =>
      rw [if_neg (by decide)] at h3 ⊢
      obtain ⟨c4, a4, r4⟩ := h3 [] H3 c3 (Aft.refl a3.2) (by simp [rlL, RpL])
      have ex : xs = [] := by cases xs with | nil => rfl | cons => obtain ⟨_, _, z, _⟩ := RpL.cons_iff.mp r4; cases z
      subst ex
      rw [List.append_nil] at heq
      exact ⟨c4, M2, acc, vs, a4.2, sdA.trans (SD.of nD a4.1), same_trans sm sm2, resB, (hacc.mono af.1.gr).mono a4.1.gr, heq⟩
    | true =>
      rw [if_pos rfl] at h3 ⊢
      refine ⟨plus R D, c3, σ1, M4, a3.2, r2.mono a3.1.gr, h3.bind fun x5 M5 v H4 c5 a5 r5 h5 => ?_⟩
      obtain ⟨c4, a4, r4⟩ := h5 [v] H4 c5 (Aft.refl a5.2) (RpL.cons r5 RpL.nil)
      have l1 := r4.len
      have l2 := hacc.len
      simp at l1
      refine ⟨vs, by rw [a5.1.res D (.inr rfl)]; exact resB, by omega, c4, M2, acc ++ xs, vs ++ [v], a4.2.upd (fun _ => nofun), (sdA.trans (SD.of nD a4.1)).trans SD.upd, same_trans sm sm2, upd_same, ?_, heq⟩
      exact ((((hacc.mono af.1.gr).mono a4.1.gr).app r4).mono SD.upd.gr)
  · obtain rfl : i = ds.length := by omega
    refine .inl ⟨w.stop (plus R D) Hh c' M' m' g0 sm, ?_⟩
    rw [List.drop_length, lcGo] at heq
    rw [heq] at h1
    obtain ⟨u1, u2⟩ := m'.unres nD
    have st : Stp R H1 c1 M1 (hide D Hh) c' M' := by
      have := sd
      unfold SD at this
      rwa [hide_none hD] at this
    have := h1 (D, .lst vs) (hide D Hh) c' ⟨st, u1⟩ ⟨vs, rfl, hacc.mono u2⟩ hide_same
    rwa [upd_hide hDl] at this
end
end Mp

/-! List comprehensions with two clauses. -/
namespace Mp
open PySem PySem.Spec PyProof.Rows L2
theorem Post.bindE {α β γ δ : Type} {ω : Wk} {rel : Rl α β} {rel2 : Rl γ δ} {R : Addr → Prop} {H : Hp} {c : List Addr} {M : Cs} {σ : L2.St} {Q : δ → Hp → Prop} {Q1 : β → Hp → Prop} {g : α → Cs → Res γ} : ∀ {x : Res α}, Post ω rel2 R H c M σ Q (x.bind g) →
    (∀ a M1 b H1 c1, x = .ok a M1 → Aft ω.mg R H c M M1 H1 c1 → rel R H1 c1 M1 a b → Post ω rel2 R H1 c1 M1 σ Q (g a M1) → Q1 b H1) → Post ω rel R H c M σ Q1 x
  | .ok a M1, h, k => fun b H1 c1 a1 r => k a M1 b H1 c1 rfl a1 r (h.shift a1)
  | .ex _ _, h, _ => h
  | .bad, h, _ => h.elim
theorem lcGo_grow {ws : List Nat} {step : D → Cs → Res (List D)} : ∀ {ds acc : List D} {M : Cs} {xs : List D} {M1 : Cs}, lcGo ws step ds acc M = .ok xs M1 → acc.length ≤ xs.length
  | [], acc, M, xs, M1, h => by rw [lcGo] at h; cases h; exact Nat.le_refl _
  | d :: ds, acc, M, xs, M1, h => by
    obtain ⟨ys, M2, _, _, _, e⟩ := lcGo_ok (ws := ws) (step := step) (d := d) (ds := ds) (acc := acc) (M := M) (by rw [h]; nofun)
    rw [e] at h
    have := lcGo_grow h
    rw [List.length_append] at this
    omega
section
variable {ω : Wk} {C : Cl} {σ : L2.St} {H : Hp} {Q : VK} {K : PySem.W.Frag}
theorem s_lc2 {own own1 : List Nat} {e : ME} {t t1 : MT} {it it1 : MI} {q q1 : MC} (hw : t.within own = true) (hw1 : t1.within own1 = true) (h : tF ω (evE C (.lc2 own own1 e t it q t1 it1 q1)) σ H Q) :
    tLc2 (tI ω (evI C it)) (gOf ω.no C K t) (tB ω.no (evC C q)) (tI ω.no (evI C it1)) (gOf ω.no C K t1) (tB ω.no (evC C q1)) (tE ω.no (evE C e)) own own1 σ H Q := by
  obtain ⟨R, c, σd, M, m, rs, h⟩ := h
  dsimp only at h
  rw [evE, bind_assoc] at h
  refine ⟨R, c, σd, M, m, rs, h.bind fun p M1 J H1 c1 a1 w h1 D hD => ?_⟩
  obtain ⟨ds, ws⟩ := p
  dsimp only at h1
  let step1 : En → Mp.D → Cs → Res (List Mp.D) := fun σ1 d1 M => (evT C t1 d1 (wip σ1 own1) M).bind fun σ2 M5 => (evC C q1 σ2 M5).bind fun b1 M6 => if b1 = true then (evE C e σ2 M6).bind fun x M7 => Res.ok [x] M7 else .ok [] M6
  generalize hstep : (fun d M => (evT C t d (wip σd own) M).bind fun σ1 M2 => (evC C q σ1 M2).bind fun b M3 => if b = true then (evI C it1 σ1 M3).bind fun ds1 M4 => lcGo ds1.2 (fun d1 M => (evT C t1 d1 (wip σ1 own1) M).bind fun σ2 M5 => (evC C q1 σ2 M5).bind fun b1 M6 => if b1 = true then (evE C e σ2 M6).bind fun x M7 => Res.ok [x] M7 else .ok [] M6) ds1.1 [] M4 else .ok [] M3) = step at h1
  have hst : ∀ d M, step d M = (evT C t d (wip σd own) M).bind fun σ1 M2 => (evC C q σ1 M2).bind fun b M3 => if b = true then (evI C it1 σ1 M3).bind fun ds1 M4 => lcGo ds1.2 (step1 σ1) ds1.1 [] M4 else .ok [] M3 := fun d M => by rw [← hstep]
  have hst1 : ∀ σ1 d1 M, step1 σ1 d1 M = (evT C t1 d1 (wip σ1 own1) M).bind fun σ2 M5 => (evC C q1 σ2 M5).bind fun b1 M6 => if b1 = true then (evE C e σ2 M6).bind fun x M7 => Res.ok [x] M7 else .ok [] M6 := fun _ _ _ => rfl
  clear_value step1
  clear hstep
  have nb : lcGo ws step ds [] M1 ≠ .bad := fun z => by rw [z] at h1; exact h1
  have nD : ¬ R D := a1.2.notR hD
  have rs1 := rs.mono a1.1.gr
  let Iv : Nat → Hp → Prop := fun i Hh => ∃ c' M' acc vs, CM ω.mg (plus R D) Hh c' M' ∧ SD R D H1 c1 M1 Hh c' M' ∧ same ws M1 M' = true ∧ Hh D = some (.lst vs) ∧ RpL ω.mg Hh (Lv (plus R D) c' M') c' acc vs ∧ lcGo ws step ds [] M1 = lcGo ws step (ds.drop i) acc M'
  refine ⟨fun i n Hh => n = ds.length - i ∧ i ≤ ds.length ∧ Iv i Hh, ⟨ds.length, by simp, Nat.zero_le _, c1, M1, [], [], a1.2.reserve hD (fun _ => nofun), SD.upd, by simp [same], upd_same, RpL.nil, rfl⟩, ?_⟩
  rintro i n Hh ⟨rfl, hi, c', M', acc, vs, m', sd, sm, hDl, hacc, heq⟩
  have g0 := sd.gr0 hD
  rcases Nat.lt_or_ge i ds.length with hlt | hge
  · refine .inr ⟨w.go (plus R D) Hh c' M' i m' g0 sm hlt, Iv (i + 1), fun H' p' => ⟨ds.length - (i + 1), by omega, rfl, hlt, p'⟩, fun x H' y => ?_⟩
    obtain ⟨d, e1, af, rx⟩ := w.yld (plus R D) Hh c' M' i x H' m' g0 sm hlt y
    rw [drop_cons e1] at heq
    obtain ⟨xs, M2, es, hl, sm2, heq2⟩ := lcGo_ok (by rw [← heq]; exact nb)
    rw [heq2] at heq
    have hp : Post ω.no (rlL ω) (plus R D) H' c' M' (wipe σ own) (fun b H4 => True) (step d M') := Post.eq (ω := ω.no) es fun _ _ _ _ _ => trivial
    rw [hst] at hp es
    have sdA := sd.trans (SD.of nD af.1)
    have rsA : RpS ω.mg H' (Lv (plus R D) c' M') c' (wip σd own) (wipe σ own) := ((rs1.mono g0).mono af.1.gr).wip own
    refine g_wipe1 t hw (g_ok t ⟨plus R D, c', wip σd own, M', d, af.2, rsA, rx, hp.bindE fun σ1 M3 σ1' H2 c2 ee2 a2 r2 h2 => ?_⟩)
    refine ⟨plus R D, c2, σ1, M3, a2.2, r2, (h2.slots).bindE fun b M4 b' H3 c3 ee3 a3 r3 h3 => ?_⟩
    obtain rfl : b = b' := r3
    rw [ee2, ok_bind, ee3, ok_bind] at es
    have sdB := (sdA.trans (SD.of nD a2.1)).trans (SD.of nD a3.1)
    have resB : H3 D = some (.lst vs) := by
      rw [a3.1.res D (.inr rfl), a2.1.res D (.inr rfl), af.1.res D (.inr rfl)]; exact hDl
    have accB := ((hacc.mono af.1.gr).mono a2.1.gr).mono a3.1.gr
    cases b with
    | false =>
      rw [if_neg (by decide)] at es ⊢
      cases es
      rw [List.append_nil] at heq
      exact ⟨c3, M2, acc, vs, a3.2, sdB, same_trans sm sm2, resB, accB, heq⟩
    | true =>
      rw [if_pos rfl] at es h3 ⊢
      refine ⟨plus R D, c3, σ1, M4, a3.2, r2.mono a3.1.gr, h3.bindE fun p1 M5 J1 H4 c5 ee5 a5 w1 h5 => ?_⟩
      obtain ⟨ds1, ws1⟩ := p1
      rw [ee5, ok_bind] at es
      dsimp only at es h5
      have nb1 : lcGo ws1 (step1 σ1) ds1 [] M5 ≠ .bad := by rw [es]; nofun
      have sdC := sdB.trans (SD.of nD a5.1)
      have resC : H4 D = some (.lst vs) := by rw [a5.1.res D (.inr rfl)]; exact resB
      have accC := accB.mono a5.1.gr
      have rsC := r2.mono (a3.1.trans a5.1).gr
      let Iv1 : Nat → Hp → Prop := fun j Hh => ∃ c' M' acc1 vs1, CM ω.mg (plus R D) Hh c' M' ∧ SD R D H4 c5 M5 Hh c' M' ∧ same ws1 M5 M' = true ∧ Hh D = some (.lst (vs ++ vs1)) ∧ RpL ω.mg Hh (Lv (plus R D) c' M') c' acc1 vs1 ∧ lcGo ws1 (step1 σ1) ds1 [] M5 = lcGo ws1 (step1 σ1) (ds1.drop j) acc1 M'
      refine ⟨fun j n Hh => n = ds1.length - j ∧ j ≤ ds1.length ∧ Iv1 j Hh, ⟨ds1.length, by simp, Nat.zero_le _, c5, M5, [], [], a5.2, SD.refl, by simp [same], by simpa using resC, RpL.nil, rfl⟩, ?_⟩
      rintro j n Hk ⟨rfl, hj, c6, M6, acc1, vs1, m6, sd6, sm6, hD6, hacc6, heq6⟩
      rcases Nat.lt_or_ge j ds1.length with hlt1 | hge1
      · refine .inr ⟨w1.go (plus R D) Hk c6 M6 j m6 sd6.gr sm6 hlt1, Iv1 (j + 1), fun H' p' => ⟨ds1.length - (j + 1), by omega, rfl, hlt1, p'⟩, fun x1 H6 y1 => ?_⟩
        obtain ⟨d1, e6, af6, rx6⟩ := w1.yld (plus R D) Hk c6 M6 j x1 H6 m6 sd6.gr sm6 hlt1 y1
        rw [drop_cons e6] at heq6
        obtain ⟨xs1, M7, es1, hl1, sm7, heq7⟩ := lcGo_ok (by rw [← heq6]; exact nb1)
        rw [heq7] at heq6
        have grow := lcGo_grow (heq6.symm.trans es)
        rw [List.length_append] at grow
        have hp1 : Post ω.no (rlL ω) (plus R D) H6 c6 M6 (wipe σ1' own1) (fun b H4 => True) (step1 σ1 d1 M6) := Post.eq (ω := ω.no) es1 fun _ _ _ _ _ => trivial
        rw [hst1] at hp1 es1
        have rs6 : RpS ω.mg H6 (Lv (plus R D) c6 M6) c6 σ1 σ1' := (rsC.mono sd6.gr).mono af6.1.gr
        have sd7 := sd6.trans (SD.of nD af6.1)
        refine g_wipe1 t1 hw1 (g_ok t1 ⟨plus R D, c6, wip σ1 own1, M6, d1, af6.2, rs6.wip own1, rx6, hp1.bindE fun σ2 M8 σ2' H7 c7 ee7 a7 r7 h7 => ?_⟩)
        refine ⟨plus R D, c7, σ2, M8, a7.2, r7, (h7.slots).bindE fun b M9 b' H8 c8 ee8 a8 r8 h8 => ?_⟩
        obtain rfl : b = b' := r8
        rw [ee7, ok_bind, ee8, ok_bind] at es1
        have sd8 := (sd7.trans (SD.of nD a7.1)).trans (SD.of nD a8.1)
        have res8 : H8 D = some (.lst (vs ++ vs1)) := by
          rw [a8.1.res D (.inr rfl), a7.1.res D (.inr rfl), af6.1.res D (.inr rfl)]; exact hD6
        have acc8 := ((hacc6.mono af6.1.gr).mono a7.1.gr).mono a8.1.gr
        cases b with
        | false =>
          rw [if_neg (by decide)] at es1 ⊢
          cases es1
          rw [List.append_nil] at heq6
          exact ⟨c8, M7, acc1, vs1, a8.2, sd8, same_trans sm6 sm7, res8, acc8, heq6⟩
        | true =>
          rw [if_pos rfl] at es1 h8 ⊢
          refine ⟨plus R D, c8, σ2, M9, a8.2, r7.mono a8.1.gr, h8.bindE fun z M10 v H9 c9 ee9 a9 r9 h9 => ?_⟩
          rw [ee9, ok_bind] at es1
          cases es1
          have l1 := hacc.len
          have l2 := hacc6.len
          simp only [List.length_singleton] at grow
          refine ⟨vs ++ vs1, by rw [a9.1.res D (.inr rfl)]; exact res8, by rw [List.length_append]; omega, c9, M7, acc1 ++ [z], vs1 ++ [v], a9.2.upd (fun _ => nofun), (sd8.trans (SD.of nD a9.1)).trans SD.upd, same_trans sm6 sm7, by rw [upd_same, List.append_assoc], ?_, heq6⟩
          exact (((acc8.mono a9.1.gr).app (RpL.cons r9 RpL.nil)).mono SD.upd.gr)
      · obtain rfl : j = ds1.length := by omega
        rw [List.drop_length, lcGo, es] at heq6
        cases heq6
        refine .inl ⟨w1.stop (plus R D) Hk c6 M2 m6 sd6.gr sm6, c6, M2, acc ++ xs, vs ++ vs1, m6, sdC.trans sd6, same_trans sm sm2, hD6, (accC.mono sd6.gr).app hacc6, heq⟩
  · obtain rfl : i = ds.length := by omega
    refine .inl ⟨w.stop (plus R D) Hh c' M' m' g0 sm, ?_⟩
    rw [List.drop_length, lcGo] at heq
    rw [heq] at h1
    obtain ⟨u1, u2⟩ := m'.unres nD
    have st : Stp R H1 c1 M1 (hide D Hh) c' M' := by
      have := sd
      unfold SD at this
      rwa [hide_none hD] at this
    have := h1 (D, .lst vs) (hide D Hh) c' ⟨st, u1⟩ ⟨vs, rfl, hacc.mono u2⟩ hide_same
    rwa [upd_hide hDl] at this
end
end Mp

/-! Dict comprehensions, keys of either kind. -/
namespace Mp
open PySem PySem.Spec PyProof.Rows L2

/-- an empty dict of the kind b -/
def dict0 (b : Bool) : HO := if b = true then .dT [] else .dK []
theorem dict0_lay {P : Program} {w : World} {H : Hp} (b : Bool) (h : Heap) (hb : sysModules < h.objs.size) : ObjOk P w H (h.push { cls := .type "dict", data := .dict #[] }) h.objs.size (dict0 b) := by
  cases b
  · exact dk_empty h hb
  · exact dt_empty h hb
section
variable {X : Cx} {pins : List (Addr × Obj)} {σ : L2.St} {H : Hp} {s : Shared}
/-- a key and its value laid into a dict, where no call runs -/
theorem d_lay {A : Around} {E : Value → Shared → Prop} {a : Addr} {y v : V} {u r : Value} {H' : Hp} {Q : Unit → Shared → Prop} (hu : A.units < cLine) (I : Inv X pins σ H s) (g : DPut H a y v H') (ry : RelV y u) (rv : RelV v r) (k : ∀ s', Inv X pins σ H' s' → Q () s') :
    wpAny (model X.prog X.w) A (dictSet a u r) Q E s := by
  rcases g with ⟨kvs, κ, e, rfl, l, rfl⟩ | ⟨kvs, κ, b, e, rfl, eb, l, rfl⟩
  · obtain ⟨z, hd, vs, rel, dd⟩ := dk_of I.hok e
    refine wpAny_dictSet_pairs (hsz := by rw [← rel.length]; exact z) (kV_is ry) dd fun h1 d1 hs => k _ ?_
    refine d_write I (by rw [e]; trivial) hs (let ⟨q, _, _, hq, _⟩ := d1; ⟨q, hq⟩) (dk_new ?_ hd (rel.put κ rv) d1)
    have := length_putK kvs κ v
    omega
  · obtain rfl : u = Value.ref b := ry
    obtain ⟨z, hd, xs, rel, dd⟩ := dt_of I.hok e
    refine wpAny_dictSet_heap (hsz := by rw [← Paired.length rel]; exact z) (show (tupleKind (mixKind X.prog X.w)).room A from hu) (key_of I.hok eb) dd fun h1 d1 hs => k _ ?_
    obtain ⟨q, es, ep, hq, p2, p3, p4, _, p5⟩ := d1
    refine d_write I (by rw [e]; trivial) hs ⟨q, hq⟩ ⟨?_, hd, _, (rel.put κ eb rv).keeps fun c ys ec => ?_, q, es, ep, hq, p2, p3, p4, p5⟩
    · have := length_putK kvs κ v
      omega
    · rw [upd_ne (ne_of ec e (fun z => nomatch z))]
      exact ec
end
theorem dcGo_ok {b : Bool} {ws : List Nat} {step : D → Cs → Res (Option (D × D))} {d : D} {ds ks us : List D} {M : Cs} (h : dcGo b ws step (d :: ds) ks us M ≠ .bad) :
    (∃ M1, step d M = .ok none M1 ∧ same ws M M1 = true ∧ dcGo b ws step (d :: ds) ks us M = dcGo b ws step ds ks us M1) ∨
    (∃ p M1, step d M = .ok (some p) M1 ∧ same ws M M1 = true ∧ isKey b p.1 = true ∧ ks.length < sizeLine ∧ dcGo b ws step (d :: ds) ks us M = dcGo b ws step ds (putD p.1 p.2 ks us).1 (putD p.1 p.2 ks us).2 M1) := by
  rw [dcGo] at h
  split at h
  · rename_i M1 e
    split at h
    · rename_i k
      refine .inl ⟨M1, e, k, ?_⟩
      rw [dcGo, e]
      simp only
      rw [if_pos k]
    · exact (h rfl).elim
  · rename_i p M1 e
    split at h
    · rename_i k
      have k' := k
      simp only [Bool.and_eq_true, decide_eq_true_eq] at k
      refine .inr ⟨p, M1, e, k.1, k.2.1, k.2.2, ?_⟩
      rw [dcGo, e]
      simp only
      rw [if_pos k']
    · exact (h rfl).elim
  · exact (h rfl).elim
/-- the dict at D as keys and values -/
def DctAt (mg : Mg) (H : Hp) (U : Addr → Prop) (c : List Addr) (D : Addr) (b : Bool) (ks us : List Mp.D) : Prop := ∃ o, H D = some o ∧ NwO mg H U c o (.dct b ks us)
theorem DctAt.put {mg : Mg} {H : Hp} {U : Addr → Prop} {c : List Addr} {D : Addr} {b : Bool} {ks us : List Mp.D} {x y : Mp.D} {u v : V} (h : DctAt mg H U c D b ks us) (k : isKey b x = true) (l : ks.length < sizeLine) (rx : Rp mg H U c x u) (ry : Rp mg H U c y v) :
    ∃ o', (∀ vs, o' ≠ .tup vs) ∧ DPut H D u v (upd H D o') ∧ ∀ U', Gr H U c (upd H D o') U' c → DctAt mg (upd H D o') U' c D b (putD x y ks us).1 (putD x y ks us).2 := by
  obtain ⟨o, e, n⟩ := h
  rcases n with ⟨rfl, kvs, rfl, rfl, r⟩ | ⟨rfl, kvs, rfl, rfl, r⟩
  · obtain ⟨κ, rfl⟩ := isKeyK_ok (show isKeyK x = true from k)
    obtain rfl := rx.key
    refine ⟨.dK (putK kvs κ v), (fun _ z => nomatch z), DPut.k e (by simpa using l), fun U' g => ⟨_, upd_same, ?_⟩⟩
    obtain ⟨p1, p2⟩ := put_ok keyD_inj κ (r.mono g) (ry.mono g)
    exact .inl ⟨rfl, _, rfl, p1, p2⟩
  · obtain ⟨κ, rfl⟩ := isKeyT_ok (show isKeyT x = true from k)
    obtain ⟨q, rfl, eq⟩ := rx.keyT
    refine ⟨.dT (putK kvs κ v), (fun _ z => nomatch z), DPut.t e eq (by simpa using l), fun U' g => ⟨_, upd_same, ?_⟩⟩
    obtain ⟨p1, p2⟩ := put_ok keyTD_inj κ (r.mono g) (ry.mono g)
    exact .inr ⟨rfl, _, rfl, p1, p2⟩

section
variable {ω : Wk} {C : Cl} {X : Cx} {K : PySem.W.Frag}
/-- {k: v for t in it if q}, whatever is done with it -/
theorem dict_core {pins : List (Addr × Obj)} {s : Shared} {σ : L2.St} {H : Hp} {Q : VK} {use : Option (Value → Sem Unit)} {Qf : Value → Shared → Prop} {pos' : Pos} {b : Bool} {own : List (Str × Nat)} {k v : ME} {t : MT} {it : MI} {q : MC} {kx vx tg iter : Expr} {ifs : List Expr} {scope : Scope} {pos : Pos} (I : Inv X pins σ H s) (hc : X.calm = true) (hN : X.N.Nodup) (hu : X.A.units < cLine) (hw : t.within (own.map (·.2)) = true)
    (hi : PI X tg iter (tI ω (evI C it))) (ok : BlkOk X.N X.env.scope scope own) (hfs : ∀ x, foldedSetIterable iter X.env x = pure x)
    (inn : ∀ (s : Shared) (H : Hp) (Ca : Addr) (cl : List (Str × Addr)) (fp : List Addr), let B := X.blk s H scope (compEnvC scope cl Ca X.env) fp
      PG B tg (gOf ω.no C K t) ∧ PTs B ifs (tB ω.no (evC C q)) ∧ PE B kx (tE ω.no (evE C k)) ∧ PE B vx (tE ω.no (evE C v)))
    (h : tF ω (evE C (.dc b (own.map (·.2)) k v t it q)) σ H Q)
    (fin0 : ∀ D Ca s' m H', Inv X pins σ H' s' → Q (.ref D) H' → s'.heap.Ns Ca m → FpOk X pins H' Ca → compPost (model X.prog X.w) X.A X.xe use Qf (.ref D) Ca (.ok .next) s') :
    wpAny (model X.prog X.w) X.A (comprehension (.DictComp kx vx [⟨tg, iter, ifs, 0⟩] scope pos) scope X.env pos' newDict false (eval iter X.env) use) Qf X.xe s := by
  obtain ⟨R, c, σd, M, m, rs, h⟩ := h
  dsimp only at h
  rw [evE, bind_assoc] at h
  obtain ⟨vs, hvs⟩ : ∃ vs, vs = own.map (·.2) := ⟨_, rfl⟩
  rw [← hvs] at hw h
  obtain ⟨step, hst⟩ : ∃ step : Mp.D → Cs → Res (Option (Mp.D × Mp.D)), ∀ d M, step d M = (evT C t d (wip σd vs) M).bind fun σ1 M2 => (evC C q σ1 M2).bind fun z M3 => if z = true then (evE C k σ1 M3).bind fun x M4 => (evE C v σ1 M4).bind fun y M5 => Res.ok (some (x, y)) M5 else .ok none M3 := ⟨_, fun _ _ => rfl⟩
  rw [show (fun d M => (evT C t d (wip σd vs) M).bind fun σ1 M2 => (evC C q σ1 M2).bind fun z M3 => if z = true then (evE C k σ1 M3).bind fun x M4 => (evE C v σ1 M4).bind fun y M5 => Res.ok (some (x, y)) M5 else .ok none M3) = step from funext fun d => funext fun M => (hst d M).symm] at h
  have outer : ∀ y ∈ scope.names, y.2 = .free → ∃ a, X.env.cells.lookup y.1 = some a := fun y hy e => (ok.free y hy e).elim (fun z => I.ok.has _ (.inl z)) fun z => I.ok.has _ (.inr z)
  let Rest : Hp → List Addr → Cs → List Mp.D → List Nat → Prop := fun H1 c1 M1 ds ws => Post ω (rlN ω) R H1 c1 M1 σ (fun po H2 => H2 po.1 = none → Q (.ref po.1) (upd H2 po.1 po.2)) (((dcGo b ws step ds [] [] M1).bind fun p M2 => Res.ok (.dct b p.1 p.2) M2).bind nwD)
  refine wpAny_comprehension_free (use := use) rfl hfs (closure_ok outer) ok.kind (fun y hy e => (ok.uniq y hy).trans (congrArg some e))
    (thn (hi.run pins s σ H (fun J H1 => ∃ ds ws M1 c1, Aft ω.mg R H c M M1 H1 c1 ∧ Wkd ω.mg R H1 c1 M1 J ds ws ∧ Rest H1 c1 M1 ds ws) I ⟨R, c, σd, M, m, rs, h.bind fun p M1 J H1 c1 a1 w h1 => ⟨p.1, p.2, M1, c1, a1, w, h1⟩⟩) fun xv s1 hx => thn hx fun itv s2 h2 => ?_)
  clear h
  obtain ⟨itr, fp, tn, J, HB, rfl, IB, T, tn0, fpB, ds, ws, M1, c1, a1, w, h1⟩ := h2
  refine wpAny_newObj_type (newEnv_comp ?_)
  have below : ∀ z ∈ fp, z < s2.heap.objs.size := fun z hz => let ⟨_, e, _⟩ := T.obj 0 _ tn0 z hz; Heap.lt_size e
  have bigB := IB.big
  generalize hD : s2.heap.objs.size = D at below
  have noD : HB D = none := IB.hok.fresh (Nat.le_of_eq hD)
  have nD : ¬ R D := a1.2.notR noD
  obtain ⟨HC, eHC⟩ : ∃ HC, HC = upd HB D (dict0 b) := ⟨_, rfl⟩
  obtain ⟨s3, e3⟩ : ∃ s3 : Shared, s3 = { s2 with heap := s2.heap.push { cls := .type "dict", data := .dict #[] } } := ⟨_, rfl⟩
  have I3 : Inv X pins σ HC s3 := by
    rw [eHC, e3]
    refine IB.laid (t' := s2.toks) (fun _ _ e => Heap.get?_push_of_some _ e) (Nat.le_of_eq hD) ?_
    rw [← hD]
    exact dict0_lay b s2.heap bigB
  have h3 : s3.heap = s2.heap.push { cls := .type "dict", data := .dict #[] } := by rw [e3]
  have fp3 : ∀ z ∈ fp, FpOk X pins HC z ∧ z < s3.heap.objs.size := fun z hz => by
    have lt := below z hz
    obtain ⟨p0, p⟩ := fpB z hz
    refine ⟨⟨?_, p⟩, ?_⟩
    · rw [eHC, upd_ne (Nat.ne_of_lt lt)]; exact p0
    · rw [h3, Heap.size_push, hD]; exact Nat.lt_succ_of_lt lt
  have tn3 : tn 0 s3.heap := T.keep 0 _ _ tn0 fun z _ o e => by rw [h3]; exact Heap.get?_push_of_some _ e
  have I4 := block_start I3 ok hN fp3
  rw [← hvs] at I4
  obtain ⟨qG, qT, qK, qV⟩ := inn s3 HC s3.heap.objs.size (cellsFrom (s3.heap.objs.size + 1) scope.names (cloFrom X.env.cells scope.names [])) fp
  rw [← e3]
  show codeAny _ _ (.compStart (.DictComp kx vx [⟨tg, iter, ifs, 0⟩] scope pos) 0 (.ref itr) (.ref D) (compEnvC scope (cellsFrom (s3.heap.objs.size + 1) scope.names (cloFrom X.env.cells scope.names [])) s3.heap.objs.size X.env)) (compPost (model X.prog X.w) X.A X.xe use Qf (.ref D) s3.heap.objs.size) { s3 with heap := pushCells (s3.heap.push { cls := .type "dict", data := .dict #[] }) scope.names }
  generalize hce : compEnvC scope (cellsFrom (s3.heap.objs.size + 1) scope.names (cloFrom X.env.cells scope.names [])) s3.heap.objs.size X.env = ce at I4 qG qT qK qV ⊢
  have ceL : ce.locals = s3.heap.objs.size := by rw [← hce]; rfl
  obtain ⟨s4, e4⟩ : ∃ s4 : Shared, s4 = { s3 with heap := pushCells (s3.heap.push { cls := .type "dict", data := .dict #[] }) scope.names } := ⟨_, rfl⟩
  rw [← e4] at I4 ⊢
  have tn4 : tn 0 s4.heap := T.keep 0 _ _ tn3 fun z _ o e => by rw [e4]; exact pushCells_keeps _ _ _ _ (Heap.get?_push_of_some _ e)
  have quiet : ∀ {σ' : L2.St} {H' : Hp} {s' : Shared}, Inv (X.blk s3 HC scope ce fp) [] σ' H' s' → (∀ z ∈ fp, H' z = none) → ∀ z ∈ fp, FpOk (X.blk s3 HC scope ce fp) [] H' z := fun I' n z hz =>
    ⟨n z hz, (I'.ok.exf z hz).1, I'.ok.exfs z hz, .inl hz, fun x a e => (I'.ok.exf z hz).2 x a e, fun p hp => absurd (show p ∈ ([] : List (Addr × Obj)) ++ [] from hp) (by simp)⟩
  have nb : dcGo b ws step ds [] [] M1 ≠ .bad := fun z => by
    have h1 : Post ω (rlN ω) R HB c1 M1 σ _ _ := h1
    rw [z] at h1; exact h1
  have rs1 := rs.mono a1.1.gr
  let Iv : Nat → Hp → Prop := fun i Hh => ∃ c' M' ks us, CM ω.mg (plus R D) Hh c' M' ∧ SD R D HB c1 M1 Hh c' M' ∧ same ws M1 M' = true ∧ DctAt ω.mg Hh (Lv (plus R D) c' M') c' D b ks us ∧ dcGo b ws step ds [] [] M1 = dcGo b ws step (ds.drop i) ks us M'
  have d0 : ∀ vs, dict0 b ≠ .tup vs := fun vs => by cases b <;> nofun
  have iv0 : Iv 0 HC := by
    refine ⟨c1, M1, [], [], ?_, ?_, by simp [same], ⟨dict0 b, by rw [eHC]; exact upd_same, ?_⟩, rfl⟩
    · rw [eHC]; exact a1.2.reserve noD d0
    · rw [eHC]; exact SD.upd
    · cases b
      · exact .inl ⟨rfl, [], rfl, rfl, RpL.nil⟩
      · exact .inr ⟨rfl, [], rfl, rfl, RpL.nil⟩
  have theLoop : codeAny (model X.prog X.w) X.A (.compLoop (.DictComp kx vx [⟨tg, iter, ifs, 0⟩] scope pos) 0 (.ref itr) (.ref D) ce) (compPost (model X.prog X.w) X.A X.xe use Qf (.ref D) s3.heap.objs.size) s4 := by
    refine compLoop_anyD (fun n s' => ∃ i Hh, Inv (X.blk s3 HC scope ce fp) [] (wipe σ vs) Hh s' ∧ tn i s'.heap ∧ (∀ z ∈ fp, Hh z = none) ∧ n = ds.length - i ∧ i ≤ ds.length ∧ Iv i Hh) ?_ ds.length ⟨0, HC, I4, tn4, fun z hz => (fp3 z hz).1.1, by simp, Nat.zero_le _, iv0⟩
    rintro n s5 ⟨i, Hh, I5, tn5, fp5, rfl, hi, c', M', ks, us, m', sd, sm, dct, heq⟩
    have g0 := sd.gr0 noD
    rcases Nat.lt_or_ge i ds.length with hlt | hge
    · refine thnF (T.item (X.blk s3 HC scope ce fp) rfl rfl rfl hc i [] s5 _ Hh (fun _ _ => False) I5 (quiet I5 fp5) tn5 (w.go (plus R D) Hh c' M' i m' g0 sm hlt)) fun r s6 ⟨u, hr, h6⟩ => ?_
      subst hr
      refine thnF h6 fun _ s7 ⟨x, H7, I7, r7, y7, tn7, fp7⟩ => ?_
      obtain ⟨d, e1, af, rx⟩ := w.yld (plus R D) Hh c' M' i x H7 m' g0 sm hlt y7
      rw [drop_cons e1] at heq
      have sdA := sd.trans (SD.of nD af.1)
      have rsA : RpS ω.mg H7 (Lv (plus R D) c' M') c' (wip σd vs) (wipe σ vs) := ((rs1.mono g0).mono af.1.gr).wip vs
      have I7p := I7.pinned (quiet I7 fp7) (T.obj _ _ tn7)
      -- the end of a turn
      have done : ∀ {s' : Shared} {σ8 : L2.St} {H' : Hp}, Inv (X.blk s3 HC scope ce fp) ([] ++ pinsAt fp s7.heap) σ8 H' s' → wipe σ8 vs = wipe σ vs → Iv (i + 1) H' → ∃ m, m < ds.length - i ∧ ∃ i Hh, Inv (X.blk s3 HC scope ce fp) [] (wipe σ vs) Hh s' ∧ tn i s'.heap ∧ (∀ z ∈ fp, Hh z = none) ∧ m = ds.length - i ∧ i ≤ ds.length ∧ Iv i Hh := fun {s' σ8 H'} I' hw8 iv => by
        have pin : ∀ z ∈ fp, ∀ o, s7.heap.get? z = some o → s'.heap.get? z = some o ∧ H' z = none := fun z hz o e => by
          obtain ⟨q1, q2, _⟩ := I'.pin (z, o) (List.mem_append_right _ (List.mem_append_right _ (mem_pinsAt hz e)))
          exact ⟨q1, q2⟩
        refine ⟨ds.length - (i + 1), by omega, i + 1, H', (I'.unpinned (pins := [])).weak (by rw [← hw8, wipe_length]) (fun j v e => ?_), T.keep _ _ _ tn7 fun z hz o e => (pin z hz o e).1, fun z hz => ?_, rfl, hlt, iv⟩
        · rw [← hw8] at e
          exact (wipe_some e).1
        · obtain ⟨o, e, _⟩ := T.obj _ _ tn7 z hz
          exact (pin z hz o e).2
      have dctM : ∀ {H' : Hp} {c'' : List Addr} {M'' : Cs}, Stp (plus R D) H7 c' M' H' c'' M'' → DctAt ω.mg H' (Lv (plus R D) c'' M'') c'' D b ks us := fun {H' c'' M''} st => by
        obtain ⟨o, eo, no⟩ := dct
        exact ⟨o, by rw [st.res D (.inr rfl), af.1.res D (.inr rfl)]; exact eo, (no.mono af.1.gr).mono st.gr⟩
      have plan : gOf ω.no C K t x (wipe σ vs) H7 fun σ2 H2 => wipe σ2 vs = wipe σ vs ∧ tB ω.no (evC C q) σ2 H2 fun z H3 => if z = true then tE ω.no (evE C k) σ2 H3 fun y H4 => tE ω.no (evE C v) σ2 H4 fun yv H5 => ∃ H6, DPut H5 D y yv H6 ∧ Iv (i + 1) H6 else Iv (i + 1) H3 := by
        rcases dcGo_ok (by rw [← heq]; exact nb) with ⟨M2, es, sm2, heq2⟩ | ⟨p, M2, es, sm2, hk, hl, heq2⟩
        all_goals
          rw [heq2] at heq
          have hp : Post ω.no (fun _ _ _ _ _ (_ : Unit) => True) (plus R D) H7 c' M' (wipe σ vs) (fun _ _ => True) (step d M') := Post.eq (ω := ω.no) es fun _ _ _ _ _ => trivial
          rw [hst] at hp es
          refine g_wipe1 t hw (g_ok t ⟨plus R D, c', wip σd vs, M', d, af.2, rsA, rx, hp.bindE fun σ1 M3 σ1' H2 c2 e2 a2 r2 hh2 => ?_⟩)
          refine ⟨plus R D, c2, σ1, M3, a2.2, r2, (hh2.slots).bindE fun z M4 z' H3 c3 e3' a3 r3 hh3 => ?_⟩
          obtain rfl : z = z' := r3
          rw [e2, ok_bind, e3', ok_bind] at es
        · cases z with
          | false =>
            rw [if_neg (by decide)] at es ⊢
            cases es
            exact ⟨c3, M2, ks, us, a3.2, (sdA.trans (SD.of nD a2.1)).trans (SD.of nD a3.1), same_trans sm sm2, dctM (a2.1.trans a3.1), heq⟩
          | true =>
            exfalso
            rw [if_pos rfl] at es
            cases ek : evE C k σ1 M4 with
            | ok x5 M5 =>
              rw [ek, ok_bind] at es
              cases ev : evE C v σ1 M5 with
              | ok y6 M6 => rw [ev, ok_bind] at es; cases es
              | _ => rw [ev] at es; cases es
            | _ => rw [ek] at es; cases es
        · cases z with
          | false => rw [if_neg (by decide)] at es; cases es
          | true =>
            rw [if_pos rfl] at es hh3 ⊢
            refine ⟨plus R D, c3, σ1, M4, a3.2, r2.mono a3.1.gr, hh3.bindE fun x5 M5 y H4 c4 e5 a5 r5 hh5 => ?_⟩
            refine ⟨plus R D, c4, σ1, M5, a5.2, (r2.mono a3.1.gr).mono a5.1.gr, hh5.bindE fun y6 M6 yv H5 c6 e6 a6 r6 hh6 => ?_⟩
            rw [e5, ok_bind, e6, ok_bind] at es
            cases es
            obtain ⟨o', no', dp, dn⟩ := (dctM (((a2.1.trans a3.1).trans a5.1).trans a6.1)).put hk hl (r5.mono a6.1.gr) r6
            refine ⟨_, dp, c6, M2, _, _, a6.2.upd no', ?_, same_trans sm sm2, dn _ SD.upd.gr, heq⟩
            exact (sdA.trans (SD.of nD (((a2.1.trans a3.1).trans a5.1).trans a6.1))).trans SD.upd
      refine thnF (qG.run _ s7 _ H7 x u _ I7p r7 plan) fun _ s8 ⟨σ8, H8, I8, hw8, q8⟩ => ?_
      refine thnF (qT.run _ s8 σ8 H8 _ I8 q8) fun z s9 ⟨H9, I9, q9⟩ => ?_
      cases z with
      | false =>
        simp only [Bool.false_eq_true, if_false] at q9 ⊢
        exact done I9 hw8 q9
      | true =>
        simp only [if_true] at q9 ⊢
        refine thnF (qK.run _ s9 σ8 H9 _ I9 q9) fun ku s10 ⟨y, H10, I10, ry, q10⟩ => ?_
        refine thnF (qV.run _ s10 σ8 H10 _ I10 q10) fun vu s11 ⟨yv, H11, I11, rv, H12, dp, iv⟩ => ?_
        exact d_lay (X := X.blk s3 HC scope ce fp) hu I11 dp ry rv fun s12 I12 => done I12 hw8 iv
    · obtain rfl : i = ds.length := by omega
      refine thnF (T.done (X.blk s3 HC scope ce fp) rfl rfl rfl hc ds.length [] s5 _ Hh (fun _ _ => False) I5 (quiet I5 fp5) tn5 (w.stop (plus R D) Hh c' M' m' g0 sm)) fun r s6 ⟨hr, I6⟩ => ?_
      subst hr
      have I7 : Inv X pins σ Hh s6 := I3.call' (ch := fp) I6.os I6.base I6.hok I6.bare fun z hz => by
        obtain ⟨_, p1, p2, p3, p4, p5⟩ := (fp3 z hz).1
        exact ⟨p3, p1, p4, p5⟩
      have nL : Hh s3.heap.objs.size = none := by rw [← ceL]; exact I6.free
      obtain ⟨mm, hn, _⟩ := I6.loc
      have hn : s6.heap.Ns ce.locals mm := hn
      rw [ceL] at hn
      have fin : Q (.ref D) Hh := by
        rw [List.drop_length, dcGo] at heq
        have h1 : Post ω (rlN ω) R HB c1 M1 σ _ _ := h1
        rw [heq] at h1
        obtain ⟨u1, u2⟩ := m'.unres nD
        have st : Stp R HB c1 M1 (hide D Hh) c' M' := by
          have := sd
          unfold SD at this
          rwa [hide_none noD] at this
        obtain ⟨o, eo, no⟩ := dct
        have := h1 (D, o) (hide D Hh) c' ⟨st, u1⟩ (no.mono u2) hide_same
        rwa [upd_hide eo] at this
      exact fin0 D s3.heap.objs.size s6 mm Hh I7 fin hn (I3.fpOk (Nat.le_refl _) nL)
  exact codeAny_compStart_dict theLoop (T.self X.A 0 _ _ _ tn4 theLoop)
/-- as a value -/
theorem pe_dict {b : Bool} {own : List (Str × Nat)} {k v : ME} {t : MT} {it : MI} {q : MC} {kx vx tg iter : Expr} {ifs : List Expr} {scope : Scope} {pos : Pos} (hc : X.calm = true) (hN : X.N.Nodup) (hu : X.A.units < cLine) (hw : t.within (own.map (·.2)) = true)
    (hi : PI X tg iter (tI ω (evI C it))) (ok : BlkOk X.N X.env.scope scope own) (hfs : ∀ x, foldedSetIterable iter X.env x = pure x)
    (inn : ∀ (s : Shared) (H : Hp) (Ca : Addr) (cl : List (Str × Addr)) (fp : List Addr), let B := X.blk s H scope (compEnvC scope cl Ca X.env) fp
      PG B tg (gOf ω.no C K t) ∧ PTs B ifs (tB ω.no (evC C q)) ∧ PE B kx (tE ω.no (evE C k)) ∧ PE B vx (tE ω.no (evE C v))) :
    PE X (.DictComp kx vx [⟨tg, iter, ifs, 0⟩] scope pos) (tF ω (evE C (.dc b (own.map (·.2)) k v t it q))) := by
  refine ⟨fun pins s σ H Q I h => ?_⟩
  rw [arm_eval_DictComp]
  refine dict_core (use := none) I hc hN hu hw hi ok hfs inn h fun D Ca s' m H' I' hq hn ⟨f0, f1, f2, f3, f4, f5⟩ => ?_
  exact ⟨m, hn, fun h'' sb => ⟨.ref D, H', I'.turned (t' := s'.toks) (fun z o hz e => (sb.2 z hz).trans e) f0 f1 f3 f4 f5, rfl, hq⟩⟩
/-- name = {..} on one line, the name a local -/
theorem ps_setDict {i : Nat} {y : Str} {py spos : Pos} {b : Bool} {own : List (Str × Nat)} {k v : ME} {t : MT} {it : MI} {q : MC} {kx vx tg iter : Expr} {ifs : List Expr} {scope : Scope} {pos : Pos} (hc : X.calm = true) (hN : X.N.Nodup) (hy : X.N[i]? = some y) (hyl : X.env.scope.names.lookup y = some .local)
    (hsw : swapsWith (.DictComp kx vx [⟨tg, iter, ifs, 0⟩] scope pos) (some (.Name y py)) spos.line X.env = pure true) (hu : X.A.units < cLine) (hw : t.within (own.map (·.2)) = true)
    (hi : PI X tg iter (tI ω (evI C it))) (ok : BlkOk X.N X.env.scope scope own) (hfs : ∀ x, foldedSetIterable iter X.env x = pure x)
    (inn : ∀ (s : Shared) (H : Hp) (Ca : Addr) (cl : List (Str × Addr)) (fp : List Addr), let B := X.blk s H scope (compEnvC scope cl Ca X.env) fp
      PG B tg (gOf ω.no C K t) ∧ PTs B ifs (tB ω.no (evC C q)) ∧ PE B kx (tE ω.no (evE C k)) ∧ PE B vx (tE ω.no (evE C v))) :
    PS X (.Assign [.Name y py] (.DictComp kx vx [⟨tg, iter, ifs, 0⟩] scope pos) spos) (tAsg (tF ω (evE C (.dc b (own.map (·.2)) k v t it q))) (gName i)) := by
  refine ⟨fun pins s σ H D I h => ?_⟩
  rw [exec_Assign_Name_used _ _ _ _ hsw]
  refine wpAny_bind (wpAny_standAt (wpAny_bind ?_))
  refine wpAny_bind (m := comprehension (.DictComp kx vx [⟨tg, iter, ifs, 0⟩] scope pos) scope X.env (firstIterPos [⟨tg, iter, ifs, 0⟩] pos) newDict false (eval iter X.env) (some (assign (.Name y py) X.env)))
    (thn (dict_core (use := some (assign (.Name y py) X.env)) (Qf := fun _ s' => SP X pins D .next s') I hc hN hu hw hi ok hfs inn h fun L Ca s' m H' I' hq hn ⟨f0, f1, f2, f3, f4, f5⟩ => ?_) fun _ s' hq => wpAny_pure (wpAny_pure hq))
  show wpAny _ _ (assign (.Name y py) X.env (.ref L)) _ _ _
  refine wpAny_assign_Name (store_ok2 (v := V.ref L) I' hN hy (.inl hyl) rfl (fun s2 I2 ⟨a, sb, ha⟩ => ?_) (.inr hyl))
  have na : Ca ≠ a := ha.elim (fun z => z ▸ f1) fun z => fun e => f4 y a z e.symm
  exact ⟨m, hn.sameBut sb na, fun h3 sb3 => ⟨_, H', I2.turned (t' := s2.toks) (fun z o hz e => (sb3.2 z hz).trans e) f0 f1 f3 f4 f5, hq⟩⟩
end

/-! ### dict displays of constants -/
section
variable {ω : Wk} {C : Cl} {X : Cx} {σ : L2.St} {H : Hp} {Q : VK}
theorem s_dsp0 {t : Bool} (h : tF ω (evE C (.dsp t .nil)) σ H Q) : (if t = true then tDNewT else tDNewK) σ H Q := by
  obtain ⟨R, c, σd, M, m, rs, h⟩ := h
  dsimp only at h
  rw [evE, evPs, ok_bind] at h
  have h' : ∀ p, H p = none → Q (.ref p) (upd H p (dict0 t)) := by
    intro p hp
    refine h (p, dict0 t) H c (Aft.refl m) ?_ hp
    cases t
    · exact .inl ⟨rfl, [], rfl, rfl, RpL.nil⟩
    · exact .inr ⟨rfl, [], rfl, rfl, RpL.nil⟩
  cases t
  · exact h'
  · exact h'
/-- the pairs of a display of constants -/
def cps : MPs → List (D × D)
  | .cons (.con k) (.con v) r => (k, v) :: cps r
  | _ => []
def allCon : MPs → Bool
  | .nil => true
  | .cons (.con _) (.con _) r => allCon r
  | _ => false
theorem evPs_con : ∀ (ps : MPs) (σd : En) (M : Cs), allCon ps = true → evPs C ps σd M = .ok ((cps ps).map (·.1), (cps ps).map (·.2)) M
  | .nil, σd, M, _ => by rw [evPs]; rfl
  | .cons k v r, σd, M, h => by
    cases k <;> cases v <;> simp only [allCon, Bool.false_eq_true] at h
    rw [evPs, evE, ok_bind, evE, ok_bind, evPs_con r σd M h, ok_bind]
    rfl
theorem tPairs_con : ∀ (us : List (V × V)) (σ : L2.St) (H : Hp) (Q : List (V × V) → Hp → Prop), Q us H → tPairs (us.map fun u => (tC u.1, tC u.2)) σ H Q
  | [], _, _, _, h => h
  | u :: us, σ, H, Q, h => tPairs_con us σ H (fun ps H3 => Q ((u.1, u.2) :: ps) H3) h
def PairR (mg : Mg) (H : Hp) (U : Addr → Prop) (c : List Addr) : List (D × D) → List (V × V) → Prop
  | [], us => us = []
  | p :: ps, us => ∃ u r, us = u :: r ∧ Rp mg H U c p.1 u.1 ∧ Rp mg H U c p.2 u.2 ∧ PairR mg H U c ps r
theorem puts_ok {mg : Mg} {U : Addr → Prop} {c : List Addr} : ∀ (ps : List (D × D)) (us : List (V × V)) (acc : List (Key × V)) (ds : List D), PairR mg H U c ps us → (ps.map (·.1)).all isKeyK = true → RpL mg H U c ds (acc.map (·.2)) →
    ∃ kvs : List (Key × V), us = kvs.map (fun kv => (kV kv.1, kv.2)) ∧ (putsD (ps.map (·.1)) (ps.map (·.2)) (acc.map fun p => keyD p.1) ds).1 = (mergeK acc kvs).map (fun p => keyD p.1) ∧ RpL mg H U c (putsD (ps.map (·.1)) (ps.map (·.2)) (acc.map fun p => keyD p.1) ds).2 ((mergeK acc kvs).map (·.2))
  | [], us, acc, ds, h, _, r => by
    obtain rfl : us = [] := h
    exact ⟨[], rfl, rfl, r⟩
  | (x, y) :: ps, us, acc, ds, h, hk, r => by
    obtain ⟨u, us', rfl, h1, h2, h3⟩ := h
    simp only [List.map_cons, List.all_cons, Bool.and_eq_true] at hk
    obtain ⟨κ, rfl⟩ := isKeyK_ok hk.1
    have e := h1.key
    obtain ⟨p1, p2⟩ := put_ok keyD_inj κ r h2
    obtain ⟨kvs, e1, e2, e3⟩ := puts_ok ps us' (putK acc κ u.2) _ h3 hk.2 p2
    refine ⟨(κ, u.2) :: kvs, ?_, ?_, ?_⟩
    · rw [List.map_cons, ← e1, ← e]
    · simp only [List.map_cons, putsD]
      rw [p1]
      exact e2
    · simp only [List.map_cons, putsD]
      rw [p1]
      exact e3
theorem s_dspC {ps : MPs} {us : List (V × V)} (hc : allCon ps = true) (hu : ∀ mg H U c, PairR mg H U c (cps ps) us) (h : tF ω (evE C (.dsp false ps)) σ H Q) : tDisp (us.map fun u => (tC u.1, tC u.2)) σ H Q := by
  obtain ⟨R, c, σd, M, m, rs, h⟩ := h
  dsimp only at h
  rw [evE, evPs_con ps σd M hc, ok_bind] at h
  split at h
  · rename_i k
    simp only [Bool.and_eq_true, decide_eq_true_eq] at k
    intro p hp
    refine tPairs_con us σ _ _ ⟨upd_same, ?_⟩
    obtain ⟨kvs, e1, e2, e3⟩ := puts_ok (H := H) (U := Lv R c M) (c := c) (cps ps) us [] [] (hu ω.mg _ _ _) (by simpa [isKey] using k.1) RpL.nil
    refine ⟨kvs, e1, ?_, ?_⟩
    · have hl : ∀ (ps : List (D × D)) (us : List (V × V)), PairR ω.mg H (Lv R c M) c ps us → us.length = ps.length := fun ps => by
        induction ps with
        | nil => intro us h; obtain rfl : us = [] := h; rfl
        | cons p ps ih =>
          intro us h
          obtain ⟨u, r, rfl, _, _, h3⟩ := h
          simp [ih r h3]
      have h1 := hl _ _ (hu ω.mg H (Lv R c M) c)
      rw [e1] at h1
      simp at h1 k
      omega
    · rw [upd_upd]
      exact h (p, .dK (mergeK [] kvs)) H c (Aft.refl m) (.inl ⟨rfl, _, rfl, e2, e3⟩) hp
  · exact h.elim
end
end Mp

/-! The mini text against the program's text: expressions. -/
namespace Mp
open PySem PySem.Spec PyProof.Rows L2

/-- what a text sees: its names, the defs with their parameters, built-in names that nothing hides -/
structure Gx where
  N : List Str
  fns : List (Str × List Str)
  bi : List Str
  cs : List (Str × D) := []
/-- the scope, the cells that may be stored -/
abbrev Ec := Scope × (Str → Bool)

def visB (sc : Scope) (x : Str) : Bool := match sc.names.lookup x with
  | some .local => true
  | some .cell => true
  | some .free => true
  | _ => false
def stoB (c : Ec) (x : Str) : Bool := match c.1.names.lookup x with
  | some .local => true
  | some .cell => c.2 x
  | _ => false
def glB (sc : Scope) (x : Str) : Bool := match sc.names.lookup x with
  | some .globalImplicit => true
  | _ => false
def nmB (x : Str) : Bool := !(x == ("__debug__" : Str)) && !(x == ("__classdict__" : Str))
def conB : D → Const → Bool
  | .int i, .int j => decide (i = j)
  | .str x, .str y => decide (x = y)
  | .bl a, .bool b => a == b
  | .non, .none => true
  | _, _ => false
def scalar : D → Bool
  | .int _ => true
  | .str _ => true
  | .bl _ => true
  | .non => true
  | _ => false
def bfS : Bf → Str
  | .len => "len"
  | .abs => "abs"
  | .max => "max"
  | .min => "min"
  | .sum => "sum"
  | .all => "all"
  | .any => "any"
  | .sorted => "sorted"
  | .list => "list"
  | .tuple => "tuple"
  | .int => "int"
  | .str => "str"
  | .repr => "repr"
  | .divmod => "divmod"
def muS : Mu → Str
  | .append => "append"
  | .extend => "extend"
  | .pop => "pop"
/-- a plain subscript's index -/
def ixB : Expr → Bool
  | .Slice _ _ none _ => false
  | _ => true
/-- no call of nothing by a name (super) -/
def supB : Expr → Bool
  | .Call (.Name _ _) [] [] _ => false
  | _ => true
/-- a test that is its value's truth -/
def truB : Expr → Bool
  | .UnaryOp .Not _ _ => false
  | .BoolOp _ _ _ => false
  | .IfExp _ _ _ _ => false
  | .Compare _ _ _ _ => false
  | _ => true
def setB : Expr → Bool
  | .Set _ _ _ => false
  | _ => true
def restE (op : BoolOp) (y : Expr) (r : List Expr) (p : Pos) : Expr := match r with
  | [] => y
  | z :: r => .BoolOp op (y :: z :: r) p
def permOf (ps : List Str) (n : Nat) (ks : List Str) : List Nat := (List.range ps.length).map fun j => if j < n then j else n + ks.idxOf (ps.getD j "")
def kwShape (ps : List Str) (n : Nat) (ks : List Str) (perm : List Nat) : Bool :=
  if ks = [] then perm.isEmpty && n == ps.length else decide (perm = permOf ps n ks) && n + ks.length == ps.length && (ks.all (fun k => (ps.drop n).contains k) && (ps.drop n).all (fun x => ks.contains x)) && decide ks.Nodup && decide ps.Nodup && !ps.isEmpty
def relE (scope : Scope) (c : Ec) : Ec := (relS scope c.1, fun x => scope.names.lookup x == some .cell)
def ownN (N : List Str) (own : List Nat) : List (Str × Nat) := own.map fun i => (N.getD i "", i)

/-- a display of constants -/
def cD (t : Bool) : MPs → List (Option Expr) → List Expr → Bool
  | .nil, [], [] => true
  | .cons (.con k) (.con v) r, some (.Constant ck _ _) :: ks, .Constant cv _ _ :: vs => !t && conB k ck && conB v cv && cD t r ks vs
  | _, _, _ => false
mutual
def cE (G : Gx) : ME → Ec → Expr → Bool
  | .var i, c, e => match e with
    | .Name x _ => decide (G.N[i]? = some x) && visB c.1 x && nmB x
    | _ => false
  | .con d, _, e => match e with
    | .Constant k _ _ => conB d k
    | _ => false
  | .gl x d, c, e => match e with
    | .Name y _ => decide (x = y) && glB c.1 x && nmB x && decide (G.cs.lookup x = some d) && scalar d
    | _ => false
  | .fn _, _, _ => false
  | .bin o a b, c, e => match e with
    | .BinOp ea o' eb _ => decide (o = o') && cE G a c ea && cE G b c eb
    | _ => false
  | .neg a, c, e => match e with
    | .UnaryOp o ea _ => decide (o = .USub) && cE G a c ea
    | _ => false
  | .not q, c, e => match e with
    | .UnaryOp o ea _ => decide (o = .Not) && cN G q c ea
    | _ => false
  | .and a b, c, e => match e with
    | .BoolOp o (x :: y :: r) p => decide (o = .And) && cE G a c x && cE G b c (restE .And y r p)
    | _ => false
  | .or a b, c, e => match e with
    | .BoolOp o (x :: y :: r) p => decide (o = .Or) && cE G a c x && cE G b c (restE .Or y r p)
    | _ => false
  | .cmp o a b, c, e => match e with
    | .Compare ea [o'] [eb] _ => decide (o = o') && !behindInMarks o eb && cE G a c ea && cE G b c eb
    | _ => false
  | .chain o p a b d, c, e => match e with
    | .Compare ea [o', p'] [eb, ed] _ => decide (o = o') && decide (p = p') && !behindInMarks p ed && cE G a c ea && cE G b c eb && cE G d c ed
    | _ => false
  | .ite q a b, c, e => match e with
    | .IfExp eq ea eb _ => cB G q c eq && cE G a c ea && cE G b c eb
    | _ => false
  | .idx a i, c, e => match e with
    | .Subscript ea ei _ => ixB ei && cE G a c ea && cE G i c ei
    | _ => false
  | .slc a lo hi, c, e => match e with
    | .Subscript ea (.Slice l u none _) _ => cE G a c ea && cO G lo c l && cO G hi c u
    | _ => false
  | .tup es, c, e => match e with
    | .Tuple xs _ _ => cEs G es c xs
    | _ => false
  | .lst es, c, e => match e with
    | .List xs _ => cEs G es c xs
    | _ => false
  | .dsp t ps, _, e => match e with
    | .Dict ks vs _ => cD t ps ks vs && decide (ks.length ≤ 15)
    | _ => false
  | .lc own a t it q, c, e => match e with
    | .ListComp ea [⟨et, ei, ifs, z⟩] scope _ => decide (z = 0) && setB ei && t.within own && blkC G.N c.1 scope (ownN G.N own) && cI G it c et ei && cT G t (relE scope c) et && cC G q (relE scope c) ifs && cE G a (relE scope c) ea
    | _ => false
  | .lc2 own own1 a t it q t1 it1 q1, c, e => match e with
    | .ListComp ea [⟨et, ei, ifs, z⟩, ⟨et1, ei1, ifs1, z1⟩] scope _ => decide (z = 0) && decide (z1 = 0) && setB ei && setB ei1 && t.within own && t1.within own1 && own1.all (fun i => decide (i ∈ own)) && blkC G.N c.1 scope (ownN G.N own) && cI G it c et ei && cT G t (relE scope c) et && cC G q (relE scope c) ifs
        && cI G it1 (relE scope c) et1 ei1 && cT G t1 (relE scope c) et1 && cC G q1 (relE scope c) ifs1 && cE G a (relE scope c) ea
    | _ => false
  | .dc _ own k v t it q, c, e => match e with
    | .DictComp ek ev [⟨et, ei, ifs, z⟩] scope _ => decide (z = 0) && setB ei && t.within own && blkC G.N c.1 scope (ownN G.N own) && cI G it c et ei && cT G t (relE scope c) et && cC G q (relE scope c) ifs && cE G k (relE scope c) ek && cE G v (relE scope c) ev
    | _ => false
  | .call f es ks perm, c, e => match e with
    | .Call (.Name x _) xs kws _ => (match G.fns[f]? with
      | some p => decide (x = p.1) && glB c.1 x && nmB x && xs.all plainE && kwAll kws && kwShape p.2 xs.length (kwNames kws) perm && cEs G es c xs && cKs G ks c kws
      | none => false)
    | _ => false
  | .blt b es, c, e => match e with
    | .Call (.Name x _) (y :: xs) [] _ => decide (x = bfS b) && glB c.1 x && decide (x ∈ G.bi) && (y :: xs).all plainE && cEs G es c (y :: xs)
    | _ => false
  | .lrng a b, c, e => match e with
    | .Call (.Name x _) [.Call (.Name z _) [y] [] _] [] _ => decide (x = "list") && glB c.1 x && decide (x ∈ G.bi) && decide (z = "range") && glB c.1 z && decide (z ∈ G.bi) && plainE y && (match a with | .con (.int 0) => true | _ => false) && cE G b c y
    | .Call (.Name x _) [.Call (.Name z _) [y, w] [] _] [] _ => decide (x = "list") && glB c.1 x && decide (x ∈ G.bi) && decide (z = "range") && glB c.1 z && decide (z ∈ G.bi) && plainE y && plainE w && cE G a c y && cE G b c w
    | _ => false
  | .isa a t, c, e => match e with
    | .Call (.Name x _) [y, .Name z _] [] _ => decide (x = "isinstance") && decide (z = (tyS t : Str)) && glB c.1 x && glB c.1 z && decide (x ∈ G.bi) && decide (z ∈ G.bi) && plainE y && cE G a c y
    | _ => false
  | .met m o es, c, e => match e with
    | .Call (.Attribute eo nm ap) (y :: xs) [] cp => decide (nm = "index") && (match m with | .lindex => true | _ => false) && supB eo && ap.endLine == cp.line && (y :: xs).all plainE && decide (xs.length < 20) && cE G o c eo && cEs G es c (y :: xs)
    | _ => false
  | .mut m o es, c, e => match e with
    | .Call (.Attribute eo nm ap) [] [] cp => decide (nm = muS m) && supB eo && ap.endLine == cp.line && cE G o c eo && (match es with | .nil => true | _ => false)
    | .Call (.Attribute eo nm ap) (y :: xs) [] cp => decide (nm = muS m) && supB eo && ap.endLine == cp.line && (y :: xs).all plainE && decide (xs.length < 20) && cE G o c eo && cEs G es c (y :: xs)
    | _ => false
  | .new a, c, e => cF G a c e
  | .frz a, c, e => cE G a c e
  | .rev a, c, e => match e with
    | .Subscript ea (.Slice none none (some (.UnaryOp .USub (.Constant (.int 1) _ _) _)) _) _ => cE G a c ea
    | _ => false
  | .dput _ _ _, _, _ => false
  | .sset _, _, _ => false
  | .dzip _ _ _, _, _ => false
/-- a new object -/
def cF (G : Gx) : ME → Ec → Expr → Bool
  | .bin o a b, c, e => match e with
    | .BinOp ea o' eb _ => decide (o = o') && (decide (o = .Add) || decide (o = .Mult)) && cE G a c ea && cE G b c eb
    | _ => false
  | .lst es, c, e => match e with
    | .List xs _ => cEs G es c xs
    | _ => false
  | .lc own a t it q, c, e => match e with
    | .ListComp ea [⟨et, ei, ifs, z⟩] scope _ => decide (z = 0) && setB ei && t.within own && blkC G.N c.1 scope (ownN G.N own) && cI G it c et ei && cT G t (relE scope c) et && cC G q (relE scope c) ifs && cE G a (relE scope c) ea
    | _ => false
  | .dc _ own k v t it q, c, e => match e with
    | .DictComp ek ev [⟨et, ei, ifs, z⟩] scope _ => decide (z = 0) && setB ei && t.within own && blkC G.N c.1 scope (ownN G.N own) && cI G it c et ei && cT G t (relE scope c) et && cC G q (relE scope c) ifs && cE G k (relE scope c) ek && cE G v (relE scope c) ev
    | _ => false
  | .dsp t ps, _, e => match e with
    | .Dict ks vs _ => cD t ps ks vs && decide (ks.length ≤ 15)
    | _ => false
  | .lrng a b, c, e => match e with
    | .Call (.Name x _) [.Call (.Name z _) [y] [] _] [] _ => decide (x = "list") && glB c.1 x && decide (x ∈ G.bi) && decide (z = "range") && glB c.1 z && decide (z ∈ G.bi) && plainE y && (match a with | .con (.int 0) => true | _ => false) && cE G b c y
    | .Call (.Name x _) [.Call (.Name z _) [y, w] [] _] [] _ => decide (x = "list") && glB c.1 x && decide (x ∈ G.bi) && decide (z = "range") && glB c.1 z && decide (z ∈ G.bi) && plainE y && plainE w && cE G a c y && cE G b c w
    | _ => false
  | .blt b es, c, e => match e with
    | .Call (.Name x _) (y :: xs) [] _ => (match b with | .list => true | .sorted => true | _ => false) && decide (x = bfS b) && glB c.1 x && decide (x ∈ G.bi) && (y :: xs).all plainE && cEs G es c (y :: xs)
    | _ => false
  | _, _, _ => false
/-- the operand of not, as a value -/
def cN (G : Gx) : MB → Ec → Expr → Bool
  | .tru a, c, e => cE G a c e
  | _, _, _ => false
def cB (G : Gx) : MB → Ec → Expr → Bool
  | .tru a, c, e => (match a, e with
    | .cmp _ _ _, .Compare _ _ _ _ => true
    | .chain _ _ _ _ _, .Compare _ _ _ _ => true
    | _, e => truB e) && cE G a c e
  | .not a, c, e => match e with
    | .UnaryOp o ea _ => decide (o = .Not) && cB G a c ea
    | _ => false
  | .and a b, c, e => match e with
    | .BoolOp o (x :: y :: r) p => decide (o = .And) && cB G a c x && cB G b c (restE .And y r p)
    | _ => false
  | .or a b, c, e => match e with
    | .BoolOp o (x :: y :: r) p => decide (o = .Or) && cB G a c x && cB G b c (restE .Or y r p)
    | _ => false
def cO (G : Gx) : MO → Ec → Option Expr → Bool
  | .nil, _, o => match o with
    | none => true
    | some _ => false
  | .one a, c, o => match o with
    | none => false
    | some e => cE G a c e
def cEs (G : Gx) : MEs → Ec → List Expr → Bool
  | .nil, _, es => match es with
    | [] => true
    | _ => false
  | .cons a r, c, es => match es with
    | e :: es => plainE e && cE G a c e && cEs G r c es
    | _ => false
  | .star a r, c, es => match es with
    | .Starred e _ :: es => cE G a c e && cEs G r c es
    | _ => false
def cKs (G : Gx) : MEs → Ec → List Keyword → Bool
  | .nil, _, es => match es with
    | [] => true
    | _ => false
  | .cons a r, c, es => match es with
    | ⟨_, e, _⟩ :: es => cE G a c e && cKs G r c es
    | _ => false
  | .star _ _, _, _ => false
def cC (G : Gx) : MC → Ec → List Expr → Bool
  | .nil, _, es => match es with
    | [] => true
    | _ => false
  | .one q, c, es => match es with
    | [e] => cB G q c e
    | _ => false
/-- the target comes first: enumerate and zip want a tuple -/
def cI (G : Gx) : MI → Ec → Expr → Expr → Bool
  | .seq a, c, _, e => cE G a c e
  | .rng a b, c, _, e => match e with
    | .Call (.Name x _) [y] [] _ => decide (x = "range") && glB c.1 x && decide (x ∈ G.bi) && plainE y && (match a with | .con (.int 0) => true | _ => false) && cE G b c y
    | .Call (.Name x _) [y, z] [] _ => decide (x = "range") && glB c.1 x && decide (x ∈ G.bi) && plainE y && plainE z && cE G a c y && cE G b c z
    | _ => false
  | .enm a, c, t, e => match t, e with
    | .Tuple _ _ _, .Call (.Name x _) [y] [] _ => decide (x = "enumerate") && glB c.1 x && decide (x ∈ G.bi) && plainE y && cE G a c y
    | _, _ => false
  | .zip a b, c, t, e => match t, e with
    | .Tuple _ _ _, .Call (.Name x _) [y, z] [] _ => decide (x = "zip") && glB c.1 x && decide (x ∈ G.bi) && plainE y && plainE z && cE G a c y && cE G b c z
    | _, _ => false
  | .rdn a, c, _, e => match e with
    | .Call (.Name x _) [y, .UnaryOp .USub (.Constant (.int 1) _ _) _, .UnaryOp .USub (.Constant (.int 1) _ _) _] [] _ => decide (x = "range") && glB c.1 x && decide (x ∈ G.bi) && plainE y && cE G a c y
    | _ => false
  | .vals _, _, _, _ => false
def cT (G : Gx) : MT → Ec → Expr → Bool
  | .nm i, c, e => match e with
    | .Name x _ => decide (G.N[i]? = some x) && stoB c x
    | _ => false
  | .tp ts, c, e => match e with
    | .Tuple xs _ _ => cTs G ts c xs
    | _ => false
  | .sub o i, c, e => match e with
    | .Subscript eo ei _ => ixB ei && cE G o c eo && cE G i c ei
    | _ => false
def cTs (G : Gx) : MTs → Ec → List Expr → Bool
  | .nil, _, es => match es with
    | [] => true
    | _ => false
  | .cons t r, c, es => match es with
    | e :: es => plainE e && cT G t c e && cTs G r c es
    | _ => false
end
end Mp

/-! The checked expressions keep what the evaluator promises. -/
namespace Mp
open PySem PySem.Spec PyProof.Rows L2

/-- the context of a text -/
structure Okx (G : Gx) (C : Cl) (ω : Wk) (X : Cx) (c : Ec) : Prop where
  N : X.N = G.N
  sc : X.env.scope = c.1
  fn : ∀ x, c.2 x = true → X.fn x = true
  mg : X.Mg = ω.mg
  nd : G.N.Nodup
  calm : X.calm = true
  gd : X.A.guards = some []
  un : X.A.units + 100 < cLine
  bi : ∀ x ∈ G.bi, X.mg x = none
  cs : ∀ x d, G.cs.lookup x = some d → scalar d = true → ∃ u v, X.mg x = some u ∧ RelV v u ∧ ∀ mg H U c, Rp mg H U c d v
  tk : Takes X ω.W
  fns : ∀ f x ps, G.fns[f]? = some (x, ps) → ∃ a fd k, X.mg x = some (.ref a) ∧ PySem.W.keepIn X.K (.ref a) = true ∧ Room k X.A ∧ FnG X.prog X.w X.K X.mg X.base (L2.CX X.prog X.w) k a fd ps (spF ω.mg ω.att ps.length (C.call f)) ∧
    ∀ n ks perm, kwShape ps n ks perm = true → KwB X.K fd ps n ks perm
section
variable {G : Gx} {C : Cl} {ω : Wk} {X : Cx} {c : Ec}
theorem spF_no {mg : Mg} {att : Str → Option Str} {n : Nat} {f : List D → Cs → Res D} : True := trivial
theorem Okx.blk (o : Okx G C ω X c) (s : Shared) (H : Hp) (scope : Scope) (Ca : Addr) (cl : List (Str × Addr)) (fp : List Addr) : Okx G C ω.no (X.blk s H scope (compEnvC scope cl Ca X.env) fp) (relE scope c) where
  N := o.N
  sc := by
    show relabel scope X.env = relS scope c.1
    rw [← o.sc]; rfl
  fn := fun x h => h
  mg := o.mg
  nd := o.nd
  calm := o.calm
  gd := o.gd
  un := o.un
  bi := o.bi
  cs := o.cs
  tk := takes_none5
  fns := o.fns
theorem gl_of (o : Okx G C ω X c) {x : Str} (h : glB c.1 x = true) : Gl X x := by
  unfold glB at h
  rw [← o.sc] at h
  unfold Gl Env.kindOf
  split at h
  · assumption
  · cases h
theorem vis_of (o : Okx G C ω X c) {x : Str} (h : visB c.1 x = true) : Vis X.env.scope x := by
  unfold visB at h
  rw [← o.sc] at h
  unfold Vis
  split at h
  · left; assumption
  · right; left; assumption
  · right; right; assumption
  · cases h
theorem nm_of {x : Str} (h : nmB x = true) : (x == ("__debug__" : Str)) = false ∧ (x == ("__classdict__" : Str)) = false := by
  simpa [nmB] using h
theorem con_pe {d : D} {k : Const} {j : Nat} {pos : Pos} (h : conB d k = true) : ∃ v, PE X (.Constant k j pos) (tC v) ∧ ∀ mg H U c, Rp mg H U c d v := by
  unfold conB at h
  split at h
  · rename_i i j; have e : i = j := by simpa using h
    subst e; exact ⟨_, pe_int, fun _ _ _ _ => by simp [Rp]⟩
  · rename_i i j; have e : i = j := by simpa using h
    subst e; exact ⟨_, pe_str, fun _ _ _ _ => by simp [Rp]⟩
  · rename_i i j; have e : i = j := by simpa using h
    subst e; exact ⟨.bl i, pe_bl, fun _ _ _ _ => by simp [Rp]⟩
  · exact ⟨.non, pe_non, fun _ _ _ _ => by simp [Rp]⟩
  · cases h
theorem cD_ok {t : Bool} {pos : Pos} : ∀ (ps : MPs) (ks : List (Option Expr)) (vs : List Expr), cD t ps ks vs = true → allCon ps = true ∧ ks.all (·.isSome) = true ∧ ks.length = vs.length ∧
    (ks = [] → ps = .nil) ∧ (ks ≠ [] → t = false) ∧ ∃ us : List (V × V), PPs X pos ks vs (us.map fun u => (tC u.1, tC u.2)) ∧ ∀ mg H U c, PairR mg H U c (cps ps) us
  | .nil, ks, vs, h => by
    cases ks <;> cases vs <;> simp only [cD, Bool.false_eq_true] at h
    exact ⟨rfl, rfl, rfl, fun _ => rfl, fun e => absurd rfl e, [], pps_nil, fun _ _ _ _ => rfl⟩
  | .cons k v r, ks, vs, h => by
    unfold cD at h
    split at h
    · rename_i heq
      cases heq
    · rename_i heq
      cases heq
      simp only [Bool.and_eq_true, Bool.not_eq_true'] at h
      obtain ⟨⟨⟨h0, h1⟩, h2⟩, h3⟩ := h
      obtain ⟨a1, a2, a3, _, _, us, a4, a5⟩ := cD_ok r _ _ h3
      obtain ⟨x, b1, b2⟩ := con_pe (X := X) h1
      obtain ⟨y, c1, c2⟩ := con_pe (X := X) h2
      exact ⟨a1, by simpa using a2, by simpa using a3, (fun e => nomatch e), (fun _ => h0), (x, y) :: us, pps_cons b1 c1 a4, fun mg H U c => ⟨(x, y), us, rfl, b2 _ _ _ _, c2 _ _ _ _, a5 _ _ _ _⟩⟩
    · cases h
theorem dsp_pe {t : Bool} {ps : MPs} {ks : List (Option Expr)} {vs : List Expr} {pos : Pos} (h : cD t ps ks vs = true) (h15 : ks.length ≤ 15) : PE X (.Dict ks vs pos) (tF ω (evE C (.dsp t ps))) := by
  obtain ⟨a1, a2, a3, a4, a5, us, a6, a7⟩ := cD_ok (X := X) (pos := pos) ps ks vs h
  by_cases e : ks = []
  · obtain rfl := a4 e
    subst e
    have : vs = [] := List.eq_nil_of_length_eq_zero a3.symm
    subst this
    cases t
    · exact pe_dnewK.imp fun _ _ _ q => s_dsp0 q
    · exact pe_dnewT.imp fun _ _ _ q => s_dsp0 q
  · obtain rfl := a5 e
    exact (pe_disp a6 a2 a3 e h15).imp fun _ _ _ q => s_dspC a1 a7 q
theorem dsp_nw {t : Bool} {ps : MPs} {σd : En} {M : Cs} {d : D} {M1 : Cs} (h : evE C (.dsp t ps) σd M = .ok d M1) : isNw d = true := by
  rw [evE] at h
  cases e : evPs C ps σd M with
  | ok x M2 =>
    rw [e, ok_bind] at h
    split at h <;> cases h
    rfl
  | _ => rw [e] at h; cases h
theorem ix_of {b : Expr} (h : ixB b = true) : PlainIx b := by
  intro o i
  cases b <;> try rfl
  rename_i l u s p
  cases s
  · simp [ixB] at h
  · rfl
theorem sub_of {o i : Expr} {pos : Pos} {env : Env} (h : ixB i = true) (v : Value) : assign (.Subscript o i pos) env v = (do
    let ov ← holding [v] (eval o env)
    let iv ← holding [v, ov] (eval i env)
    standAt pos
    holding [v, ov, iv] (setItem ov iv v)
    release [v, ov, iv] []) := by
  cases i <;> try rfl
  rename_i l u s p
  cases s
  · simp [ixB] at h
  · rfl
theorem sup_of {o : Expr} {m : Str} {env : Env} {w : Sem Value} (h : supB o = true) : attributeBase o m env w = w := by
  unfold supB at h
  split at h
  · cases h
  · rename_i k
    unfold attributeBase
    split
    · rename_i a b; exact (k _ _ _ rfl).elim
    · rfl
theorem tru_of {a : Expr} {env : Env} (h : truB a = true) (w : Sem Value) : isTrue a env w = (do let v ← w; standAt a.pos; holding [v] (truthy v)) := by
  cases a <;> first | rfl | simp [truB] at h | skip
  rename_i o _ _
  cases o <;> first | rfl | simp [truB] at h
theorem set_of {e : Expr} {env : Env} (h : setB e = true) (x : Value) : foldedSetIterable e env x = pure x := by
  cases e <;> first | rfl | simp [setB] at h
theorem boot_bf : ∀ b : Bf, bootBuiltins (bfS b) = some (bfV b) ∧ bfS b ≠ "__name__" ∧ (bfS b == ("__debug__" : Str)) = false
  | .len => ⟨by decide +kernel, by decide, by decide⟩
  | .abs => ⟨by decide +kernel, by decide, by decide⟩
  | .max => ⟨by decide +kernel, by decide, by decide⟩
  | .min => ⟨by decide +kernel, by decide, by decide⟩
  | .sum => ⟨by decide +kernel, by decide, by decide⟩
  | .all => ⟨by decide +kernel, by decide, by decide⟩
  | .any => ⟨by decide +kernel, by decide, by decide⟩
  | .sorted => ⟨by decide +kernel, by decide, by decide⟩
  | .list => ⟨by decide +kernel, by decide, by decide⟩
  | .tuple => ⟨by decide +kernel, by decide, by decide⟩
  | .int => ⟨by decide +kernel, by decide, by decide⟩
  | .str => ⟨by decide +kernel, by decide, by decide⟩
  | .repr => ⟨by decide +kernel, by decide, by decide⟩
  | .divmod => ⟨by decide +kernel, by decide, by decide⟩
theorem bf_call {b : Bf} {r : List V → Hp → VK → Prop} {e : Expr} {es : List Expr} {t : TA} {p pos : Pos} (hc : CallR X (bfV b) r) (hg : Gl X (bfS b)) (hm : X.mg (bfS b) = none) (ha : PA X (e :: es) t) (pl : (e :: es).all plainE = true) :
    PE X (.Call (.Name (bfS b) p) (e :: es) [] pos) (tCB r t) := by
  simp only [List.all_cons, Bool.and_eq_true] at pl
  obtain ⟨h1, h2, h3⟩ := boot_bf b
  have he := plain_star (es := es) (env := X.env) pl.1
  have hp := plain_any (pos := pos) (env := X.env) pl.2
  cases b <;> first | exact pe_callB hc hg hm h1 ha h2 h3 he hp | exact pe_callTy hc hg hm h1 ha h2 h3 he hp
theorem ty_pe {t : Ty} {p : Pos} (hg : Gl X (tyS t : Str)) (hm : X.mg (tyS t : Str) = none) : PE X (.Name (tyS t : Str) p) (tC (.ty (tyS t))) := by
  refine ⟨fun pins s σ H Q I h => ?_⟩
  cases t
  all_goals exact ld_blt I hg hm (by first | exact PyProof.Rows.boot_int | exact PyProof.Rows.boot_bool | exact PyProof.Rows.boot_tuple | exact PyProof.Rows.boot_str | exact PyProof.Rows.boot_list | exact PyProof.Rows.boot_dict) ⟨.ty _, H, I, rfl, h⟩ (by decide) (by decide)
theorem few_of {x : Expr} {xs : List Expr} {env : Env} {cpos : Pos} (pl : (x :: xs).all plainE = true) (hl : xs.length < 20) :
    ((backTo cpos (starEach (x :: xs) env)).all (fun x => !x.1) && (backToKw cpos (keywordEach [] env)).all (fun x => x.1.isSome)
      && decide ((x :: xs).length + ([] : List Keyword).length + (if ([] : List Keyword).isEmpty then 0 else 1) < 30)) = true := by
  have h := plain_any (pos := cpos) (env := env) pl
  have h1 : (backTo cpos (starEach (x :: xs) env)).all (fun x => !x.1) = true := by
    rw [List.all_eq_true]
    rw [List.any_eq_false] at h
    exact fun y hy => by simpa using h y hy
  have h2 : (backToKw cpos (keywordEach [] env)).all (fun x => x.1.isSome) = true := rfl
  rw [h1, h2]
  simp
  omega
theorem mu_all (b : Mu) : ∃ id, Slot "list" (muS b) id ∧ typeOf (.builtin id) = pure (.type "method_descriptor") ∧ MtR X id (rMu X.Mg (mutD b)) := by
  cases b
  · exact ⟨"list.append", PySem.F.slot_list_append, PySem.F.type_list_append, mu_append⟩
  · exact ⟨"list.extend", PySem.F.slot_list_extend, PySem.F.type_list_extend, mu_extend⟩
  · exact ⟨"list.pop", PySem.F.slot_list_pop, PySem.F.type_list_pop, mu_pop⟩
theorem rest_pe {op : BoolOp} {y : Expr} {r : List Expr} {p : Pos} {t : TE} (h : PE X (restE op y r p) t) : PE X (.BoolOp op (y :: r) p) t := by
  cases r with
  | nil => exact pe_one h
  | cons z r => exact h
theorem rest_and {y : Expr} {r : List Expr} {p : Pos} {t : TT} (h : PT X (restE .And y r p) t) : PW X (.BoolOp .And (y :: r) p) t := by
  cases r with
  | nil => exact pw_and1 h
  | cons z r => exact pw_of h
theorem rest_or {y : Expr} {r : List Expr} {p : Pos} {t : TT} (h : PT X (restE .Or y r p) t) : PW X (.BoolOp .Or (y :: r) p) t := by
  cases r with
  | nil => exact pw_or1 h
  | cons z r => exact pw_of h
end
end Mp

/-! Soundness of the checked expressions. -/
namespace Mp
open PySem PySem.Spec PyProof.Rows L2

section
variable {G : Gx} {C : Cl}
theorem cEs_len : ∀ {es : MEs} {c : Ec} {xs : List Expr}, cEs G es c xs = true → xs.all plainE = true → es.len = some xs.length
  | .nil, c, xs, h, _ => by
    unfold cEs at h
    split at h
    · rfl
    · cases h
  | .cons a r, c, xs, h, p => by
    unfold cEs at h
    split at h
    · rename_i e es
      simp only [Bool.and_eq_true, List.all_cons] at h p
      simp [MEs.len, cEs_len h.2 p.2]
    · cases h
  | .star a r, c, xs, h, p => by
    unfold cEs at h
    split at h
    · simp [plainE] at p
    · cases h
theorem cKs_len : ∀ {es : MEs} {c : Ec} {xs : List Keyword}, cKs G es c xs = true → es.len = some xs.length
  | .nil, c, xs, h => by
    unfold cKs at h
    split at h
    · rfl
    · cases h
  | .cons a r, c, xs, h => by
    unfold cKs at h
    split at h
    · simp only [Bool.and_eq_true] at h
      simp [MEs.len, cKs_len h.2]
    · cases h
  | .star a r, c, xs, h => by unfold cKs at h; cases h
theorem kwAll_len : ∀ {kws : List Keyword}, kwAll kws = true → (kwNames kws).length = kws.length
  | [], _ => rfl
  | ⟨nm, v, q⟩ :: kws, h => by
    simp only [kwAll, List.all_cons, Bool.and_eq_true] at h
    cases nm with
    | none => simp at h
    | some n =>
      show (kwNames kws).length + 1 = kws.length + 1
      rw [kwAll_len h.2]
theorem lst_nw {es : MEs} {σd : En} {M : Cs} {d : D} {M1 : Cs} (h : evE C (.lst es) σd M = .ok d M1) : isNw d = true := by
  rw [evE] at h
  cases e : evEs C es σd M with
  | ok x M2 => rw [e, ok_bind] at h; split at h <;> cases h; rfl
  | _ => rw [e] at h; cases h
theorem lc_nw {own : List Nat} {a : ME} {t : MT} {it : MI} {q : MC} {σd : En} {M : Cs} {d : D} {M1 : Cs} (h : evE C (.lc own a t it q) σd M = .ok d M1) : isNw d = true := by
  rw [evE] at h
  cases e : evI C it σd M with
  | ok x M2 =>
    rw [e, ok_bind] at h
    revert h
    generalize lcGo x.2 _ x.1 [] M2 = r
    intro h
    cases r <;> cases h; rfl
  | _ => rw [e] at h; cases h
theorem lc2_nw {own own1 : List Nat} {a : ME} {t t1 : MT} {it it1 : MI} {q q1 : MC} {σd : En} {M : Cs} {d : D} {M1 : Cs} (h : evE C (.lc2 own own1 a t it q t1 it1 q1) σd M = .ok d M1) : isNw d = true := by
  rw [evE] at h
  cases e : evI C it σd M with
  | ok x M2 =>
    rw [e, ok_bind] at h
    revert h
    generalize lcGo x.2 _ x.1 [] M2 = r
    intro h
    cases r <;> cases h; rfl
  | _ => rw [e] at h; cases h
theorem lrng_nw {p q : ME} {σd : En} {M : Cs} {d : D} {M1 : Cs} (h : evE C (.lrng p q) σd M = .ok d M1) : isNw d = true := by
  rw [evE] at h
  cases e : evE C p σd M with
  | ok x M2 =>
    rw [e, ok_bind] at h
    cases e2 : evE C q σd M2 with
    | ok y M3 =>
      rw [e2, ok_bind] at h
      cases e3 : (rngD x y).bind fun xs => if xs.length ≤ sizeLine then some (D.lst xs) else none with
      | none => rw [e3] at h; cases h
      | some z =>
        rw [e3] at h; cases h
        simp only [Option.bind_eq_some_iff] at e3
        obtain ⟨xs, _, e4⟩ := e3
        split at e4 <;> cases e4
        rfl
    | _ => rw [e2] at h; cases h
  | _ => rw [e] at h; cases h
theorem dc_nw {b : Bool} {own : List Nat} {k v : ME} {t : MT} {it : MI} {q : MC} {σd : En} {M : Cs} {d : D} {M1 : Cs} (h : evE C (.dc b own k v t it q) σd M = .ok d M1) : isNw d = true := by
  rw [evE] at h
  cases e : evI C it σd M with
  | ok x M2 =>
    rw [e, ok_bind] at h
    revert h
    generalize dcGo b x.2 _ x.1 [] [] M2 = r
    intro h
    cases r <;> cases h; rfl
  | _ => rw [e] at h; cases h
theorem ownN_snd (N : List Str) (own : List Nat) : (ownN N own).map (·.2) = own := by
  unfold ownN
  induction own with
  | nil => rfl
  | cons i r ih => simp at ih ⊢; exact ih
mutual
theorem cE_ok : ∀ (m : ME) (c : Ec) (e : Expr) (ω : Wk) (X : Cx), cE G m c e = true → Okx G C ω X c → PE X e (tE ω (evE C m))
  | .var i, c, e, ω, X, h, o => by
    unfold cE at h
    split at h
    · simp only [Bool.and_eq_true, decide_eq_true_eq] at h
      obtain ⟨n1, n2⟩ := nm_of h.2
      exact (pe_var (by rw [o.N]; exact h.1.1) (vis_of o h.1.2) n1 n2).imp fun _ _ _ => s_var
    · cases h
  | .con d, c, e, ω, X, h, o => by
    unfold cE at h
    split at h
    · obtain ⟨v, p, r⟩ := con_pe (X := X) h
      exact p.imp fun _ _ _ => s_con r
    · cases h
  | .gl x d, c, e, ω, X, h, o => by
    unfold cE at h
    split at h
    · simp only [Bool.and_eq_true, decide_eq_true_eq] at h
      obtain ⟨⟨⟨⟨rfl, h1⟩, h2⟩, h3⟩, h4⟩ := h
      obtain ⟨u, v, e1, e2, e3⟩ := o.cs x d h3 h4
      exact (pe_glob (gl_of o h1) e1 e2 (nm_of h2).1).imp fun _ _ _ => s_gl e3
    · cases h
  | .fn _, c, e, ω, X, h, o => by unfold cE at h; cases h
  | .bin op a b, c, e, ω, X, h, o => by
    unfold cE at h
    split at h
    · simp only [Bool.and_eq_true, decide_eq_true_eq] at h
      obtain ⟨⟨rfl, h1⟩, h2⟩ := h
      exact (pe_op (op2_bin op) (cE_ok a c _ ω X h1 o) (cE_ok b c _ ω X h2 o)).imp fun _ _ _ q => by rw [o.mg]; exact s_bin q
    · cases h
  | .neg a, c, e, ω, X, h, o => by
    unfold cE at h
    split at h
    · simp only [Bool.and_eq_true, decide_eq_true_eq] at h
      obtain ⟨rfl, h1⟩ := h
      exact (pe_un un_neg (cE_ok a c _ ω X h1 o)).imp fun _ _ _ => s_neg
    · cases h
  | .not q, c, e, ω, X, h, o => by
    unfold cE at h
    split at h
    · simp only [Bool.and_eq_true, decide_eq_true_eq] at h
      obtain ⟨rfl, h1⟩ := h
      exact cN_ok q c _ ω X h1 o
    · cases h
  | .and a b, c, e, ω, X, h, o => by
    unfold cE at h
    split at h
    · simp only [Bool.and_eq_true, decide_eq_true_eq] at h
      obtain ⟨⟨rfl, h1⟩, h2⟩ := h
      exact (pe_andT (cE_ok a c _ ω X h1 o) (rest_pe (cE_ok b c _ ω X h2 o))).imp fun _ _ _ => s_and
    · cases h
  | .or a b, c, e, ω, X, h, o => by
    unfold cE at h
    split at h
    · simp only [Bool.and_eq_true, decide_eq_true_eq] at h
      obtain ⟨⟨rfl, h1⟩, h2⟩ := h
      exact (pe_orT (cE_ok a c _ ω X h1 o) (rest_pe (cE_ok b c _ ω X h2 o))).imp fun _ _ _ => s_or
    · cases h
  | .cmp op a b, c, e, ω, X, h, o => by
    unfold cE at h
    split at h
    · simp only [Bool.and_eq_true, decide_eq_true_eq, Bool.not_eq_true'] at h
      obtain ⟨⟨⟨rfl, h0⟩, h1⟩, h2⟩ := h
      exact (pe_cmpR (op2_cmp (by have := o.un; omega) op) (cE_ok a c _ ω X h1 o) (cE_ok b c _ ω X h2 o) h0).imp fun _ _ _ q => by rw [o.mg]; exact s_cmp q
    · cases h
  | .chain op op' a b d, c, e, ω, X, h, o => by
    unfold cE at h
    split at h
    · simp only [Bool.and_eq_true, decide_eq_true_eq, Bool.not_eq_true'] at h
      obtain ⟨⟨⟨⟨⟨rfl, rfl⟩, h0⟩, h1⟩, h2⟩, h3⟩ := h
      exact (pe_chain (op2_cmp (by have := o.un; omega) op) (op2_cmp (by have := o.un; omega) op') (cE_ok a c _ ω X h1 o) (cE_ok b c _ ω X h2 o) (cE_ok d c _ ω X h3 o) h0).imp fun _ _ _ q => by rw [o.mg]; exact s_chain q
    · cases h
  | .ite q a b, c, e, ω, X, h, o => by
    unfold cE at h
    split at h
    · simp only [Bool.and_eq_true] at h
      exact (pe_ifExp (cB_ok q c _ ω X h.1.1 o) (cE_ok a c _ ω X h.1.2 o) (cE_ok b c _ ω X h.2 o)).imp fun _ _ _ => s_ite
    · cases h
  | .idx a i, c, e, ω, X, h, o => by
    unfold cE at h
    split at h
    · simp only [Bool.and_eq_true] at h
      exact (pe_ix (ix_ok (by have := o.un; omega)) (cE_ok a c _ ω X h.1.2 o) (cE_ok i c _ ω X h.2 o) (ix_of h.1.1)).imp fun _ _ _ q => by rw [o.mg]; exact s_idx q
    · cases h
  | .slc a lo hi, c, e, ω, X, h, o => by
    unfold cE at h
    split at h
    · simp only [Bool.and_eq_true] at h
      exact (pe_slice sl_ok (cE_ok a c _ ω X h.1.1 o) (cO_ok lo c _ ω X h.1.2 o) (cO_ok hi c _ ω X h.2 o)).imp fun _ _ _ q => by rw [o.mg]; exact s_slc q
    · cases h
  | .tup es, c, e, ω, X, h, o => by
    unfold cE at h
    split at h
    · exact (pe_tup (cEs_ok es c _ ω X h o)).imp fun _ _ _ => s_tup
    · cases h
  | .lst es, c, e, ω, X, h, o => by
    unfold cE at h
    split at h
    · exact (pe_lst (cEs_ok es c _ ω X h o)).imp fun _ _ _ q => s_lst (s_fresh (fun _ _ _ _ => lst_nw) q)
    · cases h
  | .dsp t ps, c, e, ω, X, h, o => by
    unfold cE at h
    split at h
    · simp only [Bool.and_eq_true, decide_eq_true_eq] at h
      exact (dsp_pe h.1 h.2).imp fun _ _ _ q => s_fresh (fun _ _ _ _ => dsp_nw) q
    · cases h
  | .rev a, c, e, ω, X, h, o => by
    unfold cE at h
    split at h
    · exact (pe_rev (cE_ok a c _ ω X h o)).imp fun _ _ _ => s_rev
    · cases h
  | .dput _ _ _, c, e, ω, X, h, o => by unfold cE at h; cases h
  | .sset _, c, e, ω, X, h, o => by unfold cE at h; cases h
  | .dzip _ _ _, c, e, ω, X, h, o => by unfold cE at h; cases h
  | .lc own a t it q, c, e, ω, X, h, o => by
    unfold cE at h
    split at h
    · rename_i pos
      simp only [Bool.and_eq_true, decide_eq_true_eq] at h
      obtain ⟨⟨⟨⟨⟨⟨⟨rfl, h1⟩, h2⟩, h3⟩, h4⟩, h5⟩, h6⟩, h7⟩ := h
      have nd := o.nd
      rw [← o.N] at nd h3
      rw [← o.sc] at h3
      have p := pe_lc (pos := pos) (own := ownN X.N own) (g := gOf ω.no C X.K t) o.calm nd (cI_ok it c _ _ ω X h4 o) (blkOk_by h3) (fun s H Ca cl fp => cT_ok t _ _ ω.no _ h5 (o.blk s H _ Ca cl fp)) (fun s H Ca cl fp => cC_ok q _ _ ω.no _ h6 (o.blk s H _ Ca cl fp)) (fun s H Ca cl fp => cE_ok a _ _ ω.no _ h7 (o.blk s H _ Ca cl fp)) (set_of h1)
      rw [ownN_snd] at p
      exact p.imp fun _ _ _ q => s_lc h2 (s_fresh (fun _ _ _ _ => lc_nw) q)
    · cases h
  | .lc2 own own1 a t it q t1 it1 q1, c, e, ω, X, h, o => by
    unfold cE at h
    split at h
    · rename_i pos
      simp only [Bool.and_eq_true, decide_eq_true_eq, List.all_eq_true] at h
      obtain ⟨⟨⟨⟨⟨⟨⟨⟨⟨⟨⟨⟨⟨⟨rfl, rfl⟩, h1⟩, h1'⟩, h2⟩, h2'⟩, hv⟩, h3⟩, h4⟩, h5⟩, h6⟩, h4'⟩, h5'⟩, h6'⟩, h7⟩ := h
      have nd := o.nd
      rw [← o.N] at nd h3
      rw [← o.sc] at h3
      have p := pe_lc2 (pos := pos) (own := ownN X.N own) (g := gOf ω.no C X.K t) (g1 := gOf ω.no C X.K t1) (vs1 := own1) o.calm nd (cI_ok it c _ _ ω X h4 o) (blkOk_by h3) (by rw [ownN_snd]; exact hv) (fun s H Ca cl fp => cT_ok t _ _ ω.no _ h5 (o.blk s H _ Ca cl fp)) (fun s H Ca cl fp => cC_ok q _ _ ω.no _ h6 (o.blk s H _ Ca cl fp))
        (fun s H Ca cl fp => cI_ok it1 _ _ _ ω.no _ h4' (o.blk s H _ Ca cl fp)) (fun s H Ca cl fp => cT_ok t1 _ _ ω.no _ h5' (o.blk s H _ Ca cl fp)) (fun s H Ca cl fp => cC_ok q1 _ _ ω.no _ h6' (o.blk s H _ Ca cl fp)) (fun s H Ca cl fp => cE_ok a _ _ ω.no _ h7 (o.blk s H _ Ca cl fp)) (set_of h1) (fun env x => set_of h1' x)
      rw [ownN_snd] at p
      exact p.imp fun _ _ _ q => s_lc2 h2 h2' (s_fresh (fun _ _ _ _ => lc2_nw) q)
    · cases h
  | .dc b own k v t it q, c, e, ω, X, h, o => by
    unfold cE at h
    split at h
    · rename_i pos
      simp only [Bool.and_eq_true, decide_eq_true_eq] at h
      obtain ⟨⟨⟨⟨⟨⟨⟨⟨rfl, h1⟩, h2⟩, h3⟩, h4⟩, h5⟩, h6⟩, h7⟩, h8⟩ := h
      have nd := o.nd
      rw [← o.N] at nd h3
      rw [← o.sc] at h3
      have p := pe_dict (pos := pos) (K := X.K) (b := b) (own := ownN X.N own) (k := k) (v := v) (t := t) o.calm nd (by have := o.un; omega) (by rw [ownN_snd]; exact h2) (cI_ok it c _ _ ω X h4 o) (blkOk_by h3) (set_of h1)
        (fun s H Ca cl fp => ⟨cT_ok t _ _ ω.no _ h5 (o.blk s H _ Ca cl fp), cC_ok q _ _ ω.no _ h6 (o.blk s H _ Ca cl fp), cE_ok k _ _ ω.no _ h7 (o.blk s H _ Ca cl fp), cE_ok v _ _ ω.no _ h8 (o.blk s H _ Ca cl fp)⟩)
      rw [ownN_snd] at p
      exact p.imp fun _ _ _ q => s_fresh (fun _ _ _ _ => dc_nw) q
    · cases h
  | .call f es ks perm, c, e, ω, X, h, o => by
    unfold cE at h
    split at h
    · split at h
      · rename_i pr hf
        obtain ⟨y, ps⟩ := pr
        simp only [Bool.and_eq_true, decide_eq_true_eq] at h
        obtain ⟨⟨⟨⟨⟨⟨⟨rfl, h1⟩, h2⟩, h3⟩, h4⟩, h5⟩, h6⟩, h7⟩ := h
        obtain ⟨a, fd, k, g1, g2, g3, g4, g5⟩ := o.fns _ _ _ hf
        have l1 := cEs_len h6 h3
        have l2 := cKs_len h7
        have l3 := kwAll_len h4
        refine (pe_callG g4 g3 o.gd (gl_of o h1) g1 g2 (g5 _ _ _ h5) (fun σ => passAt o.tk σ) (cEs_ok es c _ ω X h6 o) (cKs_ok ks c _ ω X h7 o) h3 h4 rfl ?_ (nm_of h2).1).imp fun _ _ _ q => ?_
        · intro e0 σ H Q q
          subst e0
          cases es with
          | nil => exact s_nil q
          | cons => simp [MEs.len] at l1
          | star => simp [MEs.len] at l1
        · rw [l3]
          refine s_call l1 l2 ?_ q
          unfold kwShape at h5
          split at h5
          · rename_i z
            simp only [Bool.and_eq_true, List.isEmpty_iff, beq_iff_eq] at h5
            rw [if_pos h5.1, h5.2]
            rw [z] at l3
            have l4 := l3
            simp only [List.length_nil] at l4
            omega
          · simp only [Bool.and_eq_true, decide_eq_true_eq] at h5
            have e1 : perm = permOf ps _ _ := h5.1.1.1.1.1
            have ne : perm ≠ [] := by
              rw [e1]; unfold permOf
              have := h5.2
              cases ps <;> simp at this ⊢
            rw [if_neg ne, e1]
            simp [permOf]
      · cases h
    · cases h
  | .blt b es, c, e, ω, X, h, o => by
    unfold cE at h
    split at h
    · simp only [Bool.and_eq_true, decide_eq_true_eq] at h
      obtain ⟨⟨⟨⟨rfl, h1⟩, h2⟩, h3⟩, h4⟩ := h
      exact (bf_call (blt_ok o.calm (by have := o.un; omega) o.gd b) (gl_of o h1) (o.bi _ h2) (cEs_ok es c _ ω X h4 o) h3).imp fun _ _ _ q => by rw [o.mg]; exact s_blt q
    · cases h
  | .lrng a b, c, e, ω, X, h, o => by
    unfold cE at h
    split at h
    · simp only [Bool.and_eq_true, decide_eq_true_eq] at h
      obtain ⟨⟨⟨⟨⟨⟨⟨⟨rfl, h1⟩, h2⟩, rfl⟩, h3⟩, h4⟩, h5⟩, h6⟩, h7⟩ := h
      have ea : a = .con (.int 0) := by
        split at h6
        · rfl
        · cases h6
      subst ea
      exact (pe_listRg o.calm (gl_of o h1) (o.bi _ h2) (prg_1 (gl_of o h3) (o.bi _ h4) (cE_ok b c _ ω X h7 o) (plain_star h5)) (plain_star rfl)).imp fun _ _ _ q => sF_lrng1 (s_fresh (fun _ _ _ _ => lrng_nw) q)
    · simp only [Bool.and_eq_true, decide_eq_true_eq] at h
      obtain ⟨⟨⟨⟨⟨⟨⟨⟨⟨rfl, h1⟩, h2⟩, rfl⟩, h3⟩, h4⟩, h5⟩, h6⟩, h7⟩, h8⟩ := h
      exact (pe_listRg o.calm (gl_of o h1) (o.bi _ h2) (prg_2 (gl_of o h3) (o.bi _ h4) (cE_ok a c _ ω X h7 o) (cE_ok b c _ ω X h8 o) (plain_star h5) (plain_star h6) (plain_any (by simp [h6]))) (plain_star rfl)).imp fun _ _ _ q => sF_lrng (s_fresh (fun _ _ _ _ => lrng_nw) q)
    · cases h
  | .isa a t, c, e, ω, X, h, o => by
    unfold cE at h
    split at h
    · simp only [Bool.and_eq_true, decide_eq_true_eq] at h
      obtain ⟨⟨⟨⟨⟨⟨⟨rfl, rfl⟩, h1⟩, h2⟩, h3⟩, h4⟩, h5⟩, h6⟩ := h
      refine (pe_callB call_isi (gl_of o h1) (o.bi _ h3) PyProof.Rows.boot_isinstance (pa_cons (cE_ok a c _ ω X h6 o) (pa_cons (ty_pe (gl_of o h2) (o.bi _ h4)) pa_nil rfl) (plain_star h5)) (by decide) (by decide) (plain_star h5) rfl).imp fun _ _ _ q => s_isa q
    · cases h
  | .met m ob es, c, e, ω, X, h, o => by
    unfold cE at h
    split at h
    · simp only [Bool.and_eq_true, decide_eq_true_eq] at h
      obtain ⟨⟨⟨⟨⟨⟨⟨rfl, hm⟩, h1⟩, h2⟩, h3⟩, h4⟩, h5⟩, h6⟩ := h
      cases m <;> simp at hm
      have pl := h3
      simp only [List.all_cons, Bool.and_eq_true] at pl
      exact (pe_bm PySem.F.plainAttrs_list PySem.F.slot_list_index PySem.F.type_list_index (mt_lindex (by have := o.un; omega)) (cE_ok ob c _ ω X h5 o) (cEs_ok es c _ ω X h6 o) (sup_of h1) (few_of h3 h4) h2 (plain_star pl.1) (plain_any pl.2)).imp fun _ _ _ q => by rw [o.mg]; exact s_lindex q
    · cases h
  | .mut m ob es, c, e, ω, X, h, o => by
    unfold cE at h
    split at h
    · simp only [Bool.and_eq_true, decide_eq_true_eq] at h
      obtain ⟨⟨⟨⟨rfl, h1⟩, h2⟩, h3⟩, h4⟩ := h
      cases es <;> simp at h4
      obtain ⟨id, m1, m2, m3⟩ := mu_all (X := X) m
      exact (pe_bm0 PySem.F.plainAttrs_list m1 m2 m3 (cE_ok ob c _ ω X h3 o) (sup_of h1) h2).imp fun _ _ _ q => by rw [o.mg]; exact s_mut0 q
    · simp only [Bool.and_eq_true, decide_eq_true_eq] at h
      obtain ⟨⟨⟨⟨⟨⟨rfl, h1⟩, h2⟩, h3⟩, h4⟩, h5⟩, h6⟩ := h
      have pl := h3
      simp only [List.all_cons, Bool.and_eq_true] at pl
      obtain ⟨id, m1, m2, m3⟩ := mu_all (X := X) m
      exact (pe_bm PySem.F.plainAttrs_list m1 m2 m3 (cE_ok ob c _ ω X h5 o) (cEs_ok es c _ ω X h6 o) (sup_of h1) (few_of h3 h4) h2 (plain_star pl.1) (plain_any pl.2)).imp fun _ _ _ q => by rw [o.mg]; exact s_mut q
    · cases h
  | .new a, c, e, ω, X, h, o => by
    unfold cE at h
    exact (cF_ok a c e ω X h o).imp fun _ _ _ => s_new
  | .frz a, c, e, ω, X, h, o => by
    unfold cE at h
    exact (cE_ok a c e ω X h o).imp fun _ _ _ => s_frz
theorem cF_ok : ∀ (m : ME) (c : Ec) (e : Expr) (ω : Wk) (X : Cx), cF G m c e = true → Okx G C ω X c → PE X e (tF ω (evE C m))
  | .bin op a b, c, e, ω, X, h, o => by
    unfold cF at h
    split at h
    · simp only [Bool.and_eq_true, Bool.or_eq_true, decide_eq_true_eq] at h
      obtain ⟨⟨⟨rfl, h0⟩, h1⟩, h2⟩ := h
      rcases h0 with rfl | rfl
      · exact (pe_op opF_add (cE_ok a c _ ω X h1 o) (cE_ok b c _ ω X h2 o)).imp fun _ _ _ q => by rw [o.mg]; exact sF_bin (fun _ _ _ => addL_of) q
      · exact (pe_op opF_mul (cE_ok a c _ ω X h1 o) (cE_ok b c _ ω X h2 o)).imp fun _ _ _ q => by rw [o.mg]; exact sF_bin (fun _ _ _ => mulL_of) q
    · cases h
  | .lst es, c, e, ω, X, h, o => by
    unfold cF at h
    split at h
    · exact (pe_lst (cEs_ok es c _ ω X h o)).imp fun _ _ _ => s_lst
    · cases h
  | .lc own a t it q, c, e, ω, X, h, o => by
    unfold cF at h
    split at h
    · rename_i pos
      simp only [Bool.and_eq_true, decide_eq_true_eq] at h
      obtain ⟨⟨⟨⟨⟨⟨⟨rfl, h1⟩, h2⟩, h3⟩, h4⟩, h5⟩, h6⟩, h7⟩ := h
      have nd := o.nd
      rw [← o.N] at nd h3
      rw [← o.sc] at h3
      have p := pe_lc (pos := pos) (own := ownN X.N own) (g := gOf ω.no C X.K t) o.calm nd (cI_ok it c _ _ ω X h4 o) (blkOk_by h3) (fun s H Ca cl fp => cT_ok t _ _ ω.no _ h5 (o.blk s H _ Ca cl fp)) (fun s H Ca cl fp => cC_ok q _ _ ω.no _ h6 (o.blk s H _ Ca cl fp)) (fun s H Ca cl fp => cE_ok a _ _ ω.no _ h7 (o.blk s H _ Ca cl fp)) (set_of h1)
      rw [ownN_snd] at p
      exact p.imp fun _ _ _ q => s_lc h2 q
    · cases h
  | .dc b own k v t it q, c, e, ω, X, h, o => by
    unfold cF at h
    split at h
    · rename_i pos
      simp only [Bool.and_eq_true, decide_eq_true_eq] at h
      obtain ⟨⟨⟨⟨⟨⟨⟨⟨rfl, h1⟩, h2⟩, h3⟩, h4⟩, h5⟩, h6⟩, h7⟩, h8⟩ := h
      have nd := o.nd
      rw [← o.N] at nd h3
      rw [← o.sc] at h3
      have p := pe_dict (pos := pos) (K := X.K) (b := b) (own := ownN X.N own) (k := k) (v := v) (t := t) o.calm nd (by have := o.un; omega) (by rw [ownN_snd]; exact h2) (cI_ok it c _ _ ω X h4 o) (blkOk_by h3) (set_of h1)
        (fun s H Ca cl fp => ⟨cT_ok t _ _ ω.no _ h5 (o.blk s H _ Ca cl fp), cC_ok q _ _ ω.no _ h6 (o.blk s H _ Ca cl fp), cE_ok k _ _ ω.no _ h7 (o.blk s H _ Ca cl fp), cE_ok v _ _ ω.no _ h8 (o.blk s H _ Ca cl fp)⟩)
      rw [ownN_snd] at p
      exact p
    · cases h
  | .blt b es, c, e, ω, X, h, o => by
    unfold cF at h
    split at h
    · simp only [Bool.and_eq_true, decide_eq_true_eq] at h
      obtain ⟨⟨⟨⟨⟨h0, rfl⟩, h1⟩, h2⟩, h3⟩, h4⟩ := h
      have key : CallR X (bfV b) (rBF X.Mg (bltD b)) := by
        cases b <;> simp at h0
        · exact bltF_sorted (by have := o.un; omega)
        · exact bltF_list o.calm
      exact (bf_call key (gl_of o h1) (o.bi _ h2) (cEs_ok es c _ ω X h4 o) h3).imp fun _ _ _ q => by rw [o.mg]; exact sF_blt q
    · cases h
  | .var _, c, e, ω, X, h, o => by unfold cF at h; cases h
  | .con _, c, e, ω, X, h, o => by unfold cF at h; cases h
  | .gl _ _, c, e, ω, X, h, o => by unfold cF at h; cases h
  | .fn _, c, e, ω, X, h, o => by unfold cF at h; cases h
  | .neg _, c, e, ω, X, h, o => by unfold cF at h; cases h
  | .not _, c, e, ω, X, h, o => by unfold cF at h; cases h
  | .and _ _, c, e, ω, X, h, o => by unfold cF at h; cases h
  | .or _ _, c, e, ω, X, h, o => by unfold cF at h; cases h
  | .cmp _ _ _, c, e, ω, X, h, o => by unfold cF at h; cases h
  | .chain _ _ _ _ _, c, e, ω, X, h, o => by unfold cF at h; cases h
  | .ite _ _ _, c, e, ω, X, h, o => by unfold cF at h; cases h
  | .idx _ _, c, e, ω, X, h, o => by unfold cF at h; cases h
  | .slc _ _ _, c, e, ω, X, h, o => by unfold cF at h; cases h
  | .tup _, c, e, ω, X, h, o => by unfold cF at h; cases h
  | .dsp t ps, c, e, ω, X, h, o => by
    unfold cF at h
    split at h
    · simp only [Bool.and_eq_true, decide_eq_true_eq] at h
      exact dsp_pe h.1 h.2
    · cases h
  | .rev _, c, e, ω, X, h, o => by unfold cF at h; cases h
  | .dput _ _ _, c, e, ω, X, h, o => by unfold cF at h; cases h
  | .sset _, c, e, ω, X, h, o => by unfold cF at h; cases h
  | .dzip _ _ _, c, e, ω, X, h, o => by unfold cF at h; cases h
  | .lc2 _ _ _ _ _ _ _ _ _, c, e, ω, X, h, o => by unfold cF at h; cases h
  | .call _ _ _ _, c, e, ω, X, h, o => by unfold cF at h; cases h
  | .lrng a b, c, e, ω, X, h, o => by
    unfold cF at h
    split at h
    · simp only [Bool.and_eq_true, decide_eq_true_eq] at h
      obtain ⟨⟨⟨⟨⟨⟨⟨⟨rfl, h1⟩, h2⟩, rfl⟩, h3⟩, h4⟩, h5⟩, h6⟩, h7⟩ := h
      have ea : a = .con (.int 0) := by
        split at h6
        · rfl
        · cases h6
      subst ea
      exact (pe_listRg o.calm (gl_of o h1) (o.bi _ h2) (prg_1 (gl_of o h3) (o.bi _ h4) (cE_ok b c _ ω X h7 o) (plain_star h5)) (plain_star rfl)).imp fun _ _ _ q => sF_lrng1 q
    · simp only [Bool.and_eq_true, decide_eq_true_eq] at h
      obtain ⟨⟨⟨⟨⟨⟨⟨⟨⟨rfl, h1⟩, h2⟩, rfl⟩, h3⟩, h4⟩, h5⟩, h6⟩, h7⟩, h8⟩ := h
      exact (pe_listRg o.calm (gl_of o h1) (o.bi _ h2) (prg_2 (gl_of o h3) (o.bi _ h4) (cE_ok a c _ ω X h7 o) (cE_ok b c _ ω X h8 o) (plain_star h5) (plain_star h6) (plain_any (by simp [h6]))) (plain_star rfl)).imp fun _ _ _ q => sF_lrng q
    · cases h
  | .isa _ _, c, e, ω, X, h, o => by unfold cF at h; cases h
  | .met _ _ _, c, e, ω, X, h, o => by unfold cF at h; cases h
  | .mut _ _ _, c, e, ω, X, h, o => by unfold cF at h; cases h
  | .new _, c, e, ω, X, h, o => by unfold cF at h; cases h
  | .frz _, c, e, ω, X, h, o => by unfold cF at h; cases h
theorem cN_ok : ∀ (m : MB) (c : Ec) (e : Expr) (ω : Wk) (X : Cx), cN G m c e = true → Okx G C ω X c → ∀ {pos : Pos}, PE X (.UnaryOp .Not e pos) (tE ω (evE C (.not m)))
  | .tru a, c, e, ω, X, h, o, pos => by
    unfold cN at h
    exact (pe_notT (cE_ok a c e ω X h o)).imp fun _ _ _ => s_not
  | .not _, c, e, ω, X, h, o, pos => by unfold cN at h; cases h
  | .and _ _, c, e, ω, X, h, o, pos => by unfold cN at h; cases h
  | .or _ _, c, e, ω, X, h, o, pos => by unfold cN at h; cases h
theorem cB_ok : ∀ (m : MB) (c : Ec) (e : Expr) (ω : Wk) (X : Cx), cB G m c e = true → Okx G C ω X c → PT X e (tB ω (evB C m))
  | .tru a, c, e, ω, X, h, o => by
    unfold cB at h
    simp only [Bool.and_eq_true] at h
    obtain ⟨h0, h1⟩ := h
    have pe := cE_ok a c e ω X h1 o
    split at h0
    · rename_i op x y ea ops es pos
      unfold cE at h1
      split at h1
      · rename_i hq
        cases hq
        simp only [Bool.and_eq_true, decide_eq_true_eq, Bool.not_eq_true'] at h1
        obtain ⟨⟨⟨rfl, k0⟩, k1⟩, k2⟩ := h1
        exact (pt_cmpR (op2_cmp (by have := o.un; omega) op) (cE_ok x c _ ω X k1 o) (cE_ok y c _ ω X k2 o) k0).imp fun _ _ _ q => by rw [o.mg]; exact s_cmp (s_truB (fun _ _ _ _ => cmp_bl) q)
      · cases h1
    · rename_i op op' x y z ea ops es pos
      unfold cE at h1
      split at h1
      · rename_i hq
        cases hq
        simp only [Bool.and_eq_true, decide_eq_true_eq, Bool.not_eq_true'] at h1
        obtain ⟨⟨⟨⟨⟨rfl, rfl⟩, k0⟩, k1⟩, k2⟩, k3⟩ := h1
        exact (pt_chain (op2_cmp (by have := o.un; omega) op) (op2_cmp (by have := o.un; omega) op') (cE_ok x c _ ω X k1 o) (cE_ok y c _ ω X k2 o) (cE_ok z c _ ω X k3 o) k0).imp fun _ _ _ q => by rw [o.mg]; exact s_chain (s_truB (fun _ _ _ _ => chain_bl) q)
      · cases h1
    · exact (pt_truth pe (tru_of h0)).imp fun _ _ _ => s_tru
  | .not a, c, e, ω, X, h, o => by
    unfold cB at h
    split at h
    · simp only [Bool.and_eq_true, decide_eq_true_eq] at h
      obtain ⟨rfl, h1⟩ := h
      exact (pt_not (cB_ok a c _ ω X h1 o)).imp fun _ _ _ => s_bnot
    · cases h
  | .and a b, c, e, ω, X, h, o => by
    unfold cB at h
    split at h
    · simp only [Bool.and_eq_true, decide_eq_true_eq] at h
      obtain ⟨⟨rfl, h1⟩, h2⟩ := h
      exact (pw_and (cB_ok a c _ ω X h1 o) (rest_and (cB_ok b c _ ω X h2 o))).pt.imp fun _ _ _ => s_band
    · cases h
  | .or a b, c, e, ω, X, h, o => by
    unfold cB at h
    split at h
    · simp only [Bool.and_eq_true, decide_eq_true_eq] at h
      obtain ⟨⟨rfl, h1⟩, h2⟩ := h
      exact (pw_or (cB_ok a c _ ω X h1 o) (rest_or (cB_ok b c _ ω X h2 o))).pt.imp fun _ _ _ => s_bor
    · cases h
theorem cO_ok : ∀ (m : MO) (c : Ec) (e : Option Expr) (ω : Wk) (X : Cx), cO G m c e = true → Okx G C ω X c → PO X e (tO ω (evO C m))
  | .nil, c, e, ω, X, h, o => by
    unfold cO at h
    split at h
    · exact po_none.imp fun _ _ _ => o_nil
    · cases h
  | .one a, c, e, ω, X, h, o => by
    unfold cO at h
    split at h
    · cases h
    · exact (po_some (cE_ok a c _ ω X h o)).imp fun _ _ _ => o_one
theorem cEs_ok : ∀ (m : MEs) (c : Ec) (e : List Expr) (ω : Wk) (X : Cx), cEs G m c e = true → Okx G C ω X c → PA X e (tA ω (evEs C m))
  | .nil, c, e, ω, X, h, o => by
    unfold cEs at h
    split at h
    · exact pa_nil.imp fun _ _ _ => s_nil
    · cases h
  | .cons a r, c, e, ω, X, h, o => by
    unfold cEs at h
    split at h
    · simp only [Bool.and_eq_true] at h
      exact (pa_cons (cE_ok a c _ ω X h.1.2 o) (cEs_ok r c _ ω X h.2 o) (plain_star h.1.1)).imp fun _ _ _ => s_cons
    · cases h
  | .star a r, c, e, ω, X, h, o => by
    unfold cEs at h
    split at h
    · simp only [Bool.and_eq_true] at h
      exact (StX.pa_star (cE_ok a c _ ω X h.1 o) (cEs_ok r c _ ω X h.2 o) rfl).imp fun _ _ _ => s_star
    · cases h
theorem cKs_ok : ∀ (m : MEs) (c : Ec) (e : List Keyword) (ω : Wk) (X : Cx), cKs G m c e = true → Okx G C ω X c → PK X e (tA ω (evEs C m))
  | .nil, c, e, ω, X, h, o => by
    unfold cKs at h
    split at h
    · exact ⟨fun pos pins s σ H Q I q => pk_nil.run pos pins s σ H Q I (s_nil q)⟩
    · cases h
  | .cons a r, c, e, ω, X, h, o => by
    unfold cKs at h
    split at h
    · simp only [Bool.and_eq_true] at h
      exact ⟨fun pos pins s σ H Q I q => (pk_cons (cE_ok a c _ ω X h.1 o) (cKs_ok r c _ ω X h.2 o)).run pos pins s σ H Q I (s_cons q)⟩
    · cases h
  | .star _ _, c, e, ω, X, h, o => by unfold cKs at h; cases h
theorem cC_ok : ∀ (m : MC) (c : Ec) (e : List Expr) (ω : Wk) (X : Cx), cC G m c e = true → Okx G C ω X c → PTs X e (tB ω (evC C m))
  | .nil, c, e, ω, X, h, o => by
    unfold cC at h
    split at h
    · refine ⟨fun pins s σ H Q I q => pts_nil.run pins s σ H Q I ?_⟩
      obtain ⟨R, c, σd, M, m, rs, q⟩ := q
      rw [evC] at q
      exact q true H c (Aft.refl m) rfl
    · cases h
  | .one a, c, e, ω, X, h, o => by
    unfold cC at h
    split at h
    · refine ⟨fun pins s σ H Q I q => (pts_one (cB_ok a c _ ω X h o)).run pins s σ H Q I ?_⟩
      obtain ⟨R, c, σd, M, m, rs, q⟩ := q
      rw [evC] at q
      exact ⟨R, c, σd, M, m, rs, q⟩
    · cases h
theorem cI_ok : ∀ (m : MI) (c : Ec) (tg e : Expr) (ω : Wk) (X : Cx), cI G m c tg e = true → Okx G C ω X c → PI X tg e (tI ω (evI C m))
  | .seq a, c, tg, e, ω, X, h, o => by
    unfold cI at h
    have pe := cE_ok a c e ω X h o
    exact (PI.or (pi_list pe) (pi_tup pe)).imp fun _ _ _ => i_seq
  | .rng a b, c, tg, e, ω, X, h, o => by
    unfold cI at h
    split at h
    · simp only [Bool.and_eq_true, decide_eq_true_eq] at h
      obtain ⟨⟨⟨⟨⟨rfl, h1⟩, h2⟩, h3⟩, h4⟩, h5⟩ := h
      have ea : a = .con (.int 0) := by
        split at h4
        · rfl
        · cases h4
      subst ea
      exact (pi_range1 (gl_of o h1) (o.bi _ h2) (pa_cons (cE_ok b c _ ω X h5 o) pa_nil (plain_star h3)) (plain_star h3)).imp fun _ _ _ => i_rng1
    · simp only [Bool.and_eq_true, decide_eq_true_eq] at h
      obtain ⟨⟨⟨⟨⟨⟨rfl, h1⟩, h2⟩, h3⟩, h4⟩, h5⟩, h6⟩ := h
      exact (pi_range2 (gl_of o h1) (o.bi _ h2) (pa_cons (cE_ok a c _ ω X h5 o) (pa_cons (cE_ok b c _ ω X h6 o) pa_nil (plain_star h4)) (plain_star h3)) (by rw [plain_star h3, plain_star h4]; rfl) (plain_star h4)).imp fun _ _ _ => i_rng
    · cases h
  | .enm a, c, tg, e, ω, X, h, o => by
    unfold cI at h
    split at h
    · simp only [Bool.and_eq_true, decide_eq_true_eq] at h
      obtain ⟨⟨⟨⟨rfl, h1⟩, h2⟩, h3⟩, h4⟩ := h
      have pa := pa_cons (cE_ok a c _ ω X h4 o) pa_nil (plain_star h3)
      exact (PI.or (pi_enum (gl_of o h1) (o.bi _ h2) pa (plain_star h3)) (pi_enumT (gl_of o h1) (o.bi _ h2) pa (plain_star h3))).imp fun _ _ _ => i_enm
    · cases h
  | .zip a b, c, tg, e, ω, X, h, o => by
    unfold cI at h
    split at h
    · simp only [Bool.and_eq_true, decide_eq_true_eq] at h
      obtain ⟨⟨⟨⟨⟨⟨rfl, h1⟩, h2⟩, h3⟩, h4⟩, h5⟩, h6⟩ := h
      exact (RZ.pi_zipA (gl_of o h1) (o.bi _ h2) (pa_cons (cE_ok a c _ ω X h5 o) (pa_cons (cE_ok b c _ ω X h6 o) pa_nil (plain_star h4)) (plain_star h3)) (plain_star h3) (plain_any (by simp [h4]))).imp fun _ _ _ => i_zip
    · cases h
  | .rdn a, c, tg, e, ω, X, h, o => by
    unfold cI at h
    split at h
    · simp only [Bool.and_eq_true, decide_eq_true_eq] at h
      obtain ⟨⟨⟨⟨rfl, h1⟩, h2⟩, h3⟩, h4⟩ := h
      exact (pi_range3 (gl_of o h1) (o.bi _ h2) (pa_cons (cE_ok a c _ ω X h4 o) (pa_cons (pe_un un_neg pe_int) (pa_cons (pe_un un_neg pe_int) pa_nil (plain_star rfl)) (plain_star rfl)) (plain_star h3)) (plain_star h3) (plain_any rfl)).imp fun _ _ _ => i_rdn
    · cases h
  | .vals _, c, tg, e, ω, X, h, o => by unfold cI at h; cases h
theorem cT_ok : ∀ (m : MT) (c : Ec) (e : Expr) (ω : Wk) (X : Cx), cT G m c e = true → Okx G C ω X c → PG X e (gOf ω C X.K m)
  | .nm i, c, e, ω, X, h, o => by
    unfold cT at h
    split at h
    · simp only [Bool.and_eq_true, decide_eq_true_eq] at h
      obtain ⟨h1, h2⟩ := h
      have nd := o.nd
      rw [← o.N] at nd h1
      unfold stoB at h2
      rw [← o.sc] at h2
      split at h2
      · rename_i z; exact pg_name nd h1 (.inl z) (.inr z)
      · rename_i z; exact pg_name nd h1 (.inr z) (.inl (o.fn _ h2))
      · cases h2
    · cases h
  | .tp ts, c, e, ω, X, h, o => by
    unfold cT at h
    split at h
    · obtain ⟨p1, p2, p3⟩ := cTs_ok ts c _ ω X h o
      exact PG.or (pg_tup o.calm p1 p2 p3) (pg_lst o.calm p1 p2 p3)
    · cases h
  | .sub a i, c, e, ω, X, h, o => by
    unfold cT at h
    split at h
    · simp only [Bool.and_eq_true] at h
      rename_i pos
      have := pg_sub (pos := pos) (cE_ok a c _ ω X h.1.2 o) (cE_ok i c _ ω X h.2 o) (set_ok (X := X) (by have := o.un; omega)) (sub_of h.1.1)
      rw [o.mg] at this
      exact this
    · cases h
theorem cTs_ok : ∀ (m : MTs) (c : Ec) (e : List Expr) (ω : Wk) (X : Cx), cTs G m c e = true → Okx G C ω X c → PGs X e (gsOf ω C X.K m) ∧ (assignEach e X.env).length = m.len ∧ (assignEach e X.env).findIdx? (·.1) = none
  | .nil, c, e, ω, X, h, o => by
    unfold cTs at h
    split at h
    · exact ⟨pgs_nil, rfl, rfl⟩
    · cases h
  | .cons t r, c, e, ω, X, h, o => by
    unfold cTs at h
    split at h
    · rename_i e es
      simp only [Bool.and_eq_true] at h
      obtain ⟨q1, q2, q3⟩ := cTs_ok r c _ ω X h.2 o
      have es1 : assignEach (e :: es) X.env = (false, assign e X.env) :: assignEach es X.env := by
        have := h.1.1
        cases e <;> first | rfl | simp [plainE] at this
      refine ⟨pgs_cons (cT_ok t c _ ω X h.1.2 o) q1 (by rw [es1]; rfl), by rw [es1]; simp [q2, MTs.len], ?_⟩
      rw [es1, List.findIdx?_cons]
      simp [q3]
    · cases h
end
end
end Mp

/-! Statements. -/
namespace Mp
open PySem PySem.Spec PyProof.Rows L2

def PostS (ω : Wk) (R : Addr → Prop) (H : Hp) (c : List Addr) (M : Cs) (D : Ends) : SR → Prop
  | .nx σd M' => ∀ σ H' c', Aft ω.mg R H c M M' H' c' → RpS ω.mg H' (Lv R c' M') c' σd σ → D.nx σ H'
  | .br σd M' => ∀ σ H' c', Aft ω.mg R H c M M' H' c' → RpS ω.mg H' (Lv R c' M') c' σd σ → D.bk σ H'
  | .ct σd M' => ∀ σ H' c', Aft ω.mg R H c M M' H' c' → RpS ω.mg H' (Lv R c' M') c' σd σ → D.ct σ H'
  | .rt d M' => ∀ v H' c', Aft ω.mg R H c M M' H' c' → Rp ω.mg H' (Lv R c' M') c' d v → D.rt v H'
  | .ex e σd M' => ∀ cls dd σ H' c', Aft ω.mg R H c M M' H' c' → RpS ω.mg H' (Lv R c' M') c' σd σ → ExR ω.mg H' (Lv R c' M') c' ω.att cls dd e → ω.W cls dd σ H'
  | .bad => False
def tS (ω : Wk) (f : En → Cs → SR) : TS := fun D σ H => ∃ R c σd M, CM ω.mg R H c M ∧ RpS ω.mg H (Lv R c M) c σd σ ∧ PostS ω R H c M D (f σd M)
theorem _root_.L2.PS.imp {X : Cx} {e : Stmt} {t u : TS} (h : PS X e t) (k : ∀ D σ H, u D σ H → t D σ H) : PS X e u := ⟨fun pins s σ H D I q => h.run pins s σ H D I (k D σ H q)⟩
theorem _root_.L2.PSs.imp {X : Cx} {e : List Stmt} {t u : TS} (h : PSs X e t) (k : ∀ D σ H, u D σ H → t D σ H) : PSs X e u := ⟨fun pins s σ H D I q => h.run pins s σ H D I (k D σ H q)⟩
section
variable {ω : Wk} {C : Cl} {K : PySem.W.Frag} {D : Ends} {σ : L2.St} {H : Hp} {R : Addr → Prop} {c : List Addr} {M : Cs}
theorem PostS.shift {H1 : Hp} {c1 : List Addr} {M1 : Cs} (a : Aft ω.mg R H c M M1 H1 c1) : ∀ {r : SR}, PostS ω R H c M D r → PostS ω R H1 c1 M1 D r
  | .nx _ _, h => fun s H' c' a2 r => h s H' c' (a.trans a2) r
  | .br _ _, h => fun s H' c' a2 r => h s H' c' (a.trans a2) r
  | .ct _ _, h => fun s H' c' a2 r => h s H' c' (a.trans a2) r
  | .rt _ _, h => fun s H' c' a2 r => h s H' c' (a.trans a2) r
  | .ex _ _ _, h => fun cls dd s H' c' a2 r => h cls dd s H' c' (a.trans a2) r
  | .bad, h => h.elim
theorem PostS.of {α β : Type} {rel : Rl α β} {σd : En} {g : α → Cs → SR} {Q : β → Hp → Prop} (rs : RpS ω.mg H (Lv R c M) c σd σ) : ∀ {r : Res α}, PostS ω R H c M D (SR.of σd r g) →
    (∀ a M1 b H1 c1, r = .ok a M1 → Aft ω.mg R H c M M1 H1 c1 → rel R H1 c1 M1 a b → RpS ω.mg H1 (Lv R c1 M1) c1 σd σ → PostS ω R H1 c1 M1 D (g a M1) → Q b H1) → Post ω rel R H c M σ Q r
  | .ok a M1, h, k => fun b H1 c1 a1 r => k a M1 b H1 c1 rfl a1 r (rs.mono a1.1.gr) (h.shift a1)
  | .ex _ M1, h, _ => fun cls dd H' c' a r => h cls dd σ H' c' a (rs.mono a.1.gr) r
  | .bad, h, _ => h.elim

theorem s_pss (h : tS ω (evS C .pss) D σ H) : tNext D σ H := by
  obtain ⟨R, c, σd, M, m, rs, h⟩ := h
  exact h σ H c (Aft.refl m) rs
theorem s_brk (h : tS ω (evS C .brk) D σ H) : tBreak D σ H := by
  obtain ⟨R, c, σd, M, m, rs, h⟩ := h
  exact h σ H c (Aft.refl m) rs
theorem s_cnt (h : tS ω (evS C .cnt) D σ H) : tCont D σ H := by
  obtain ⟨R, c, σd, M, m, rs, h⟩ := h
  exact h σ H c (Aft.refl m) rs
theorem s_nev (h : tS ω (evS C .nev) D σ H) : tNever D σ H := by
  obtain ⟨R, c, σd, M, m, rs, h⟩ := h
  exact h.elim
theorem s_exp {e : ME} (h : tS ω (evS C (.exp e)) D σ H) : tDrop (tE ω (evE C e)) D σ H := by
  obtain ⟨R, c, σd, M, m, rs, h⟩ := h
  rw [evS] at h
  exact ⟨R, c, σd, M, m, rs, h.of rs fun x M1 v H1 c1 _ a1 r1 rs1 q => q σ H1 c1 (Aft.refl a1.2) rs1⟩
theorem s_ret {e : ME} (h : tS ω (evS C (.ret e)) D σ H) : tRet (tE ω (evE C e)) D σ H := by
  obtain ⟨R, c, σd, M, m, rs, h⟩ := h
  rw [evS] at h
  exact ⟨R, c, σd, M, m, rs, h.of rs fun x M1 v H1 c1 _ a1 r1 rs1 q => q v H1 c1 (Aft.refl a1.2) r1⟩
theorem s_retN (h : tS ω (evS C (.ret (.con .non))) D σ H) : tRetN D σ H := by
  obtain ⟨R, c, σd, M, m, rs, h⟩ := h
  rw [evS, evE] at h
  exact h .non H c (Aft.refl m) (by simp [Rp])
theorem s_if {q : MB} {a b : MSs} (h : tS ω (evS C (.ite q a b)) D σ H) : tIfS (tB ω (evB C q)) (tS ω (evSs C a)) (tS ω (evSs C b)) D σ H := by
  obtain ⟨R, c, σd, M, m, rs, h⟩ := h
  rw [evS] at h
  refine ⟨R, c, σd, M, m, rs, h.of rs fun x M1 v H1 c1 _ a1 r1 rs1 q => ?_⟩
  obtain rfl : x = v := r1
  cases x with
  | true => rw [if_pos rfl] at q ⊢; exact ⟨R, c1, σd, M1, a1.2, rs1, q⟩
  | false => rw [if_neg (by decide)] at q ⊢; exact ⟨R, c1, σd, M1, a1.2, rs1, q⟩
theorem s_asg {e : ME} {t : MT} (h : tS ω (evS C (.asg t e)) D σ H) : tAsg (tE ω (evE C e)) (gOf ω C K t) D σ H := by
  obtain ⟨R, c, σd, M, m, rs, h⟩ := h
  rw [evS] at h
  refine ⟨R, c, σd, M, m, rs, h.of rs fun d M1 v H1 c1 _ a1 r1 rs1 q => g_ok t ⟨R, c1, σd, M1, d, a1.2, rs1, r1, ?_⟩⟩
  cases eT : evT C t d σd M1 with
  | bad => rw [eT] at q; exact q.elim
  | ex x M2 => exact (evT_noex t d σd M1 x M2 eT).elim
  | ok σ1 M2 => rw [eT] at q; exact fun σ2 H2 c2 a2 r2 => q σ2 H2 c2 a2 r2
/-- name = a new object -/
theorem s_asgF {e : ME} {i : Nat} (hf : ∀ σd M d M1, evE C e σd M = .ok d M1 → isNw d = true) (h : tS ω (evS C (.asg (.nm i) e)) D σ H) : tAsg (tF ω (evE C e)) (gName i) D σ H := by
  have h' : tAsg (tE ω (evE C e)) (gOf ω C default (.nm i)) D σ H := s_asg h
  exact s_fresh hf h'
theorem s_asgN {e : ME} {i : Nat} (h : tS ω (evS C (.asg (.nm i) (.new e))) D σ H) : tAsg (tF ω (evE C e)) (gName i) D σ H := by
  have h' : tAsg (tE ω (evE C (.new e))) (gOf ω C default (.nm i)) D σ H := s_asg h
  exact s_new h'
theorem s_par {i j : Nat} {a b : ME} (h : tS ω (evS C (.asg (.tp (.cons (.nm i) (.cons (.nm j) .nil))) (.tup (.cons a (.cons b .nil))))) D σ H) : tPar i j (tA ω (evEs C (.cons a (.cons b .nil)))) D σ H := by
  obtain ⟨R, c, σd, M, m, rs, h⟩ := h
  rw [evS] at h
  have e0 : evE C (.tup (.cons a (.cons b .nil))) σd M = (evEs C (.cons a (.cons b .nil)) σd M).bind fun xs M1 => if xs.length ≤ sizeLine then .ok (.tup xs) M1 else .bad := by rw [evE]
  rw [e0] at h
  have h2 : PostS ω R H c M D (SR.of σd (evEs C (.cons a (.cons b .nil)) σd M) fun xs M1 => SR.of σd (if xs.length ≤ sizeLine then .ok (.tup xs) M1 else .bad : Res Mp.D) fun d M1 => SR.of σd (evT C (.tp (.cons (.nm i) (.cons (.nm j) .nil))) d σd M1) fun σ1 M2 => .nx σ1 M2) := by
    revert h
    cases evEs C (.cons a (.cons b .nil)) σd M <;> exact id
  refine ⟨R, c, σd, M, m, rs, h2.of rs fun xs M1 vs H1 c1 ee a1 r1 rs1 q => ?_⟩
  have hl : xs.length = 2 := evEs_len (n := 2) rfl ee
  match xs, hl with
  | [x, y], _ =>
    obtain ⟨v, r, rfl, rx, r2⟩ := RpL.cons_iff.mp r1
    obtain ⟨w, r, rfl, ry, r3⟩ := RpL.cons_iff.mp r2
    obtain rfl := RpL.nil_iff.mp r3
    rw [if_pos (by simp [sizeLine_eq])] at q
    simp only [SR.of, evT, evTs, tupD, consD, ok_bind, List.isEmpty_nil, if_true] at q
    exact ⟨v, w, rfl, q _ H1 c1 (Aft.refl a1.2) ((rs1.set i rx).set j ry)⟩
theorem s_par3 {i j l : Nat} {a b z : ME} (h : tS ω (evS C (.asg (.tp (.cons (.nm i) (.cons (.nm j) (.cons (.nm l) .nil)))) (.tup (.cons a (.cons b (.cons z .nil)))))) D σ H) : tPar3 i j l (tA ω (evEs C (.cons a (.cons b (.cons z .nil))))) D σ H := by
  obtain ⟨R, c, σd, M, m, rs, h⟩ := h
  rw [evS] at h
  have e0 : evE C (.tup (.cons a (.cons b (.cons z .nil)))) σd M = (evEs C (.cons a (.cons b (.cons z .nil))) σd M).bind fun xs M1 => if xs.length ≤ sizeLine then .ok (.tup xs) M1 else .bad := by rw [evE]
  rw [e0] at h
  have h2 : PostS ω R H c M D (SR.of σd (evEs C (.cons a (.cons b (.cons z .nil))) σd M) fun xs M1 => SR.of σd (if xs.length ≤ sizeLine then .ok (.tup xs) M1 else .bad : Res Mp.D) fun d M1 => SR.of σd (evT C (.tp (.cons (.nm i) (.cons (.nm j) (.cons (.nm l) .nil)))) d σd M1) fun σ1 M2 => .nx σ1 M2) := by
    revert h
    cases evEs C (.cons a (.cons b (.cons z .nil))) σd M <;> exact id
  refine ⟨R, c, σd, M, m, rs, h2.of rs fun xs M1 vs H1 c1 ee a1 r1 rs1 q => ?_⟩
  have hl : xs.length = 3 := evEs_len (n := 3) rfl ee
  match xs, hl with
  | [x, y, w], _ =>
    obtain ⟨v1, r, rfl, rx, r2⟩ := RpL.cons_iff.mp r1
    obtain ⟨v2, r, rfl, ry, r3⟩ := RpL.cons_iff.mp r2
    obtain ⟨v3, r, rfl, rz, r4⟩ := RpL.cons_iff.mp r3
    obtain rfl := RpL.nil_iff.mp r4
    rw [if_pos (by simp [sizeLine_eq])] at q
    simp only [SR.of, evT, evTs, tupD, consD, ok_bind, List.isEmpty_nil, if_true] at q
    exact ⟨v1, v2, v3, rfl, q _ H1 c1 (Aft.refl a1.2) (((rs1.set i rx).set j ry).set l rz)⟩
/-! ### loops -/
theorem s_for {t : MT} {it : MI} {b : MSs} (h : tS ω (evS C (.for_ t it b)) D σ H) : tFor (tI ω (evI C it)) (gOf ω C K t) (tS ω (evSs C b)) D σ H := by
  obtain ⟨R, c, σd, M, m, rs, h⟩ := h
  rw [evS] at h
  generalize hs : (fun d σ M => SR.of σ (evT C t d σ M) fun σ1 M2 => evSs C b σ1 M2) = step at h
  have hst : ∀ d σ M, step d σ M = SR.of σ (evT C t d σ M) fun σ1 M2 => evSs C b σ1 M2 := fun d σ M => by rw [← hs]
  clear hs
  refine ⟨R, c, σd, M, m, rs, h.of rs fun p M1 J H1 c1 _ a1 w rs1 h1 => ?_⟩
  obtain ⟨ds, ws⟩ := p
  dsimp only at h1
  have w : Wkd ω.mg R H1 c1 M1 J ds ws := w
  let Iv : Nat → L2.St → Hp → Prop := fun i σ' Hh => ∃ c' σe M', CM ω.mg R Hh c' M' ∧ Stp R H1 c1 M1 Hh c' M' ∧ same ws M1 M' = true ∧ RpS ω.mg Hh (Lv R c' M') c' σe σ' ∧ PostS ω R Hh c' M' D (forGo ws step (ds.drop i) σe M')
  refine ⟨fun i n σ' Hh => n = ds.length - i ∧ i ≤ ds.length ∧ Iv i σ' Hh, ⟨ds.length, by simp, Nat.zero_le _, c1, σd, M1, a1.2, Stp.refl .., by simp [same], rs1, h1⟩, ?_⟩
  rintro i n σ' Hh ⟨rfl, hi, c', σe, M', m', st, sm, rs', hq⟩
  rcases Nat.lt_or_ge i ds.length with hlt | hge
  · refine .inr ⟨w.go R Hh c' M' i m' st.gr sm hlt, Iv (i + 1), fun σ2 H' p' => ⟨ds.length - (i + 1), by omega, rfl, hlt, p'⟩, fun x H' y => ?_⟩
    obtain ⟨d, e1, af, rx⟩ := w.yld R Hh c' M' i x H' m' st.gr sm hlt y
    rw [drop_cons e1, forGo, hst] at hq
    replace hq := hq.shift af
    have rsA := rs'.mono af.1.gr
    refine g_ok t ⟨R, c', σe, M', d, af.2, rsA, rx, ?_⟩
    cases eT : evT C t d σe M' with
    | bad => rw [eT] at hq; exact hq.elim
    | ex x M2 => exact (evT_noex t d σe M' x M2 eT).elim
    | ok σ1 M2 =>
      rw [eT] at hq
      dsimp only [SR.of] at hq
      intro σ2 H2 c2 a2 r2
      have hq2 := PostS.shift (show Aft ω.mg R H' c' M' M2 H2 c2 from a2) hq
      refine ⟨R, c2, σ1, M2, a2.2, r2, ?_⟩
      have next : ∀ σ3 M3, PostS ω R H2 c2 M2 D (if same ws M' M3 = true then forGo ws step (ds.drop (i + 1)) σ3 M3 else .bad) → ∀ σ' H' c', Aft ω.mg R H2 c2 M2 M3 H' c' → RpS ω.mg H' (Lv R c' M3) c' σ3 σ' → Iv (i + 1) σ' H' := fun σ3 M3 hq σ' H' c' a3 r3 => by
        split at hq
        · rename_i k
          exact ⟨c', σ3, M3, a3.2, ((st.trans af.1).trans a2.1).trans a3.1, same_trans sm k, r3, hq.shift a3⟩
        · exact hq.elim
      revert hq2
      cases evSs C b σ1 M2 with
      | nx σ3 M3 => exact fun hq => next σ3 M3 hq
      | ct σ3 M3 => exact fun hq => next σ3 M3 hq
      | br σ3 M3 => exact id
      | rt d M3 => exact id
      | ex e σ3 M3 => exact id
      | bad => exact id
  · obtain rfl : i = ds.length := by omega
    rw [List.drop_length, forGo] at hq
    exact .inl ⟨w.stop R Hh c' M' m' st.gr sm, hq σ' Hh c' (Aft.refl m') rs'⟩
theorem s_whl {q : MB} {b : MSs} (h : tS ω (evS C (.whl q b)) D σ H) : tWhile (tB ω (evB C q)) (tS ω (evSs C b)) D σ H := by
  obtain ⟨R, c, σd, M, m, rs, h⟩ := h
  rw [evS] at h
  refine ⟨fun n σ' Hh => ∃ R c' σe M', CM ω.mg R Hh c' M' ∧ RpS ω.mg Hh (Lv R c' M') c' σe σ' ∧ PostS ω R Hh c' M' D (whlGo (evB C q) (evSs C b) n σe M'), ⟨C.fuel, R, c, σd, M, m, rs, h⟩, ?_⟩
  rintro n σ' Hh ⟨R, c', σe, M', m', rs', hq⟩
  cases n with
  | zero => rw [whlGo] at hq; exact hq.elim
  | succ n =>
    have hq : PostS ω R Hh c' M' D (SR.of σe (evB C q σe M') fun k M1 => if k = true then (match evSs C b σe M1 with
        | .nx σ1 M2 => whlGo (evB C q) (evSs C b) n σ1 M2
        | .ct σ1 M2 => whlGo (evB C q) (evSs C b) n σ1 M2
        | .br σ1 M2 => .nx σ1 M2
        | r => r) else .nx σe M1) := by
      rw [whlGo] at hq
      revert hq
      cases evB C q σe M' with
      | ok k M1 => cases k <;> exact id
      | _ => exact id
    refine ⟨R, c', σe, M', m', rs', hq.of rs' fun x M1 v H1 c1 _ a1 r1 rs1 q => ?_⟩
    obtain rfl : x = v := r1
    cases x with
    | false => rw [if_neg (by decide)] at q ⊢; exact q σ' H1 c1 (Aft.refl a1.2) rs1
    | true =>
      rw [if_pos rfl] at q ⊢
      refine ⟨fun σ2 H2 => ∃ R c' σe M', CM ω.mg R H2 c' M' ∧ RpS ω.mg H2 (Lv R c' M') c' σe σ2 ∧ PostS ω R H2 c' M' D (whlGo (evB C _) (evSs C b) n σe M'), fun σ2 H2 p => ⟨n, Nat.lt_succ_self _, p⟩, R, c1, σe, M1, a1.2, rs1, ?_⟩
      revert q
      cases evSs C b σe M1 with
      | nx σ3 M3 => exact fun hq σ2 H2 c2 a2 r2 => ⟨R, c2, σ3, M3, a2.2, r2, hq.shift a2⟩
      | ct σ3 M3 => exact fun hq σ2 H2 c2 a2 r2 => ⟨R, c2, σ3, M3, a2.2, r2, hq.shift a2⟩
      | br σ3 M3 => exact id
      | rt d M3 => exact id
      | ex e σ3 M3 => exact id
      | bad => exact id
theorem s_snil (h : tS ω (evSs C .nil) D σ H) : tNext D σ H := by
  obtain ⟨R, c, σd, M, m, rs, h⟩ := h
  exact h σ H c (Aft.refl m) rs
theorem s_scons {s : MS} {r : MSs} (h : tS ω (evSs C (.cons s r)) D σ H) : tSeq (tS ω (evS C s)) (tS ω (evSs C r)) D σ H := by
  obtain ⟨R, c, σd, M, m, rs, h⟩ := h
  rw [evSs] at h
  refine ⟨R, c, σd, M, m, rs, ?_⟩
  revert h
  cases evS C s σd M with
  | nx σ3 M3 => exact fun hq σ2 H2 c2 a2 r2 => ⟨R, c2, σ3, M3, a2.2, r2, hq.shift a2⟩
  | ct σ3 M3 => exact id
  | br σ3 M3 => exact id
  | rt d M3 => exact id
  | ex e σ3 M3 => exact id
  | bad => exact id
end
end Mp

/-! The mini text against the program's text: statements. -/
namespace Mp
open PySem PySem.Spec PyProof.Rows L2

/-- is a comprehension's value stored ahead of its variables -/
def swT (sc : Scope) (y : Str) (py : Pos) (scope : Scope) (pos : Pos) : Bool := (sc.names.lookup y == some .local) && py.line == pos.line && !(scope.names.any fun (n, k) => n == y && (k == .local || k == .cell))
def noSw (sc : Scope) (tg e : Expr) : Bool := match e with
  | .ListComp _ _ scope p => (match tg with | .Name y py => !swT sc y py scope p | _ => true)
  | .SetComp _ _ _ _ => false
  | .DictComp _ _ _ scope p => (match tg with | .Name y py => !swT sc y py scope p | _ => true)
  | _ => true
def notComp : Expr → Bool
  | .ListComp _ _ _ _ => false
  | .SetComp _ _ _ _ => false
  | .DictComp _ _ _ _ _ => false
  | _ => true
def locals (sc : Scope) (line : Nat) (ts : List Expr) : List Str := ts.filterMap fun
    | .Name id pos => if sc.names.lookup id == some .local && pos.line == line then some id else none
    | _ => none
def noPar (sc : Scope) (tg e : Expr) : Bool := match tg, e with
  | .Tuple ts _ _, .Tuple vs _ _ => !(ts.length == 2 || ts.length == 3) || vs.length != ts.length || vs.any (fun | .Starred .. => true | _ => false) || (locals sc ((ts.head?.map (·.pos.line)).getD 0) ts).length != ts.length || vs.all (foldedForSure 8)
  | .List _ _, .Tuple _ _ _ => false
  | _, _ => true
def fnK (sc : Scope) : Bool := match sc.kind with
  | .function => true
  | _ => false
theorem fnK_of {sc : Scope} (h : fnK sc = true) : sc.kind = .function := by
  unfold fnK at h
  split at h
  · assumption
  · cases h
theorem sw_list {env : Env} {elt : Expr} {gs : List Comprehension} {scope : Scope} {pos py : Pos} {y : Str} {l : Nat} (hk : env.scope.kind = .function) : swapsWith (.ListComp elt gs scope pos) (some (.Name y py)) l env = pure (swT env.scope y py scope pos) := by
  have hb : env.blockKind = .function := by unfold Env.blockKind; rw [hk]; rfl
  unfold swapsWith swT
  simp only [hb, Expr.pos, Env.kindOf]
  rfl
theorem sw_dict {env : Env} {k v : Expr} {gs : List Comprehension} {scope : Scope} {pos py : Pos} {y : Str} {l : Nat} (hk : env.scope.kind = .function) : swapsWith (.DictComp k v gs scope pos) (some (.Name y py)) l env = pure (swT env.scope y py scope pos) := by
  have hb : env.blockKind = .function := by unfold Env.blockKind; rw [hk]; rfl
  unfold swapsWith swT
  simp only [hb, Expr.pos, Env.kindOf]
  rfl
theorem noSw_of {env : Env} {tg e : Expr} {l : Nat} (hk : env.scope.kind = .function) (h : noSw env.scope tg e = true) : swapsWithSole [tg] e l env = pure false := by
  show swapsWith e (some tg) l env = pure false
  unfold noSw at h
  split at h
  · split at h
    · rw [sw_list hk]
      simp only [Bool.not_eq_true'] at h
      rw [h]
    · rename_i hn
      unfold swapsWith
      cases tg <;> first | rfl | exact (hn _ _ rfl).elim
  · cases h
  · split at h
    · rw [sw_dict hk]
      simp only [Bool.not_eq_true'] at h
      rw [h]
    · rename_i hn
      unfold swapsWith
      cases tg <;> first | rfl | exact (hn _ _ rfl).elim
  · rename_i h1 h2 h3
    cases e <;> first | rfl | exact (h1 _ _ _ _ rfl).elim | exact (h2 _ _ _ _ rfl).elim | exact (h3 _ _ _ _ _ rfl).elim
theorem notComp_of {env : Env} {e : Expr} {l : Nat} (h : notComp e = true) : swapsWith e none l env = pure false := by
  cases e <;> first | rfl | simp [notComp] at h
theorem noPar_of {env : Env} {tg e : Expr} (hk : env.scope.kind = .function) (h : noPar env.scope tg e = true) : swappedStores [tg] e env = pure none := by
  have hb : env.blockKind = .function := by unfold Env.blockKind; rw [hk]; rfl
  unfold noPar at h
  split at h
  · rename_i ts x1 p1 vs x2 p2
    unfold swappedStores
    dsimp only
    simp only [hb]
    split
    · rfl
    · rename_i n1
      split
      · rfl
      · rename_i n2
        split
        · rfl
        · rename_i n3
          split
          · rfl
          · rename_i n4
            exfalso
            have n3 : ¬ ((locals env.scope ((ts.head?.map (·.pos.line)).getD 0) ts).length != ts.length || _) = true := n3
            simp only [Bool.or_eq_true, not_or] at n1 n3 h
            rcases h with (((h | h) | h) | h) | h
            · exact n1.1.1 h
            · exact n1.1.2 h
            · exact n2 h
            · exact n3.1 h
            · exact n4 h
  · cases h
  · rename_i h1 h2
    unfold swappedStores
    cases tg <;> cases e <;> first | rfl | exact (h1 _ _ _ _ _ _ rfl rfl).elim | exact (h2 _ _ _ _ _ rfl rfl).elim
theorem pair_locals {sc : Scope} {x y : Str} {px py : Pos} (hx : sc.names.lookup x = some .local) (hy : sc.names.lookup y = some .local) (hl : (py.line == px.line) = true) : locals sc px.line [.Name x px, .Name y py] = [x, y] := by
  have hl' : py.line = px.line := by simpa using hl
  simp [locals, List.filterMap_cons, hx, hy, hl']
theorem trip_locals {sc : Scope} {x y z : Str} {px py pz : Pos} (hx : sc.names.lookup x = some .local) (hy : sc.names.lookup y = some .local) (hz : sc.names.lookup z = some .local) (hl : (py.line == px.line) = true) (hl2 : (pz.line == px.line) = true) : locals sc px.line [.Name x px, .Name y py, .Name z pz] = [x, y, z] := by
  have hl' : py.line = px.line := by simpa using hl
  have hl2' : pz.line = px.line := by simpa using hl2
  simp [locals, List.filterMap_cons, hx, hy, hz, hl', hl2']
theorem star_false {a : Expr} (h : plainE a = true) : (match a with | .Starred .. => true | _ => false) = false := by
  cases a <;> first | rfl | simp [plainE] at h
theorem par_of {env : Env} {ts vs : List Expr} {ns : List Str} {pt pt2 : Pos} {kt k2 : Nat} {line : Nat} (hk : env.scope.kind = .function) (h1 : (ts.length == 2 || ts.length == 3) = true) (h2 : vs.length = ts.length) (hl : (ts.head?.map (·.pos.line)).getD 0 = line) (hn : locals env.scope line ts = ns) (h3 : ns.length = ts.length) (hd : ns.eraseDups = ns)
    (hs : vs.all plainE = true) (hf : vs.all (foldedForSure 8) = false) (hc : vs.all (constantsAlone 8) = false) : swappedStores [.Tuple ts kt pt] (.Tuple vs k2 pt2) env = pure (some ns) := by
  have hb : env.blockKind = .function := by unfold Env.blockKind; rw [hk]; rfl
  unfold swappedStores
  dsimp only
  simp only [hb, hl]
  generalize hg : List.filterMap _ ts = nm
  have hn' : nm = ns := by rw [← hg]; exact hn
  subst hn'
  generalize hv : vs.any _ = sv
  have hst : sv = false := by
    rw [← hv, List.any_eq_false]
    rw [List.all_eq_true] at hs
    intro a ha
    have p := hs a ha
    cases a <;> first | (simp [plainE] at p; done) | decide | exact Bool.false_ne_true
  subst hst
  rw [if_neg (by simp [h1, h2]), if_neg (by decide), if_neg (by simp [h3, hd]), if_neg (by rw [hf]; decide), if_neg (by rw [hc]; decide)]
end Mp

/-! Soundness of the checked statements. -/
namespace Mp
open PySem PySem.Spec PyProof.Rows L2

def isLc : ME → Bool
  | .lc _ _ _ _ _ => true
  | .lc2 _ _ _ _ _ _ _ _ _ => true
  | _ => false
def isDc : ME → Bool
  | .dc _ _ _ _ _ _ _ => true
  | _ => false
/-- name = a comprehension, its value stored ahead of its variables -/
def cSwap (G : Gx) (t : MT) (e : ME) (c : Ec) (tg ex : Expr) : Bool := match t, tg, ex with
  | .nm i, .Name y py, .ListComp _ _ scope p => decide (G.N[i]? = some y) && (c.1.names.lookup y == some .local) && swT c.1 y py scope p && (match e with
    | .new a => isLc a && cF G a c ex
    | a => isLc a && cE G a c ex)
  | .nm i, .Name y py, .DictComp _ _ _ scope p => decide (G.N[i]? = some y) && (c.1.names.lookup y == some .local) && swT c.1 y py scope p && (match e with
    | .new a => isDc a && cF G a c ex
    | a => isDc a && cE G a c ex)
  | _, _, _ => false
/-- names = values, stored from the right -/
def cPar (G : Gx) (t : MT) (e : ME) (c : Ec) (tg ex : Expr) : Bool := match t, e, tg, ex with
  | .tp (.cons (.nm i) (.cons (.nm j) .nil)), .tup (.cons a (.cons b .nil)), .Tuple [.Name x px, .Name y py] _ _, .Tuple [ea, eb] _ _ =>
    decide (G.N[i]? = some x) && decide (G.N[j]? = some y) && decide (i ≠ j) && (c.1.names.lookup x == some .local) && (c.1.names.lookup y == some .local) && py.line == px.line && decide ([x, y].eraseDups = [x, y]) && !([ea, eb].all (foldedForSure 8)) && !([ea, eb].all (constantsAlone 8)) && [ea, eb].all plainE && cEs G (.cons a (.cons b .nil)) c [ea, eb]
  | .tp (.cons (.nm i) (.cons (.nm j) (.cons (.nm l) .nil))), .tup (.cons a (.cons b (.cons d .nil))), .Tuple [.Name x px, .Name y py, .Name z pz] _ _, .Tuple [ea, eb, ed] _ _ =>
    decide (G.N[i]? = some x) && decide (G.N[j]? = some y) && decide (G.N[l]? = some z) && decide (i ≠ j) && decide (i ≠ l) && decide (j ≠ l) && (c.1.names.lookup x == some .local) && (c.1.names.lookup y == some .local) && (c.1.names.lookup z == some .local) && py.line == px.line && pz.line == px.line && decide ([x, y, z].eraseDups = [x, y, z]) && !([ea, eb, ed].all (foldedForSure 8)) && !([ea, eb, ed].all (constantsAlone 8)) && [ea, eb, ed].all plainE && cEs G (.cons a (.cons b (.cons d .nil))) c [ea, eb, ed]
  | _, _, _, _ => false
def cAsg (G : Gx) (t : MT) (e : ME) (c : Ec) (tg ex : Expr) : Bool := (noSw c.1 tg ex && noPar c.1 tg ex && plainE tg && cT G t c tg && cE G e c ex) || cSwap G t e c tg ex || cPar G t e c tg ex
mutual
def cS (G : Gx) : MS → Ec → Stmt → Bool
  | .asg t e, c, s => match s with
    | .Assign [tg] ex _ => fnK c.1 && cAsg G t e c tg ex
    | _ => false
  | .exp e, c, s => match s with
    | .Expr ex _ => notComp ex && cE G e c ex
    | _ => false
  | .ret e, c, s => match s with
    | .Return (some ex) _ => cE G e c ex
    | .Return none _ => (match e with | .con .non => true | _ => false)
    | _ => false
  | .ite q a b, c, s => match s with
    | .If ec sa sb _ => cB G q c ec && cSs G a c sa && cSs G b c sb
    | _ => false
  | .for_ t it b, c, s => match s with
    | .For tg ei body [] _ => setB ei && cI G it c tg ei && cT G t c tg && cSs G b c body
    | _ => false
  | .whl q b, c, s => match s with
    | .While ec body [] _ => cB G q c ec && cSs G b c body
    | _ => false
  | .rse _ _, _, _ => false
  | .brk, _, s => match s with
    | .Break _ => true
    | _ => false
  | .cnt, _, s => match s with
    | .Continue _ => true
    | _ => false
  | .pss, _, s => match s with
    | .Pass _ => true
    | _ => false
  | .nev, _, _ => true
def cSs (G : Gx) : MSs → Ec → List Stmt → Bool
  | .nil, _, ss => match ss with
    | [] => true
    | _ => false
  | .cons s r, c, ss => match ss with
    | x :: xs => cS G s c x && cSs G r c xs
    | _ => false
end
section
variable {G : Gx} {C : Cl} {ω : Wk} {X : Cx} {c : Ec}
theorem lc_set {i : Nat} {y : Str} {py spos : Pos} {own : List Nat} {a : ME} {t : MT} {it : MI} {q : MC} {ee : Expr} {gs : List Comprehension} {scope : Scope} {pos : Pos} (h : cE G (.lc own a t it q) c (.ListComp ee gs scope pos) = true) (o : Okx G C ω X c) (hi : G.N[i]? = some y) (hl : c.1.names.lookup y = some .local) (hk : fnK c.1 = true) (hs : swT c.1 y py scope pos = true) :
    PS X (.Assign [.Name y py] (.ListComp ee gs scope pos) spos) (tAsg (tF ω (evE C (.lc own a t it q))) (gName i)) := by
  unfold cE at h
  split at h
  · rename_i hq
    cases hq
    simp only [Bool.and_eq_true, decide_eq_true_eq] at h
    obtain ⟨⟨⟨⟨⟨⟨⟨rfl, h1⟩, h2⟩, h3⟩, h4⟩, h5⟩, h6⟩, h7⟩ := h
    have nd := o.nd
    rw [← o.N] at nd h3 hi
    rw [← o.sc] at h3 hl hk hs
    have p := ps_setLc (own := ownN X.N own) (g := gOf ω.no C X.K t) (spos := spos) (py := py) (pos := pos) o.calm nd hi hl (by rw [sw_list (fnK_of hk), hs]) (cI_ok it c _ _ ω X h4 o) (blkOk_by h3) (fun s H Ca cl fp => cT_ok t _ _ ω.no _ h5 (o.blk s H _ Ca cl fp)) (fun s H Ca cl fp => cC_ok q _ _ ω.no _ h6 (o.blk s H _ Ca cl fp)) (fun s H Ca cl fp => cE_ok a _ _ ω.no _ h7 (o.blk s H _ Ca cl fp)) (set_of h1)
    rw [ownN_snd] at p
    exact p.imp fun _ _ _ q => s_lc h2 q
  · cases h
theorem lc2_set {i : Nat} {y : Str} {py spos : Pos} {own own1 : List Nat} {a : ME} {t t1 : MT} {it it1 : MI} {q q1 : MC} {ee : Expr} {gs : List Comprehension} {scope : Scope} {pos : Pos} (h : cE G (.lc2 own own1 a t it q t1 it1 q1) c (.ListComp ee gs scope pos) = true) (o : Okx G C ω X c) (hi : G.N[i]? = some y) (hl : c.1.names.lookup y = some .local) (hk : fnK c.1 = true) (hs : swT c.1 y py scope pos = true) :
    PS X (.Assign [.Name y py] (.ListComp ee gs scope pos) spos) (tAsg (tF ω (evE C (.lc2 own own1 a t it q t1 it1 q1))) (gName i)) := by
  unfold cE at h
  split at h
  · rename_i hq
    cases hq
    simp only [Bool.and_eq_true, decide_eq_true_eq, List.all_eq_true] at h
    obtain ⟨⟨⟨⟨⟨⟨⟨⟨⟨⟨⟨⟨⟨⟨rfl, rfl⟩, h1⟩, h1'⟩, h2⟩, h2'⟩, hv⟩, h3⟩, h4⟩, h5⟩, h6⟩, h4'⟩, h5'⟩, h6'⟩, h7⟩ := h
    have nd := o.nd
    rw [← o.N] at nd h3 hi
    rw [← o.sc] at h3 hl hk hs
    have p := ps_setLc2 (own := ownN X.N own) (vs1 := own1) (g := gOf ω.no C X.K t) (g1 := gOf ω.no C X.K t1) (spos := spos) (py := py) (pos := pos) o.calm nd hi hl (by rw [sw_list (fnK_of hk), hs]) (cI_ok it c _ _ ω X h4 o) (blkOk_by h3) (by rw [ownN_snd]; exact hv) (fun s H Ca cl fp => cT_ok t _ _ ω.no _ h5 (o.blk s H _ Ca cl fp)) (fun s H Ca cl fp => cC_ok q _ _ ω.no _ h6 (o.blk s H _ Ca cl fp))
        (fun s H Ca cl fp => cI_ok it1 _ _ _ ω.no _ h4' (o.blk s H _ Ca cl fp)) (fun s H Ca cl fp => cT_ok t1 _ _ ω.no _ h5' (o.blk s H _ Ca cl fp)) (fun s H Ca cl fp => cC_ok q1 _ _ ω.no _ h6' (o.blk s H _ Ca cl fp)) (fun s H Ca cl fp => cE_ok a _ _ ω.no _ h7 (o.blk s H _ Ca cl fp)) (set_of h1) (fun env x => set_of h1' x)
    rw [ownN_snd] at p
    exact p.imp fun _ _ _ q => s_lc2 h2 h2' q
  · cases h
theorem dc_set {i : Nat} {y : Str} {py spos : Pos} {b : Bool} {own : List Nat} {k v : ME} {t : MT} {it : MI} {q : MC} {ek ev : Expr} {gs : List Comprehension} {scope : Scope} {pos : Pos} (h : cE G (.dc b own k v t it q) c (.DictComp ek ev gs scope pos) = true) (o : Okx G C ω X c) (hi : G.N[i]? = some y) (hl : c.1.names.lookup y = some .local) (hk : fnK c.1 = true) (hs : swT c.1 y py scope pos = true) :
    PS X (.Assign [.Name y py] (.DictComp ek ev gs scope pos) spos) (tAsg (tF ω (evE C (.dc b own k v t it q))) (gName i)) := by
  unfold cE at h
  split at h
  · rename_i hq
    cases hq
    simp only [Bool.and_eq_true, decide_eq_true_eq] at h
    obtain ⟨⟨⟨⟨⟨⟨⟨⟨rfl, h1⟩, h2⟩, h3⟩, h4⟩, h5⟩, h6⟩, h7⟩, h8⟩ := h
    have nd := o.nd
    rw [← o.N] at nd h3 hi
    rw [← o.sc] at h3 hl hk hs
    have p := ps_setDict (K := X.K) (b := b) (own := ownN X.N own) (k := k) (v := v) (t := t) (spos := spos) (py := py) (pos := pos) o.calm nd hi hl (by rw [sw_dict (fnK_of hk), hs]) (by have := o.un; omega) (by rw [ownN_snd]; exact h2) (cI_ok it c _ _ ω X h4 o) (blkOk_by h3) (set_of h1)
        (fun s H Ca cl fp => ⟨cT_ok t _ _ ω.no _ h5 (o.blk s H _ Ca cl fp), cC_ok q _ _ ω.no _ h6 (o.blk s H _ Ca cl fp), cE_ok k _ _ ω.no _ h7 (o.blk s H _ Ca cl fp), cE_ok v _ _ ω.no _ h8 (o.blk s H _ Ca cl fp)⟩)
    rw [ownN_snd] at p
    exact p
  · cases h
theorem cF_lc {own : List Nat} {a : ME} {t : MT} {it : MI} {q : MC} {e : Expr} (h : cF G (.lc own a t it q) c e = true) : cE G (.lc own a t it q) c e = true := by
  unfold cF at h
  unfold cE
  exact h
theorem cF_dc {b : Bool} {own : List Nat} {k v : ME} {t : MT} {it : MI} {q : MC} {e : Expr} (h : cF G (.dc b own k v t it q) c e = true) : cE G (.dc b own k v t it q) c e = true := by
  unfold cF at h
  unfold cE
  exact h
theorem cF_lc2 {own own1 : List Nat} {a : ME} {t t1 : MT} {it it1 : MI} {q q1 : MC} {e : Expr} (h : cF G (.lc2 own own1 a t it q t1 it1 q1) c e = true) : False := by
  unfold cF at h
  cases h
theorem cAsg_ok {t : MT} {e : ME} {tg ex : Expr} {pos : Pos} (hk : fnK c.1 = true) (h : cAsg G t e c tg ex = true) (o : Okx G C ω X c) : PS X (.Assign [tg] ex pos) (tS ω (evS C (.asg t e))) := by
  have hk' : X.env.scope.kind = .function := by rw [o.sc]; exact fnK_of hk
  unfold cAsg at h
  simp only [Bool.or_eq_true] at h
  rcases h with (h | h) | h
  · simp only [Bool.and_eq_true] at h
    obtain ⟨⟨⟨⟨h1, h2⟩, h3⟩, h4⟩, h5⟩ := h
    rw [← o.sc] at h1 h2
    exact (ps_asg (cE_ok e c _ ω X h5 o) (cT_ok t c _ ω X h4 o) (noSw_of hk' h1) (noPar_of hk' h2) (by cases tg <;> first | rfl | simp [plainE] at h3)).imp fun _ _ _ => s_asg
  · unfold cSwap at h
    split at h
    · simp only [Bool.and_eq_true, decide_eq_true_eq, beq_iff_eq] at h
      obtain ⟨⟨⟨h1, h2⟩, h3⟩, h4⟩ := h
      split at h4
      · rename_i a
        simp only [Bool.and_eq_true] at h4
        obtain ⟨k1, k2⟩ := h4
        cases a <;> simp only [isLc, Bool.false_eq_true] at k1
        · exact (lc_set (cF_lc k2) o h1 h2 hk h3).imp fun _ _ _ => s_asgN
        · exact (cF_lc2 k2).elim
      · rename_i a _
        simp only [Bool.and_eq_true] at h4
        obtain ⟨k1, k2⟩ := h4
        cases e <;> simp only [isLc, Bool.false_eq_true] at k1
        · exact (lc_set k2 o h1 h2 hk h3).imp fun _ _ _ => s_asgF (fun _ _ _ _ => lc_nw)
        · exact (lc2_set k2 o h1 h2 hk h3).imp fun _ _ _ => s_asgF (fun _ _ _ _ => lc2_nw)
    · simp only [Bool.and_eq_true, decide_eq_true_eq, beq_iff_eq] at h
      obtain ⟨⟨⟨h1, h2⟩, h3⟩, h4⟩ := h
      split at h4
      · rename_i a
        simp only [Bool.and_eq_true] at h4
        obtain ⟨k1, k2⟩ := h4
        cases a <;> simp only [isDc, Bool.false_eq_true] at k1
        exact (dc_set (cF_dc k2) o h1 h2 hk h3).imp fun _ _ _ => s_asgN
      · rename_i a _
        simp only [Bool.and_eq_true] at h4
        obtain ⟨k1, k2⟩ := h4
        cases e <;> simp only [isDc, Bool.false_eq_true] at k1
        exact (dc_set k2 o h1 h2 hk h3).imp fun _ _ _ => s_asgF (fun _ _ _ _ => dc_nw)
    · cases h
  · unfold cPar at h
    have nd := o.nd
    split at h
    · simp only [Bool.and_eq_true, decide_eq_true_eq, beq_iff_eq, Bool.not_eq_true'] at h
      obtain ⟨⟨⟨⟨⟨⟨⟨⟨⟨⟨h1, h2⟩, h3⟩, h4⟩, h5⟩, h6⟩, h7⟩, h8⟩, h9⟩, h10⟩, h11⟩ := h
      rw [← o.N] at nd h1 h2
      have e4 := h4
      have e5 := h5
      rw [← o.sc] at h4 h5
      exact (ps_par o.calm nd h1 h2 h3 h4 h5 (cEs_ok _ c _ ω X h11 o) (par_of hk' rfl rfl rfl (pair_locals h4 h5 (beq_iff_eq.mpr h6)) rfl h7 h10 h8 h9)).imp fun _ _ _ => s_par
    · simp only [Bool.and_eq_true, decide_eq_true_eq, beq_iff_eq, Bool.not_eq_true'] at h
      obtain ⟨⟨⟨⟨⟨⟨⟨⟨⟨⟨⟨⟨⟨⟨⟨h1, h2⟩, h3⟩, h4⟩, h5⟩, h6⟩, h7⟩, h8⟩, h9⟩, h10⟩, h11⟩, h12⟩, h13⟩, h14⟩, h15⟩, h16⟩ := h
      rw [← o.N] at nd h1 h2 h3
      rw [← o.sc] at h7 h8 h9
      exact (ps_par3 o.calm nd h1 h2 h3 h4 h5 h6 h7 h8 h9 (cEs_ok _ c _ ω X h16 o) (par_of hk' rfl rfl rfl (trip_locals h7 h8 h9 (beq_iff_eq.mpr h10) (beq_iff_eq.mpr h11)) rfl h12 h15 h13 h14)).imp fun _ _ _ => s_par3
    · cases h
mutual
theorem cS_ok : ∀ (m : MS) (c : Ec) (s : Stmt) (ω : Wk) (X : Cx), cS G m c s = true → Okx G C ω X c → PassesOwn (model X.prog X.w) X.A X.env X.xe → PS X s (tS ω (evS C m))
  | .asg t e, c, s, ω, X, h, o, hp => by
    unfold cS at h
    split at h
    · simp only [Bool.and_eq_true] at h
      exact cAsg_ok h.1 h.2 o
    · cases h
  | .exp e, c, s, ω, X, h, o, hp => by
    unfold cS at h
    split at h
    · simp only [Bool.and_eq_true] at h
      exact (ps_expr (cE_ok e c _ ω X h.2 o) (notComp_of h.1)).imp fun _ _ _ => s_exp
    · cases h
  | .ret e, c, s, ω, X, h, o, hp => by
    unfold cS at h
    split at h
    · exact (ps_ret (cE_ok e c _ ω X h o)).imp fun _ _ _ => s_ret
    · split at h
      · exact ps_retN.imp fun _ _ _ => s_retN
      · cases h
    · cases h
  | .ite q a b, c, s, ω, X, h, o, hp => by
    unfold cS at h
    split at h
    · simp only [Bool.and_eq_true] at h
      exact (ps_if (cB_ok q c _ ω X h.1.1 o) (cSs_ok a c _ ω X h.1.2 o hp) (cSs_ok b c _ ω X h.2 o hp)).imp fun _ _ _ => s_if
    · cases h
  | .for_ t it b, c, s, ω, X, h, o, hp => by
    unfold cS at h
    split at h
    · simp only [Bool.and_eq_true] at h
      obtain ⟨⟨⟨h1, h2⟩, h3⟩, h4⟩ := h
      exact (ps_for hp o.calm (cI_ok it c _ _ ω X h2 o) (cT_ok t c _ ω X h3 o) (cSs_ok b c _ ω X h4 o hp) (set_of h1)).imp fun _ _ _ => s_for
    · cases h
  | .whl q b, c, s, ω, X, h, o, hp => by
    unfold cS at h
    split at h
    · simp only [Bool.and_eq_true] at h
      exact (ps_while hp (cB_ok q c _ ω X h.1 o) (cSs_ok b c _ ω X h.2 o hp)).imp fun _ _ _ => s_whl
    · cases h
  | .rse _ _, c, s, ω, X, h, o, hp => by unfold cS at h; cases h
  | .brk, c, s, ω, X, h, o, hp => by
    unfold cS at h
    split at h
    · exact ps_break.imp fun _ _ _ => s_brk
    · cases h
  | .cnt, c, s, ω, X, h, o, hp => by
    unfold cS at h
    split at h
    · exact ps_continue.imp fun _ _ _ => s_cnt
    · cases h
  | .pss, c, s, ω, X, h, o, hp => by
    unfold cS at h
    split at h
    · exact ps_pass.imp fun _ _ _ => s_pss
    · cases h
  | .nev, c, s, ω, X, h, o, hp => ps_never.imp fun _ _ _ => s_nev
theorem cSs_ok : ∀ (m : MSs) (c : Ec) (s : List Stmt) (ω : Wk) (X : Cx), cSs G m c s = true → Okx G C ω X c → PassesOwn (model X.prog X.w) X.A X.env X.xe → PSs X s (tS ω (evSs C m))
  | .nil, c, s, ω, X, h, o, hp => by
    unfold cSs at h
    split at h
    · exact pss_nil.imp fun _ _ _ => s_snil
    · cases h
  | .cons a r, c, s, ω, X, h, o, hp => by
    unfold cSs at h
    split at h
    · simp only [Bool.and_eq_true] at h
      exact (pss_cons (cS_ok a c _ ω X h.1 o hp) (cSs_ok r c _ ω X h.2 o hp)).imp fun _ _ _ => s_scons
    · cases h
end
end
end Mp

/-! A def's end; all defs by the level of calls. -/
namespace Mp
open PySem PySem.Spec PyProof.Rows L2

section
variable {mg : Mg} {H H' : Hp} {U U' : Addr → Prop} {c : List Addr}
mutual
theorem Rp.cut (hu : ∀ a, U' a → U a) (n : Nat) : ∀ (d : D) {v : V}, d.free n = true → Rp mg H U c d v → Rp mg H U' (c.take n) d v
  | .non, v, f, h => by simp only [Rp] at h ⊢; exact h
  | .bl _, v, f, h => by simp only [Rp] at h ⊢; exact h
  | .int _, v, f, h => by simp only [Rp] at h ⊢; exact h
  | .str _, v, f, h => by simp only [Rp] at h ⊢; exact h
  | .fn _, v, f, h => by simp only [Rp] at h ⊢; exact h
  | .exc _ _, v, f, h => by simp only [Rp] at h
  | .cell k, v, f, h => by
    simp only [Rp] at h ⊢
    obtain ⟨a, e, hc⟩ := h
    have hk : k < n := by simpa [D.free] using f
    exact ⟨a, e, by rw [List.getElem?_take_of_lt hk]; exact hc⟩
  | .tup ds, v, f, h => by
    simp only [Rp] at h ⊢
    obtain ⟨a, vs, e, h1, h2, h3⟩ := h
    exact ⟨a, vs, e, h1, fun z => h2 (hu a z), RpL.cut hu n ds (by simpa [D.free] using f) h3⟩
  | .lst ds, v, f, h => by
    simp only [Rp] at h ⊢
    obtain ⟨a, vs, e, h1, h2, h3⟩ := h
    exact ⟨a, vs, e, h1, fun z => h2 (hu a z), RpL.cut hu n ds (by simpa [D.free] using f) h3⟩
  | .scr ns, v, f, h => by
    simp only [Rp] at h ⊢
    obtain ⟨a, e, h⟩ := h
    exact ⟨a, e, h.elim (fun z => .inl ⟨z.1, fun q => z.2 (hu a q)⟩) .inr⟩
  | .dct t ks us, v, f, h => by
    simp only [Rp] at h ⊢
    simp only [D.free, Bool.and_eq_true] at f
    obtain ⟨a, e, h1, h2⟩ := h
    refine ⟨a, e, fun z => h1 (hu a z), ?_⟩
    rcases h2 with ⟨et, kvs, h3, h4, h5⟩ | ⟨et, kvs, h3, h4, h5⟩
    · exact .inl ⟨et, kvs, h3, h4, RpL.cut hu n us f.2 h5⟩
    · exact .inr ⟨et, kvs, h3, h4, RpL.cut hu n us f.2 h5⟩
theorem RpL.cut (hu : ∀ a, U' a → U a) (n : Nat) : ∀ (ds : List D) {vs : List V}, frees n ds = true → RpL mg H U c ds vs → RpL mg H U' (c.take n) ds vs
  | [], vs, f, h => RpL.nil_iff.mpr (RpL.nil_iff.mp h)
  | d :: ds, vs, f, h => by
    obtain ⟨v, r, rfl, h1, t⟩ := RpL.cons_iff.mp h
    simp only [frees, Bool.and_eq_true] at f
    exact RpL.cons (Rp.cut hu n d f.1 h1) (RpL.cut hu n ds f.2 t)
end
end
mutual
theorem D.free_mono {n m : Nat} (h : n ≤ m) : ∀ (d : D), d.free n = true → d.free m = true
  | .non, _ => rfl
  | .bl _, _ => rfl
  | .int _, _ => rfl
  | .str _, _ => rfl
  | .fn _, _ => rfl
  | .scr _, _ => rfl
  | .cell k, f => by simp [D.free] at f ⊢; omega
  | .tup ds, f => by simp only [D.free] at f ⊢; exact frees_mono h ds f
  | .lst ds, f => by simp only [D.free] at f ⊢; exact frees_mono h ds f
  | .exc _ ds, f => by simp only [D.free] at f ⊢; exact frees_mono h ds f
  | .dct _ ks us, f => by
    simp only [D.free, Bool.and_eq_true] at f ⊢
    exact ⟨frees_mono h ks f.1, frees_mono h us f.2⟩
theorem frees_mono {n m : Nat} (h : n ≤ m) : ∀ (ds : List D), frees n ds = true → frees m ds = true
  | [], _ => rfl
  | d :: ds, f => by
    simp only [frees, Bool.and_eq_true] at f ⊢
    exact ⟨D.free_mono h d f.1, frees_mono h ds f.2⟩
end
section
variable {mg : Mg} {R : Addr → Prop} {H : Hp} {c : List Addr} {M : Cs}
theorem live_take {n k : Nat} (h : live (M.take n) k) : live M k ∧ k < n := by
  obtain ⟨d, e⟩ := h
  have hk : k < n := by
    have := (List.getElem?_eq_some_iff.mp e).1
    rw [List.length_take] at this
    omega
  rw [List.getElem?_take_of_lt hk] at e
  exact ⟨⟨d, e⟩, hk⟩
theorem lv_take {n : Nat} {a : Addr} (h : Lv R (c.take n) (M.take n) a) : Lv R c M a := by
  rcases h with h | ⟨k, l, e⟩
  · exact .inl h
  · obtain ⟨l1, l2⟩ := live_take l
    rw [List.getElem?_take_of_lt l2] at e
    exact .inr ⟨k, l1, e⟩
/-- a def's cells go -/
theorem CM.take (m : CM mg R H c M) (n : Nat) : CM mg R H (c.take n) (M.take n) := by
  refine ⟨by rw [List.length_take, List.length_take, m.len], fun i j a l1 l2 e1 e2 => ?_, fun i a l e => ?_, m.there, fun i d e => ?_, fun i d e => ?_⟩
  · obtain ⟨k1, k2⟩ := live_take l1
    obtain ⟨k3, k4⟩ := live_take l2
    rw [List.getElem?_take_of_lt k2] at e1
    rw [List.getElem?_take_of_lt k4] at e2
    exact m.inj i j a k1 k3 e1 e2
  · obtain ⟨k1, k2⟩ := live_take l
    rw [List.getElem?_take_of_lt k2] at e
    exact m.nres i a k1 e
  · obtain ⟨_, k2⟩ := live_take ⟨d, e⟩
    rw [List.getElem?_take_of_lt k2] at e
    have fr := m.fre i d e
    obtain ⟨a, e1, e2⟩ := m.obj i d e
    refine ⟨a, by rw [List.getElem?_take_of_lt k2]; exact e1, ?_⟩
    have hu : ∀ b, Lv R (c.take n) (M.take n) b → Lv R c M b := fun b => lv_take
    cases d <;> simp only [CellOk] at e2 ⊢
    · obtain ⟨vs, e3, e4⟩ := e2
      exact ⟨vs, e3, RpL.cut hu n _ (frees_mono (Nat.zero_le _) _ (by simpa [D.free] using fr)) e4⟩
    · simp only [D.free, Bool.and_eq_true] at fr
      have f2 := frees_mono (Nat.zero_le n) _ fr.2
      rcases e2 with ⟨e, kvs, e1, e2, r⟩ | ⟨e, kvs, e1, e2, r⟩
      · exact .inl ⟨e, kvs, e1, e2, RpL.cut hu n _ f2 r⟩
      · exact .inr ⟨e, kvs, e1, e2, RpL.cut hu n _ f2 r⟩
  · obtain ⟨_, k2⟩ := live_take ⟨d, e⟩
    rw [List.getElem?_take_of_lt k2] at e
    exact m.fre i d e
theorem Aft.take {M' : Cs} {H' : Hp} {c' : List Addr} (m : CM mg R H c M) (a : Aft mg R H c M M' H' c') : Aft mg R H c M (M'.take M.length) H' (c'.take M.length) := by
  refine ⟨⟨fun b o e n => ?_, fun i hi => ?_, a.1.res⟩, a.2.take _⟩
  · obtain ⟨k1, k2⟩ := a.1.keep b o e n
    exact ⟨k1, fun q => k2 (lv_take q)⟩
  · rw [List.getElem?_take_of_lt (by rw [← m.len]; exact hi)]
    exact a.1.pre i hi
end
theorem ExR.cut {mg : Mg} {att : Str → Option Str} {H : Hp} {U U' : Addr → Prop} {c : List Addr} (hu : ∀ a, U' a → U a) (n : Nat) {cls : Value} {dd : Option Addr} : ∀ {e : D}, e.free n = true → ExR mg H U c att cls dd e → ExR mg H U' (c.take n) att cls dd e
  | .exc x as, f, h => by
    simp only [ExR] at h ⊢
    obtain ⟨C, h1, h2, h3⟩ := h
    refine ⟨C, h1, h2, ?_⟩
    simp only [D.free] at f
    cases hx : att x with
    | none =>
      rw [hx] at h3
      cases as with
      | nil => trivial
      | cons => exact h3.elim
    | some g =>
      rw [hx] at h3
      match as, h3, f with
      | [], h3, _ => exact h3.elim
      | [d], ⟨q, v, e1, e2, e3⟩, f => exact ⟨q, v, e1, e2, Rp.cut hu n d (by simpa [frees] using f) e3⟩
      | _ :: _ :: _, h3, _ => exact h3.elim
  | .non, _, h => h.elim
  | .bl _, _, h => h.elim
  | .int _, _, h => h.elim
  | .str _, _, h => h.elim
  | .tup _, _, h => h.elim
  | .lst _, _, h => h.elim
  | .dct _ _ _, _, h => h.elim
  | .cell _, _, h => h.elim
  | .fn _, _, h => h.elim
  | .scr _, _, h => h.elim

/-- the names' values at the entry -/
theorem start_rp {mg : Mg} {H : Hp} {U : Addr → Prop} {c : List Addr} {ds : List D} {vs : List V} {N : List Str} {n : Nat} (h : RpL mg H U c ds vs) (hn : n = N.length - ds.length) : RpS mg H U c (ds.map some ++ List.replicate n none) (L2.start N vs) := by
  subst hn
  unfold L2.start
  rw [h.len]
  refine ⟨by simp [h.len], fun i d e => ?_⟩
  rcases Nat.lt_or_ge i ds.length with hi | hi
  · rw [List.getElem?_append_left (by simpa using hi), List.getElem?_map] at e
    have hd : ds[i]? = some d := by
      cases hq : ds[i]? with
      | none => rw [hq] at e; cases e
      | some x => rw [hq] at e; simp at e; rw [e]
    obtain ⟨v, e1, e2⟩ := h.get hd
    exact ⟨v, by rw [List.getElem?_append_left (by simp [h.len]; exact hi), List.getElem?_map, e1]; rfl, e2⟩
  · rw [List.getElem?_append_right (by simpa using hi), List.getElem?_replicate] at e
    split at e <;> cases e
/-- a def's end -/
theorem fin_ok {mg : Mg} {att : Str → Option Str} {E : XK} {R : Addr → Prop} {H : Hp} {c : List Addr} {M : Cs} {Q : VK} {keep : Bool} {r : SR} {W : WX} (m : CM mg R H c M) (hW : ∀ cls dd σ H, E cls dd H → W cls dd σ H)
    (h : Post ⟨mg, att, fun cls dd _ H' => E cls dd H'⟩ (rlD ⟨mg, att, fun cls dd _ H' => E cls dd H'⟩) R H c M [] Q (finF keep M.length r)) : PostS ⟨mg, att, W⟩ R H c M { nx := fun _ H' => Q .non H', rt := Q } r := by
  have lvt : ∀ {c' : List Addr} {M' : Cs} (b : Addr), Lv R (c'.take M.length) (M'.take M.length) b → Lv R c' M' b := fun b => lv_take
  cases r with
  | nx σ M' => exact fun σ' H' c' a _ => h .non H' _ (a.take m) (by simp [rlD, Rp])
  | br σ M' => exact h.elim
  | ct σ M' => exact h.elim
  | bad => exact h.elim
  | rt d M' =>
    intro v H' c' a r
    simp only [finF] at h
    split at h
    · exact h v H' c' a r
    · split at h
      · rename_i f
        exact h v H' _ (a.take m) (Rp.cut lvt _ d f r)
      · exact h.elim
  | ex e σ M' =>
    intro cls dd σ' H' c' a _ r
    simp only [finF] at h
    split at h
    · rename_i f
      exact hW _ _ _ _ (h cls dd H' _ (a.take m) (ExR.cut lvt _ f r))
    · exact h.elim
end Mp

/-! How a call's values are bound; all defs by the level of calls. -/
namespace Mp
open PySem PySem.Spec PyProof.Rows L2

def simpleB (p : Arguments) (ps : List Str) : Bool := p.posonlyargs.isEmpty && decide (p.args.map (·.arg) = ps) && p.vararg.isNone && p.kwonlyargs.isEmpty && p.kwarg.isNone
theorem lookup_app_none {α : Type} {x : Str} : ∀ {l r : List (Str × α)}, (l.lookup x).isSome = false → (l ++ r).lookup x = r.lookup x
  | [], r, _ => rfl
  | (k, v) :: l, r, h => by
    rw [List.lookup_cons] at h
    rw [List.cons_append, List.lookup_cons]
    split
    · rename_i e; rw [e] at h; cases h
    · rename_i e; rw [e] at h; exact lookup_app_none h
theorem forIn_binds {ps : List Str} {f : Str × Value → List (Str × Value) × List (Str × Value) → Sem (ForInStep (List (Str × Value) × List (Str × Value)))}
    (hf : ∀ x s, ps.contains x.1 = true → (s.1.lookup x.1).isSome = false → f x s = pure (.yield (s.1 ++ [x], s.2))) :
    ∀ (kw sl : List (Str × Value)) (ex : List (Str × Value)), (∀ x ∈ kw, ps.contains x.1 = true ∧ (sl.lookup x.1).isSome = false) → (kw.map (·.1)).Nodup → forIn kw (sl, ex) f = pure (sl ++ kw, ex)
  | [], sl, ex, _, _ => by rw [List.forIn_nil, List.append_nil]
  | x :: kw, sl, ex, h, nd => by
    rw [List.forIn_cons, hf x (sl, ex) (h x List.mem_cons_self).1 (h x List.mem_cons_self).2, pure_bind]
    dsimp only
    simp only [List.map_cons, List.nodup_cons] at nd
    rw [forIn_binds hf kw (sl ++ [x]) ex (fun y hy => ⟨(h y (List.mem_cons_of_mem _ hy)).1, ?_⟩) nd.2, List.append_assoc]
    · rfl
    · rw [lookup_app_none (h y (List.mem_cons_of_mem _ hy)).2, List.lookup_cons]
      have ne : y.1 ≠ x.1 := fun e => nd.1 (e ▸ List.mem_map_of_mem hy)
      have : (y.1 == x.1) = false := beq_false_of_ne ne
      rw [this]; rfl
theorem bind_go {name qual : Str} {params : Arguments} {body : List Stmt} {scope : Scope} {kV doc pm cdv ct : Value} {an : Option Addr} {ps : List Str} (h : simpleB params ps = true) (us : List Value) (kw : List (Str × Value)) (hl : us.length ≤ ps.length)
    (hk : ∀ x ∈ kw, ps.contains x.1 = true ∧ ((ps.zip us).lookup x.1).isSome = false) (nd : (kw.map (·.1)).Nodup) (al : ∀ x ∈ ps, ((ps.zip us ++ kw).lookup x).isSome = true) :
    bindArgs (PySem.W.fnOf name qual params body scope .none kV doc pm an cdv ct) ⟨us, kw⟩ = pure (ps.filterMap fun n => ((ps.zip us ++ kw).lookup n).map (n, ·)) := by
  obtain ⟨po, ar, va, ko, kd, ka, df⟩ := params
  simp only [simpleB, Bool.and_eq_true, List.isEmpty_iff, decide_eq_true_eq, Option.isNone_iff_eq_none] at h
  obtain ⟨⟨⟨⟨rfl, h1⟩, rfl⟩, rfl⟩, rfl⟩ := h
  unfold bindArgs
  simp only [PySem.W.fnOf, h1, List.map_nil, List.nil_append, List.append_nil]
  rw [forIn_binds (ps := ps) (fun x s a b => by
    have a' : (ps.contains x.1 || ([] : List Str).contains x.1) = true := by rw [a]; rfl
    simp only [a', b, if_true, Bool.false_eq_true, if_false]) kw (ps.zip us) [] hk nd]
  rw [pure_bind]
  dsimp only
  rw [show (seqItems? Value.none) = pure none from rfl, pure_bind]
  have lt : (decide (us.length > ps.length) && (none : Option Arg).isNone) = false := by
    rw [decide_eq_false (by omega)]; rfl
  rw [lt, if_neg (by decide)]
  have hz : ((none : Option (Array Value)).getD #[]).toList = [] := rfl
  have em : (List.filter (fun n => (List.lookup n (ps.zip us ++ kw)).isNone) ps) = [] := by
    rw [List.filter_eq_nil_iff]
    intro x hx
    have := al x hx
    cases e : List.lookup x (ps.zip us ++ kw) <;> simp [e] at this ⊢
  simp only [hz, List.drop_nil, List.length_nil, Nat.sub_zero, List.take_length, em, List.isEmpty_nil, Bool.not_true, Bool.false_eq_true, if_false, List.drop_length, List.zip_nil_right, List.forIn_nil, pure_bind]

theorem lookup_zip {α : Type} : ∀ {ps : List Str} {us : List α} {j : Nat} {x : Str} {v : α}, ps.Nodup → ps[j]? = some x → us[j]? = some v → (ps.zip us).lookup x = some v
  | [], _, _, _, _, _, h, _ => by simp at h
  | _ :: _, [], _, _, _, _, _, h => by simp at h
  | p :: ps, u :: us, 0, x, v, nd, h1, h2 => by
    simp at h1 h2
    subst h1 h2
    rw [List.zip_cons_cons, List.lookup_cons]
    simp
  | p :: ps, u :: us, j + 1, x, v, nd, h1, h2 => by
    have h1' : ps[j]? = some x := by simpa using h1
    have h2' : us[j]? = some v := by simpa using h2
    simp only [List.nodup_cons] at nd
    have ne : x ≠ p := fun e => nd.1 (e ▸ List.mem_of_getElem? h1')
    rw [List.zip_cons_cons, List.lookup_cons, beq_false_of_ne ne]
    exact lookup_zip nd.2 h1' h2'
theorem lookup_zip_none {α : Type} : ∀ {ps : List Str} {us : List α} {x : Str}, x ∉ ps.take us.length → (ps.zip us).lookup x = none
  | [], _, _, _ => by simp
  | _ :: _, [], _, _ => by simp
  | p :: ps, u :: us, x, h => by
    simp only [List.length_cons, List.take_succ_cons, List.mem_cons, not_or] at h
    rw [List.zip_cons_cons, List.lookup_cons, beq_false_of_ne h.1]
    exact lookup_zip_none h.2
theorem filterMap_zip {α : Type} {L : Str → Option α} : ∀ {ps : List Str} {r : List α}, r.length = ps.length → (∀ (j : Nat) (x : Str) (v : α), ps[j]? = some x → r[j]? = some v → L x = some v) → ps.filterMap (fun n => (L n).map (n, ·)) = ps.zip r
  | [], _, _, _ => rfl
  | p :: ps, [], h, _ => by simp at h
  | p :: ps, v :: r, h, k => by
    rw [List.filterMap_cons, k 0 p v rfl rfl]
    simp only [Option.map_some, List.zip_cons_cons]
    rw [filterMap_zip (by simpa using h) fun j x w h1 h2 => k (j + 1) x w (by simpa using h1) (by simpa using h2)]
theorem binds_of {name qual : Str} {params : Arguments} {body : List Stmt} {scope : Scope} {kV doc pm cdv ct : Value} {an : Option Addr} {ps ks : List Str} {n : Nat} {perm : List Nat} (h : simpleB params ps = true) (nd : ps.Nodup) (hs : kwShape ps n ks perm = true) :
    ∀ (s : Shared) (us ws : List Value), us.length = n → ws.length = ks.length → BindsTo s (PySem.W.fnOf name qual params body scope .none kV doc pm an cdv ct) ⟨us, ks.zip ws⟩ (ps.zip (permL .none perm (us ++ ws))) := by
  intro s us ws l1 l2
  refine BindsTo.of_eq ?_
  unfold kwShape at hs
  split at hs
  · rename_i z
    subst z
    simp only [Bool.and_eq_true, List.isEmpty_iff, beq_iff_eq] at hs
    obtain ⟨rfl, rfl⟩ := hs
    have e0 : ws = [] := List.eq_nil_of_length_eq_zero l2
    subst e0
    have all : ∀ x ∈ ps, ((ps.zip us ++ ([] : List Str).zip ([] : List Value)).lookup x).isSome = true := fun x hx => by
      obtain ⟨j, e⟩ := List.mem_iff_getElem?.mp hx
      have hj : j < us.length := by rw [l1]; exact (List.getElem?_eq_some_iff.mp e).1
      rw [show ([] : List Str).zip ([] : List Value) = [] from rfl, List.append_nil, lookup_zip nd e (List.getElem?_eq_getElem hj)]
      rfl
    rw [bind_go h us _ (by omega) (by simp) (by simp) all]
    congr 1
    refine filterMap_zip (by simp [permL, l1]) fun j x v h1 h2 => ?_
    simp only [permL, List.append_nil] at h2
    rw [show ([] : List Str).zip ([] : List Value) = [] from rfl, List.append_nil, lookup_zip nd h1 h2]
  · rename_i z
    simp only [Bool.and_eq_true, decide_eq_true_eq, beq_iff_eq, List.all_eq_true, Bool.not_eq_true', List.isEmpty_eq_false_iff] at hs
    obtain ⟨⟨⟨⟨⟨rfl, h2⟩, h3, h3b⟩, h4⟩, _⟩, h6⟩ := hs
    have hm : ∀ k ∈ ks, k ∈ ps.drop n := fun k hk => by simpa using h3 k hk
    have notTake : ∀ x, x ∈ ps.drop n → x ∉ ps.take us.length := fun x hx hx2 => by
      rw [l1] at hx2
      have nd2 : (ps.take n ++ ps.drop n).Nodup := by rw [List.take_append_drop]; exact nd
      exact (List.nodup_append.mp nd2).2.2 x hx2 x hx rfl
    have kin : ∀ x ∈ ks.zip ws, x.1 ∈ ks := fun x hx => (List.of_mem_zip (a := x.1) (b := x.2) hx).1
    have sub : ∀ x ∈ ps.drop n, x ∈ ks := fun x hx => by simpa using h3b x hx
    have find : ∀ (j : Nat) (x : Str) (v : Value), ps[j]? = some x → (permL .none (permOf ps n ks) (us ++ ws))[j]? = some v → ((ps.zip us ++ ks.zip ws).lookup x) = some v := fun j x v e1 e2 => by
      have hj := (List.getElem?_eq_some_iff.mp e1).1
      have ne : permOf ps n ks ≠ [] := by
        unfold permOf
        cases ps <;> simp at h6 ⊢
      have e3 : (permL Value.none (permOf ps n ks) (us ++ ws))[j]? = some ((us ++ ws).getD (if j < n then j else n + ks.idxOf (ps.getD j "")) .none) := by
        unfold permL
        split
        · rename_i z; exact (ne z).elim
        · unfold permOf
          simp [hj]
      rw [e3] at e2
      have ev : (us ++ ws).getD (if j < n then j else n + ks.idxOf (ps.getD j "")) .none = v := Option.some.inj e2
      by_cases hjn : j < n
      · rw [if_pos hjn] at ev
        have hju : j < us.length := by omega
        have e4 : us[j]? = some v := by
          rw [← ev, List.getD_eq_getElem?_getD, List.getElem?_append_left hju, List.getElem?_eq_getElem hju]; rfl
        have e5 := lookup_zip nd e1 e4
        rw [List.lookup_append, e5]; rfl
      · rw [if_neg hjn] at ev
        have hx : x ∈ ps.drop n := List.mem_iff_getElem?.mpr ⟨j - n, by rw [List.getElem?_drop, Nat.add_sub_cancel' (by omega)]; exact e1⟩
        have hk := sub x hx
        have eg : ps.getD j "" = x := by rw [List.getD_eq_getElem?_getD, e1]; rfl
        rw [eg] at ev
        have hi : ks.idxOf x < ks.length := List.idxOf_lt_length_of_mem hk
        have e6 : ks[ks.idxOf x]? = some x := by rw [List.getElem?_eq_getElem hi, List.getElem_idxOf hi]
        have e7 : ws[ks.idxOf x]? = some v := by
          rw [← ev, List.getD_eq_getElem?_getD, List.getElem?_append_right (by omega), show n + ks.idxOf x - us.length = ks.idxOf x by omega, List.getElem?_eq_getElem (by omega)]; rfl
        have e8 : (ps.zip us).lookup x = none := lookup_zip_none (notTake x hx)
        rw [List.lookup_append, e8, lookup_zip h4 e6 e7]; rfl
    have len : (permL Value.none (permOf ps n ks) (us ++ ws)).length = ps.length := by
      unfold permL permOf
      split
      · rename_i z
        have := congrArg List.length z
        simp at this
        rw [this] at h6; exact (h6 rfl).elim
      · simp
    have all : ∀ x ∈ ps, ((ps.zip us ++ ks.zip ws).lookup x).isSome = true := fun x hx => by
      obtain ⟨j, e⟩ := List.mem_iff_getElem?.mp hx
      have hj : j < (permL Value.none (permOf ps n ks) (us ++ ws)).length := by rw [len]; exact (List.getElem?_eq_some_iff.mp e).1
      rw [find j x _ e (List.getElem?_eq_getElem hj)]; rfl
    have c1 : ∀ x ∈ ks.zip ws, ps.contains x.1 = true ∧ ((ps.zip us).lookup x.1).isSome = false := fun x hx => by
      have k := hm _ (kin x hx)
      refine ⟨by simpa using List.mem_of_mem_drop k, ?_⟩
      rw [lookup_zip_none (notTake _ k)]; rfl
    have c2 : ((ks.zip ws).map (·.1)).Nodup := by
      rw [List.map_fst_zip (by omega)]; exact h4
    rw [bind_go h us _ (by omega) c1 c2 all]
    congr 1
    exact filterMap_zip len find
theorem kwb_of {K : PySem.W.Frag} {name qual : Str} {params : Arguments} {body : List Stmt} {scope : Scope} {kV doc pm cdv ct : Value} {an : Option Addr} {ps ks : List Str} {n : Nat} {perm : List Nat} (h : simpleB params ps = true) (nd : ps.Nodup) (hs : kwShape ps n ks perm = true) :
    KwB K (PySem.W.fnOf name qual params body scope .none kV doc pm an cdv ct) ps n ks perm := fun s us ws _ l1 l2 => binds_of h nd hs s us ws l1 l2
end Mp

/-! All defs keep their promises. -/
namespace Mp
open PySem PySem.Spec PyProof.Rows L2

/-- a def: its name, parameters, names; its mini text -/
structure Df where
  nm : Str
  ps : List Str
  N : List Str
  mf : MF
def scopeB (N ps : List Str) (sc : Scope) : Bool := fnK sc && !sc.isCoroutine && !sc.isGenerator && decide N.Nodup && decide (N.take ps.length = ps) && ps.all (fun x => match sc.names.lookup x with
    | some .local => true
    | some .cell => true
    | _ => false) && sc.names.all (fun y => match y.2 with
    | .free => false
    | _ => true)
theorem scope_of {N ps : List Str} {sc : Scope} (h : scopeB N ps sc = true) : FnScope N ps sc := by
  simp only [scopeB, Bool.and_eq_true, Bool.not_eq_true', decide_eq_true_eq, List.all_eq_true] at h
  obtain ⟨⟨⟨⟨⟨⟨h1, h2⟩, h3⟩, h4⟩, h5⟩, h6⟩, h7⟩ := h
  refine ⟨fnK_of h1, h2, h3, h4, h5, fun x hx => ?_, fun y hy e => ?_⟩
  · have := h6 x hx
    split at this
    · left; assumption
    · right; assumption
    · cases this
  · have := h7 y hy
    rw [e] at this
    cases this
def gxOf (Ds : List Df) (bi : List Str) (cs : List (Str × Int)) (d : Df) : Gx := ⟨d.N, Ds.map fun d => (d.nm, d.ps), bi, cs.map fun p => (p.1, .int p.2)⟩
def chkD (Ds : List Df) (bi : List Str) (cs : List (Str × Int)) (d : Df) (e : He.DefD) : Bool := decide (e.at_ = (d.nm, none)) && e.dfl.isEmpty && e.kwd.isEmpty && simpleB e.params d.ps && scopeB d.N d.ps e.scope && d.mf.slots == d.N.length && d.mf.ps == d.ps.length && cSs (gxOf Ds bi cs d) d.mf.body (e.scope, fun _ => true) e.body
def chkDs (Ds : List Df) (bi : List Str) (cs : List (Str × Int)) : List Df → List He.DefD → Bool
  | [], [] => true
  | d :: ds, e :: es => chkD Ds bi cs d e && chkDs Ds bi cs ds es
  | _, _ => false
theorem chkDs_get {Ds : List Df} {bi : List Str} {cs : List (Str × Int)} : ∀ {ds : List Df} {es : List He.DefD}, chkDs Ds bi cs ds es = true → ∀ {i : Nat} {d : Df}, ds[i]? = some d → ∃ e, es[i]? = some e ∧ chkD Ds bi cs d e = true
  | [], [], _, i, d, h => by simp at h
  | [], _ :: _, h, _, _, _ => by cases h
  | _ :: _, [], h, _, _, _ => by cases h
  | d :: ds, e :: es, h, 0, x, hx => by
    simp only [chkDs, Bool.and_eq_true] at h
    simp at hx; subst hx
    exact ⟨e, rfl, h.1⟩
  | d :: ds, e :: es, h, i + 1, x, hx => by
    simp only [chkDs, Bool.and_eq_true] at h
    obtain ⟨z, h1, h2⟩ := chkDs_get h.2 (i := i) (by simpa using hx)
    exact ⟨z, by simpa using h1, h2⟩
/-- what stands behind the top -/
structure Wd (K : PySem.W.Frag) (mg : Str → Option Value) (Ds : List Df) (fn : List He.DefD) (bi : List Str) (cs : List (Str × Int)) : Prop where
  chk : chkDs Ds bi cs Ds fn = true
  fn : ∀ (i : Nat) e, fn[i]? = some e → ∃ fd, FunD K e.name e.qual e.params e.body e.scope (e.dvs K) (e.kws K) (He.fAd K e.at_) fd
  gl : ∀ (i : Nat) d, Ds[i]? = some d → mg d.nm = some (.ref (He.fAd K (d.nm, none)))
  bi : ∀ x ∈ bi, mg x = none
  cs : ∀ x i, cs.lookup x = some i → ∃ t, mg x = some (.int i t)
section
variable {P : Program} {w : World} {K : PySem.W.Frag} {mg : Str → Option Value} {base : Heap} {Ds : List Df} {fn : List He.DefD} {bi : List Str} {cs : List (Str × Int)} {att : Str → Option Str}
def mgK (K : PySem.W.Frag) (mg : Str → Option Value) : Mg := ⟨mg, fun a xs => SqL K (fun _ => none) a xs⟩
theorem cs_lookup {x : Str} {d : D} : ∀ {cs : List (Str × Int)}, (cs.map fun p => (p.1, D.int p.2)).lookup x = some d → ∃ i, cs.lookup x = some i ∧ d = .int i
  | [], h => by simp at h
  | (k, i) :: r, h => by
    rw [List.map_cons, List.lookup_cons] at h
    rw [List.lookup_cons]
    split at h
    · rename_i e; rw [e]; exact ⟨i, rfl, by cases h; rfl⟩
    · rename_i e; rw [e]; exact cs_lookup h
/-- every def, at every level of calls -/
theorem all_fng (W : Wd K mg Ds fn bi cs) : ∀ (k f : Nat) (d : Df) (e : He.DefD) (fd : FuncData), Ds[f]? = some d → fn[f]? = some e → chkD Ds bi cs d e = true → FunD K e.name e.qual e.params e.body e.scope (e.dvs K) (e.kws K) (He.fAd K e.at_) fd →
    FnG P w K mg base (L2.CX P w) k (He.fAd K (d.nm, none)) fd d.ps (spF (mgK K mg) att d.ps.length (callF (Ds.map (·.mf)) k f))
  | 0, f, d, e, fd, _, _, _, _ => ⟨fun vs H Q E h => h.1, fun A outer s H args us vs Q E _ _ _ _ _ h => by
      obtain ⟨_, R, c, ds, M, _, _, h⟩ := h
      rw [callF] at h
      exact h.elim⟩
  | k + 1, f, d, e, fd, hd, he, hc, F => by
    simp only [chkD, Bool.and_eq_true, decide_eq_true_eq, List.isEmpty_iff, beq_iff_eq] at hc
    obtain ⟨⟨⟨⟨⟨⟨⟨h1, h2⟩, h3⟩, h4⟩, h5⟩, h6⟩, h7⟩, h8⟩ := hc
    obtain ⟨oc, od, dV, kV, doc, pm, an, cdv, ct, osl, rfl, lk, hcd, hD, hK⟩ := F.ex
    have S := scope_of h5
    rw [h1] at lk
    refine fng_of lk hcd S (fun vs H Q E h => h.1) fun A outer s H vs Q E room gd sp => ?_
    obtain ⟨hl, R, c, ds, M, m, rv, sp⟩ := sp
    have ok : Okx (gxOf Ds bi cs d) ⟨callF (Ds.map (·.mf)) k, k⟩ ⟨mgK K mg, att, fun cls dd _ H' => E cls dd H'⟩ (cxOf (L2.CX P w) P w K mg base d.N e.qual e.scope (He.fAd K (d.nm, none)) cdv A outer s H E) (e.scope, fun _ => true) :=
      { N := rfl, sc := rfl, fn := fun _ _ => rfl, mg := rfl, nd := S.nd, calm := rfl, gd := gd, un := by have := room.un; show (A.deeper _).units + 100 < cLine; omega, bi := W.bi
        cs := fun x z hz _ => by
          obtain ⟨i, e1, rfl⟩ := cs_lookup hz
          obtain ⟨t, e2⟩ := W.cs x i e1
          exact ⟨_, .int i, e2, ⟨t, rfl⟩, fun _ _ _ _ => by simp [Rp]⟩
        tk := takes_of (E := E) rfl rfl rfl rfl
        fns := fun g x ps hg => by
          have hg : (Ds.map fun d => (d.nm, d.ps))[g]? = some (x, ps) := hg
          rw [List.getElem?_map] at hg
          cases hq : Ds[g]? with
          | none => rw [hq] at hg; cases hg
          | some d' =>
            rw [hq] at hg
            simp only [Option.map_some, Option.some.injEq, Prod.mk.injEq] at hg
            obtain ⟨rfl, rfl⟩ := hg
            obtain ⟨e', k1, k2⟩ := chkDs_get W.chk hq
            obtain ⟨fd', F'⟩ := W.fn g e' k1
            have G := all_fng W k g d' e' fd' hq k1 k2 F'
            simp only [chkD, Bool.and_eq_true, decide_eq_true_eq, List.isEmpty_iff, beq_iff_eq] at k2
            obtain ⟨⟨⟨⟨⟨⟨⟨j1, j2⟩, j3⟩, j4⟩, j5⟩, j6⟩, j7⟩, j8⟩ := k2
            have S' := scope_of j5
            have kp := F'.kp
            rw [j1] at kp
            refine ⟨He.fAd K (d'.nm, none), fd', k, W.gl g d' hq, kp, room, G, fun n ks perm hs => ?_⟩
            obtain ⟨oc', od', dV', kV', doc', pm', an', cdv', ct', osl', rfl, lk', hcd', hD', hK'⟩ := F'.ex
            have dn : dV' = .none := by
              rcases hD' with ⟨_, z⟩ | ⟨z, _⟩
              · exact z
              · exact (z (by simp [He.DefD.dvs, j2])).elim
            subst dn
            exact kwb_of j4 (by rw [← S'.pre]; exact S'.nd.sublist (List.take_sublist _ _)) hs }
    refine ⟨tS ⟨mgK K mg, att, fun cls dd _ H' => E cls dd H'⟩ (evSs ⟨callF (Ds.map (·.mf)) k, k⟩ d.mf.body), cSs_ok d.mf.body _ _ _ _ h8 ok (passes_of rfl), ?_⟩
    have lds : ds.length = d.ps.length := by rw [← rv.len]; exact hl
    rw [callF, List.getElem?_map, hd] at sp
    simp only [Option.map_some] at sp
    rw [if_pos (by rw [lds, h7])] at sp
    refine ⟨R, c, _, M, m, start_rp rv (n := d.mf.slots - d.mf.ps) (by rw [h6, h7, lds]), ?_⟩
    exact fin_ok m (fun _ _ _ _ z => z) sp
end
end Mp

/-! A law's end. -/
namespace Mp
open PySem PySem.Spec PyProof.Rows L2

/-- the script alone is tracked, if it is not of the written part -/
def Hs (K : PySem.W.Frag) (a : Addr) (o : Obj) (xs : List V) : Hp := fun b => if b = a then (match K.lookup a with
  | some _ => none
  | none => some (.frz o (.lst xs))) else none
section
variable {K : PySem.W.Frag} {a b : Addr} {o : Obj} {xs : List V}
theorem Hs_ne (h : b ≠ a) : Hs K a o xs b = none := if_neg h
theorem Hs_in {u : Obj} (h : K.lookup a = some u) : Hs K a o xs b = none := by
  unfold Hs
  split
  · rw [h]
  · rfl
theorem Hs_at (h : K.lookup a = none) : Hs K a o xs a = some (.frz o (.lst xs)) := by
  unfold Hs
  rw [if_pos rfl, h]
theorem Hs_cases (b : Addr) : Hs K a o xs b = none ∨ (b = a ∧ K.lookup a = none ∧ Hs K a o xs b = some (.frz o (.lst xs))) := by
  by_cases e : b = a
  · subst e
    cases h : K.lookup b with
    | some u => exact .inl (Hs_in h)
    | none => exact .inr ⟨rfl, rfl, Hs_at h⟩
  · exact .inl (Hs_ne e)
end
theorem law_g {P : Program} {w : World} {K : PySem.W.Frag} {mg mb : Str → Option Value} {k : Nat} {fa a : Addr} {fd : FuncData} {x : Str} {sp : Sp} {s1 : Shared} {vs : List Value} {ns : List Int}
    (KX : K.In s1.heap) (gn : s1.heap.Ns mainGlobals mg) (gb : s1.heap.Ns builtinsNs mb) (gbb : ∀ x : Str, x ≠ "__name__" → mb x = bootBuiltins x) (lim : s1.heap.NoLimit) (gg : s1.gens = #[])
    (ha : s1.heap.get? a = some { cls := .type "list", data := .seq vs.toArray }) (hi : IntsAre vs ns) (hl : ns.length ≤ sizeLine) (room : Room k callerA)
    (F : ∀ base : Heap, K.In base → base.Ns mainGlobals mg → FnG P w K mg base (L2.CX P w) k fa fd [x] sp) (bind : ∀ (s : Shared) (u : Value), BindsTo s fd ⟨[u], []⟩ [(x, u)])
    (hsp : ∀ H : Hp, (∀ b, H b = none ∨ ∃ o xs, H b = some (.frz o (.lst xs))) → SqL K H a (ns.map V.int) → sp [.ref a] H (fun v _ => v = .bl true) fun _ _ _ => False) :
    codeAny (model P w) callerA (.call (.ref fa) ⟨[.ref a], []⟩) (fun r s' => r = .ok (.ret (.bool true)) ∧ OldK s1.heap s'.heap ∧ s'.os = s1.os ∧ AllBare s'.gens) s1 := by
  obtain ⟨oa, eoa⟩ : ∃ oa : Obj, oa = { cls := .type "list", data := .seq vs.toArray } := ⟨_, rfl⟩
  obtain ⟨H, eH⟩ : ∃ H, H = Hs K a oa (ns.map V.int) := ⟨_, rfl⟩
  rw [← eoa] at ha
  have rv := vals_ints hi
  have cas : ∀ b, H b = none ∨ (b = a ∧ K.lookup a = none ∧ H b = some (.frz oa (.lst (ns.map V.int)))) := fun b => by rw [eH]; exact Hs_cases b
  have stay : ∀ {b : Addr} {o : Obj}, s1.heap.get? b = some o → H b = none → (hidT s1.heap H).get? b = some o := fun e n => hidT_get e n
  have isDict : ∀ {b : Addr} {o : Obj} {es : Array DictEntry} {ep : Nat}, s1.heap.get? b = some o → o.data = .dict es ep → H b = none := fun {b o es ep} e d => by
    rcases cas b with z | ⟨rfl, _, _⟩
    · exact z
    · rw [ha] at e; cases e
      rw [eoa] at d; cases d
  have ns' : ∀ {b : Addr} {m : Str → Option Value}, s1.heap.Ns b m → (hidT s1.heap H).Ns b m := fun {b m} ⟨o, es, ep, e, d, r⟩ => ⟨o, es, ep, stay e (isDict e d), d, r⟩
  have inK : K.In (hidT s1.heap H) := fun b o e => stay (KX b o e) (by
    rcases cas b with z | ⟨rfl, z, _⟩
    · exact z
    · rw [z] at e; cases e)
  have hok : HOk P w H s1.heap := fun b u z => by
    rcases cas b with q | ⟨rfl, _, q⟩
    · rw [q] at z; cases z
    · rw [q] at z; cases z
      exact ⟨ha, by rw [List.length_map]; exact hl, vs, _, rv, by rw [ha, eoa]⟩
  have only : ∀ b, H b = none ∨ ∃ o xs, H b = some (.frz o (.lst xs)) := fun b => (cas b).elim .inl fun z => .inr ⟨_, _, z.2.2⟩
  have seq : SqL K H a (ns.map V.int) := by
    cases hk : K.lookup a with
    | none => rw [eH]; exact .inl (.inr ⟨oa, Hs_at hk⟩)
    | some o =>
      have e := KX a o hk
      rw [ha] at e; cases e
      rw [eoa] at hk
      exact .inr ⟨_, vs.toArray, _, hk, rfl, rfl, rfl, by rw [List.size_toArray, hi.length]; exact hl, by simpa using rv⟩
  have env0 : Env0 P w K mg (hidT s1.heap H) callerA [] s1 H :=
    ⟨rfl, ⟨inK, ns' gn, ⟨mb, ns' gb, gbb⟩, let ⟨mc, h1, h2⟩ := lim; ⟨mc, ns' h1, h2⟩⟩, fun b o e => of_hidT e, Nat.le_of_eq (hidT_size _ _), trivial, fun b hb => absurd (show b ∈ ([] : List Addr) from hb) (by simp), hok, .of_eq gg⟩
  refine codeAny_mono ((F _ inK (ns' gn)).run callerA [] s1 H ⟨[.ref a], []⟩ [.ref a] [.ref a] _ _ room rfl env0 (bind s1 (.ref a)) (.cons rfl .nil) (hsp H only seq)) fun r s' h => ?_
  cases r with
  | error e =>
    obtain ⟨_, _, _, _, _, _, _, _, _, _, _, _, z⟩ := (show L2.CX P w [] H s1 (fun _ _ _ => False) e s' from h)
    exact z.elim
  | ok fl =>
    cases fl with
    | next => exact False.elim h
    | brk => exact False.elim h
    | cont => exact False.elim h
    | ret u =>
      obtain ⟨v, H', os, bare, un, hok', rel, rfl⟩ := h
      obtain rfl : u = Value.bool true := rel
      refine ⟨rfl, OldK.of_keep fun b o e => ?_, os, bare⟩
      rcases cas b with q | ⟨rfl, _, q⟩
      · exact un.keep b o e q (fun z => absurd (show b ∈ ([] : List Addr) from z) (by simp)) (by simp)
      · have z2 := un.frzs b oa _ q
        obtain ⟨e2, _⟩ := hok' b _ z2
        rw [ha] at e; cases e
        exact e2
/-- a law's walk, from the head's facts and the evaluator -/
theorem walk_g {l : PySem.W.OpenLaw} {n k : Nat} {q : Program} {loose : List Str} {XP : (Str → Option Value) → Heap → Prop} {YP : World → Heap → Prop} {d : DefRec} {x : Str}
    (hn : l.most = some n) (hn2 : n ≤ sizeLine) (hdf : d.params.defaults = []) (room : Room k callerA)
    (F : ∀ (w : World) (mg : Str → Option Value) (fa : Addr) (h : Heap), YP w h → h.Ns mainGlobals mg → mg d.name = some (.ref fa) →
      ∃ (K : PySem.W.Frag) (fd : FuncData) (sp : Sp), K.In h ∧ (∀ (s : Shared) (u : Value), BindsTo s fd ⟨[u], []⟩ [(x, u)]) ∧
        (∀ (H : Hp) (a : Addr) (ns : List Int), ns.length ≤ n → (∀ b, H b = none ∨ ∃ o xs, H b = some (.frz o (.lst xs))) → SqL K H a (ns.map V.int) → sp [.ref a] H (fun v _ => v = .bl true) fun _ _ _ => False) ∧
        ∀ base : Heap, K.In base → base.Ns mainGlobals mg → FnG l.prog w K mg base (L2.CX l.prog w) k fa fd [x] sp) :
    PySem.W.WalkO q loose XP YP l.row.toRowW d [] (fun f vs => PySem.call f vs) := by
  refine Att.attach_call hn hdf fun w s₀ s1 mg mb fa o pm cd doc a vs ns G Y ho hd hcd hmg hobj hints hlen hg => ?_
  obtain ⟨K, fd, sp, KX, hb, hsp, hF⟩ := F w mg fa _ Y G.T.g hmg
  exact law_g KX G.T.g G.T.b G.T.builtins G.T.nolimit hg hobj hints (Nat.le_trans hlen hn2) room hF hb fun H hO hS => hsp H a ns hlen hO hS
/-- the same, by the mini text: `law` is its def number f -/
theorem walk_m {l : PySem.W.OpenLaw} {n k f : Nat} {q : Program} {loose : List Str} {XP : (Str → Option Value) → Heap → Prop} {YP : World → Heap → Prop} {d : DefRec} {x : Str} {Ds : List Df} {fn : List He.DefD} {fas : List He.Fa} {bi : List Str} {cs : List (Str × Int)} {df : Df}
    (hn : l.most = some n) (hn2 : n ≤ sizeLine) (hdf : d.params.defaults = []) (room : Room k callerA)
    (hY : ∀ w h, YP w h → ∃ K : PySem.W.Frag, K.In h ∧ He.SaysD fas fn K)
    (hfa : fas = (Ds.map fun d => He.Fa.glo d.nm) ++ (bi.map He.Fa.free) ++ cs.map fun p => He.Fa.int p.1 p.2)
    (hdx : Ds[f]? = some df) (hnm : df.nm = d.name) (hps : df.ps = [x]) (chk : chkDs Ds bi cs Ds fn = true)
    (pure : ∀ ns : List Int, ns.length ≤ n → ∃ M, callF (Ds.map (·.mf)) k f [.scr ns] [] = .ok (.bl true) M) :
    PySem.W.WalkO q loose XP YP l.row.toRowW d [] (fun f vs => PySem.call f vs) := by
  refine walk_g (k := k) (x := x) hn hn2 hdf room fun w mg fa h y G hmg => ?_
  obtain ⟨K, KX, S⟩ := hY w h y
  have fact : ∀ z ∈ fas, z.ok K = true := fun z hz => by
    obtain ⟨i, e⟩ := List.mem_iff_getElem?.mp hz
    exact S.fact i e
  have W : Wd K mg Ds fn bi cs :=
    { chk := chk, fn := fun i e he => S.def_ i he
      gl := fun i d hd => by
        have := He.glo_ok KX G (fact (.glo d.nm) (by rw [hfa]; simp only [List.mem_append, List.mem_map]; exact .inl (.inl ⟨d, List.mem_of_getElem? hd, rfl⟩)))
        exact this
      bi := fun x hx => He.free_ok KX G (fact (.free x) (by rw [hfa]; simp only [List.mem_append, List.mem_map]; exact .inl (.inr ⟨x, hx, rfl⟩)))
      cs := fun x i hx => He.int_ok KX G (fact (.int x i) (by rw [hfa]; simp only [List.mem_append, List.mem_map]; exact .inr ⟨(x, i), PySem.mem_of_lookup hx, rfl⟩)) }
  obtain ⟨e, k1, k2⟩ := chkDs_get chk hdx
  obtain ⟨fd, FD⟩ := W.fn f e k1
  have same : fa = He.fAd K (df.nm, none) := by
    have h1 := W.gl f df hdx
    rw [hnm, hmg] at h1
    cases h1
    rw [hnm]
  have kb : ∀ (s : Shared) (u : Value), BindsTo s fd ⟨[u], []⟩ [(x, u)] := fun s u => by
    have k2' := k2
    simp only [chkD, Bool.and_eq_true, decide_eq_true_eq, List.isEmpty_iff, beq_iff_eq] at k2'
    obtain ⟨⟨⟨⟨⟨⟨⟨j1, j2⟩, j3⟩, j4⟩, j5⟩, j6⟩, j7⟩, j8⟩ := k2'
    obtain ⟨oc', od', dV', kV', doc', pm', an', cdv', ct', osl', rfl, lk', hcd', hD', hK'⟩ := FD.ex
    have dn : dV' = .none := by
      rcases hD' with ⟨_, z⟩ | ⟨z, _⟩
      · exact z
      · exact (z (by simp [He.DefD.dvs, j2])).elim
    subst dn
    rw [hps] at j4
    exact binds_of (n := 1) (ks := []) (perm := []) j4 (by simp) (by simp [kwShape]) s [u] [] rfl rfl
  refine ⟨K, fd, spF (mgK K mg) (fun _ => none) df.ps.length (callF (Ds.map (·.mf)) k f), KX, kb, fun H a ns hl only seq => ?_, fun base KB GB => ?_⟩
  · refine ⟨by rw [hps]; rfl, fun _ => False, [], [.scr ns], [], ?_, ?_, ?_⟩
    · exact ⟨rfl, fun n m a l => absurd (live_lt l) (by simp), fun n a l => absurd (live_lt l) (by simp), fun a h => h.elim, fun n d e => by simp at e, fun n d e => by simp at e⟩
    · refine RpL.cons ?_ RpL.nil
      simp only [Rp]
      refine ⟨a, rfl, ?_⟩
      rcases seq with z | z
      · refine .inl ⟨z, fun q => ?_⟩
        rcases q with q | ⟨n, l, _⟩
        · exact q
        · exact absurd (live_lt l) (by simp)
      · exact .inr (.inr z)
    · obtain ⟨M, e⟩ := pure ns hl
      rw [e]
      intro v H' c' _ r
      simp only [rlD, Rp] at r
      exact r
  · rw [same, ← hps]
    exact all_fng W k f df e fd hdx k1 k2 FD
end Mp

/-! Plain lemmas about the evaluator. -/
namespace Mp
open PySem

theorem call_eq {P : List MF} {k f : Nat} {F : MF} {ds : List D} {M : Cs} (h : P[f]? = some F) (hl : ds.length = F.ps) :
    callF P (k + 1) f ds M = finF F.keep M.length (evSs ⟨callF P k, k⟩ F.body (ds.map some ++ List.replicate (F.slots - F.ps) none) M) := by
  rw [callF, h]
  simp only
  rw [if_pos hl]
theorem fin_rt {d : D} {M : Cs} (h : d.free 0 = true) : finF false M.length (.rt d M) = .ok d M := by
  have : d.free M.length = true := D.free_mono (Nat.zero_le _) d h
  simp [finF, this]
@[simp] theorem rd_int (M : Cs) (i : Int) : rd M (.int i) = some (.int i) := id rfl
@[simp] theorem rd_bl (M : Cs) (i : Bool) : rd M (.bl i) = some (.bl i) := id rfl
@[simp] theorem rd_non (M : Cs) : rd M .non = some .non := id rfl
@[simp] theorem rd_tup (M : Cs) (i : List D) : rd M (.tup i) = some (.tup i) := id rfl
@[simp] theorem rd_lst (M : Cs) (i : List D) : rd M (.lst i) = some (.lst i) := id rfl
@[simp] theorem rd_str (M : Cs) (i : Str) : rd M (.str i) = some (.str i) := id rfl
@[simp] theorem rd_dct (M : Cs) (t : Bool) (i j : List D) : rd M (.dct t i j) = some (.dct t i j) := id rfl
@[simp] theorem rd_scr (M : Cs) (i : List Int) : rd M (.scr i) = some (.scr i) := id rfl
@[simp] theorem SR_ok {α : Type} (σ : En) (a : α) (M : Cs) (g : α → Cs → SR) : SR.of σ (.ok a M) g = g a M := id rfl
theorem lcGo_pure {ws : List Nat} {step : D → Cs → Res (List D)} {f : D → List D} {M : Cs} : ∀ {ds acc : List D}, (∀ d ∈ ds, step d M = .ok (f d) M) → acc.length + (ds.flatMap f).length ≤ sizeLine → lcGo ws step ds acc M = .ok (acc ++ ds.flatMap f) M
  | [], acc, _, _ => by rw [lcGo]; simp
  | d :: ds, acc, h, hl => by
    rw [List.flatMap_cons, List.length_append] at hl
    rw [lcGo, h d List.mem_cons_self]
    simp only
    rw [if_pos (by simp [same]; omega), lcGo_pure (fun x hx => h x (List.mem_cons_of_mem _ hx)) (by rw [List.length_append]; omega)]
    simp

/-! ### what may be compared -/
/-- depth at most n, nothing but ints, bools, texts, None, tuples, lists -/
def lvl : Nat → D → Bool
  | _, .non => true
  | _, .bl _ => true
  | _, .int _ => true
  | _, .str x => PyData.strOk x
  | n + 1, .tup xs => xs.all (lvl n)
  | n + 1, .lst xs => xs.all (lvl n)
  | _, _ => false
theorem lvl_ok : ∀ (n : Nat) (d : D), lvl n d = true → d.py.canLay0 = true ∧ d.py.depth ≤ n + 1
  | _, .non, _ => by simp [D.py, PyData.canLay0, PyData.depth]
  | _, .bl _, _ => by simp [D.py, PyData.canLay0, PyData.depth]
  | _, .int _, _ => by simp [D.py, PyData.canLay0, PyData.depth]
  | n, .str x, h => by
    have : PyData.strOk x = true := by cases n <;> simpa [lvl] using h
    simp [D.py, PyData.canLay0, PyData.depth, this]
  | 0, .tup _, h => by simp [lvl] at h
  | 0, .lst _, h => by simp [lvl] at h
  | n + 1, .tup xs, h => by
    have key : ∀ xs : List D, xs.all (lvl n) = true → PyData.canLayAll0 (pys xs) = true ∧ PyData.depthAll (pys xs) ≤ n + 1 := fun xs => by
      induction xs with
      | nil => intro _; simp [pys, PyData.canLayAll0, PyData.depthAll]
      | cons x xs ih =>
        intro h
        simp only [List.all_cons, Bool.and_eq_true] at h
        obtain ⟨a, b⟩ := lvl_ok n x h.1
        obtain ⟨c, d⟩ := ih h.2
        simp only [pys, PyData.canLayAll0, PyData.depthAll, a, c, Bool.and_true, true_and]
        omega
    obtain ⟨a, b⟩ := key xs (by simpa [lvl] using h)
    simp only [D.py, PyData.canLay0, PyData.depth]
    exact ⟨a, by omega⟩
  | n + 1, .lst xs, h => by
    have key : ∀ xs : List D, xs.all (lvl n) = true → PyData.canLayAll0 (pys xs) = true ∧ PyData.depthAll (pys xs) ≤ n + 1 := fun xs => by
      induction xs with
      | nil => intro _; simp [pys, PyData.canLayAll0, PyData.depthAll]
      | cons x xs ih =>
        intro h
        simp only [List.all_cons, Bool.and_eq_true] at h
        obtain ⟨a, b⟩ := lvl_ok n x h.1
        obtain ⟨c, d⟩ := ih h.2
        simp only [pys, PyData.canLayAll0, PyData.depthAll, a, c, Bool.and_true, true_and]
        omega
    obtain ⟨a, b⟩ := key xs (by simpa [lvl] using h)
    simp only [D.py, PyData.canLay0, PyData.depth]
    exact ⟨a, by omega⟩
  | 0, .dct _ _ _, h => by simp [lvl] at h
  | 0, .cell _, h => by simp [lvl] at h
  | 0, .fn _, h => by simp [lvl] at h
  | 0, .exc _ _, h => by simp [lvl] at h
  | 0, .scr _, h => by simp [lvl] at h
  | _ + 1, .dct _ _ _, h => by simp [lvl] at h
  | _ + 1, .cell _, h => by simp [lvl] at h
  | _ + 1, .fn _, h => by simp [lvl] at h
  | _ + 1, .exc _ _, h => by simp [lvl] at h
  | _ + 1, .scr _, h => by simp [lvl] at h
theorem sh_lvl {n : Nat} {d : D} (h : lvl n d = true) (hn : n ≤ 60) : sh d = true := by
  obtain ⟨a, b⟩ := lvl_ok n d h
  simp only [sh, SeqAt.shaped, a, Bool.true_and, decide_eq_true_eq]
  omega
@[simp] theorem sh_int (i : Int) : sh (.int i) = true := sh_lvl (n := 0) rfl (by omega)
@[simp] theorem sh_bl (i : Bool) : sh (.bl i) = true := sh_lvl (n := 0) rfl (by omega)
theorem sh_str {x : Str} (h : PyData.strOk x = true) : sh (.str x) = true := sh_lvl (n := 0) (by simpa [lvl] using h) (by omega)
@[simp] theorem sh_non : sh .non = true := sh_lvl (n := 0) rfl (by omega)
/-- no bools -/
def clean : Nat → D → Bool
  | _, .non => true
  | _, .int _ => true
  | _, .str x => PyData.strOk x
  | n + 1, .tup xs => xs.all (clean n)
  | n + 1, .lst xs => xs.all (clean n)
  | _, _ => false
theorem eqD_self : ∀ (n : Nat) (a : D), lvl n a = true → eqD a a = true := by
  intro n
  induction n with
  | zero =>
    intro a h
    cases a <;> simp [lvl] at h <;> simp [eqD, D.py, PyData.eqv]
  | succ n ih =>
    have key : ∀ xs : List D, xs.all (lvl n) = true → PyData.eqvAll (pys xs) (pys xs) = true := fun xs => by
      induction xs with
      | nil => intro _; simp [pys, PyData.eqvAll]
      | cons x xs ih2 =>
        intro h
        simp only [List.all_cons, Bool.and_eq_true] at h
        have h1 : PyData.eqv x.py x.py = true := ih x h.1
        simp [pys, PyData.eqvAll, ih2 h.2, h1]
    intro a h
    cases a <;> simp only [lvl, Bool.false_eq_true] at h <;> simp [eqD, D.py, PyData.eqv] <;> exact key _ h
theorem eqD_clean : ∀ (n : Nat) (a b : D), clean n a = true → clean n b = true → eqD a b = true → a = b := by
  intro n
  induction n with
  | zero =>
    intro a b ha hb e
    cases a <;> simp [clean] at ha <;> cases b <;> simp [clean] at hb <;> simp [eqD, D.py, PyData.eqv] at e ⊢ <;> exact e
  | succ n ih =>
    have key : ∀ xs ys : List D, xs.all (clean n) = true → ys.all (clean n) = true → PyData.eqvAll (pys xs) (pys ys) = true → xs = ys := fun xs => by
      induction xs with
      | nil =>
        intro ys _ _ e
        cases ys with
        | nil => rfl
        | cons => simp [pys, PyData.eqvAll] at e
      | cons x xs ih2 =>
        intro ys h1 h2 e
        cases ys with
        | nil => simp [pys, PyData.eqvAll] at e
        | cons y ys =>
          simp only [List.all_cons, Bool.and_eq_true] at h1 h2
          simp only [pys, PyData.eqvAll, Bool.and_eq_true] at e
          rw [ih x y h1.1 h2.1 e.1, ih2 ys h1.2 h2.2 e.2]
    intro a b ha hb e
    cases a <;> simp only [clean, Bool.false_eq_true] at ha <;> cases b <;> simp only [clean, Bool.false_eq_true] at hb <;> simp [eqD, D.py, PyData.eqv] at e ⊢ <;> first | exact e | exact key _ _ ha hb e
theorem clean_lvl : ∀ (n : Nat) (a : D), clean n a = true → lvl n a = true := by
  intro n
  induction n with
  | zero => intro a h; cases a <;> simp [clean] at h <;> simp [lvl, h]
  | succ n ih =>
    intro a h
    cases a <;> simp only [clean, Bool.false_eq_true] at h <;> simp only [lvl]
    all_goals first
      | exact h
      | (rw [List.all_eq_true] at h ⊢; exact fun x hx => ih x (h x hx))
theorem eqD_dec {n : Nat} {a b : D} (ha : clean n a = true) (hb : clean n b = true) : eqD a b = decide (a = b) := by
  by_cases e : a = b
  · subst e; rw [eqD_self n a (clean_lvl n a ha)]; simp
  · cases h : eqD a b with
    | false => simp [e]
    | true => exact (e (eqD_clean n a b ha hb h)).elim
@[simp] theorem eqD_int (i j : Int) : eqD (.int i) (.int j) = decide (i = j) := by
  rw [eqD_dec (n := 0) rfl rfl]; simp

/-! ### loops -/
theorem forGo_ind {ws : List Nat} {step : D → En → Cs → SR} {I : List D → En → Cs → Prop} (h : ∀ d ds σ M, I (d :: ds) σ M → ∃ σ' M', (step d σ M = .nx σ' M' ∨ step d σ M = .ct σ' M') ∧ same ws M M' = true ∧ I ds σ' M') :
    ∀ (ds : List D) (σ : En) (M : Cs), I ds σ M → ∃ σ' M', forGo ws step ds σ M = .nx σ' M' ∧ I [] σ' M'
  | [], σ, M, i => ⟨σ, M, rfl, i⟩
  | d :: ds, σ, M, i => by
    obtain ⟨σ1, M1, e, s, i1⟩ := h d ds σ M i
    obtain ⟨σ2, M2, e2, i2⟩ := forGo_ind h ds σ1 M1 i1
    refine ⟨σ2, M2, ?_, i2⟩
    rw [forGo]
    rcases e with e | e <;> rw [e] <;> simp only <;> rw [if_pos s, e2]
theorem same_self (ws : List Nat) (M : Cs) : same ws M M = true := by simp [same]
theorem mulI (i j : Int) (h : (-big < i ∧ i < big) ∨ (-big < j ∧ j < big)) : binD .Mult (.int i) (.int j) = some (.int (i * j)) := by
  have : (((-big < i && decide (i < big)) || (-big < j && decide (j < big)))) = true := by
    simpa using h
  simp only [binD]
  rw [if_pos this]
@[simp] theorem addI (i j : Int) : binD .Add (.int i) (.int j) = some (.int (i + j)) := id rfl
@[simp] theorem subI (i j : Int) : binD .Sub (.int i) (.int j) = some (.int (i - j)) := id rfl
theorem modI (i j : Int) (h : 0 < j) : binD .Mod (.int i) (.int j) = some (.int (i % j)) := by simp [binD, h]
theorem fdivI (i j : Int) (h : 0 < j) (h2 : j < 1073741824) : binD .FloorDiv (.int i) (.int j) = some (.int (i / j)) := by simp [binD, h, h2]
end Mp

/-! The evaluator's equations, for simp. -/
namespace Mp
open PySem
@[simp] theorem evE_var (C : Cl) i σ M : evE C (ME.var i) σ M = ((match σ[i]? with
    | some (some d) => .ok d M
    | _ => .bad) : Res D) := by
  rw [evE] <;> first | rfl | (cases evS C s σ M <;> rfl)
@[simp] theorem evE_con (C : Cl) d u0 M : evE C (ME.con d) u0 M = (.ok d M : Res D) := by
  rw [evE] <;> first | rfl | (cases evS C s σ M <;> rfl)
@[simp] theorem evE_gl (C : Cl) w0 d u0 M : evE C (ME.gl w0 d) u0 M = (.ok d M : Res D) := by
  rw [evE] <;> first | rfl | (cases evS C s σ M <;> rfl)
@[simp] theorem evE_fn (C : Cl) x u0 M : evE C (ME.fn x) u0 M = (.ok (.fn x) M : Res D) := by
  rw [evE] <;> first | rfl | (cases evS C s σ M <;> rfl)
def kt_evE_bin_1 (C : Cl) (o : Operator) (b : ME) (σ : En) (x : D) (M1 : Cs) := ((evE C b σ M1).bind fun y M2 => opt ((rd M2 x).bind fun x' => (rd M2 y).bind fun y' => binD o x' y') M2 : Res D)
def kt_evE_bin_2 (C : Cl) (o : Operator) (x : D) (y : D) (M2 : Cs) := (opt ((rd M2 x).bind fun x' => (rd M2 y).bind fun y' => binD o x' y') M2 : Res D)
@[simp] theorem kt_evE_bin_2_eq (C : Cl) (o : Operator) (x : D) (y : D) (M2 : Cs) : kt_evE_bin_2 C o x y M2 = (opt ((rd M2 x).bind fun x' => (rd M2 y).bind fun y' => binD o x' y') M2 : Res D) := by first | (rw [kt_evE_bin_2]; done) | rfl
@[simp] theorem kt_evE_bin_1_eq (C : Cl) (o : Operator) (b : ME) (σ : En) (x : D) (M1 : Cs) : kt_evE_bin_1 C o b σ x M1 = ((evE C b σ M1).bind (kt_evE_bin_2 C o x) : Res D) := by first | (rw [kt_evE_bin_1]; done) | rfl
@[simp] theorem evE_bin (C : Cl) o a b σ M : evE C (ME.bin o a b) σ M = ((evE C a σ M).bind (kt_evE_bin_1 C o b σ) : Res D) := by
  rw [evE] <;> first | rfl | (cases evS C s σ M <;> rfl)
def kt_evE_neg_1 (C : Cl) (x : D) (M1 : Cs) := ((match x with
    | .int i => .ok (.int (-i)) M1
    | _ => .bad) : Res D)
@[simp] theorem kt_evE_neg_1_eq (C : Cl) (x : D) (M1 : Cs) : kt_evE_neg_1 C x M1 = ((match x with
    | .int i => .ok (.int (-i)) M1
    | _ => .bad) : Res D) := by first | (rw [kt_evE_neg_1]; done) | rfl
@[simp] theorem evE_neg (C : Cl) a σ M : evE C (ME.neg a) σ M = ((evE C a σ M).bind (kt_evE_neg_1 C) : Res D) := by
  rw [evE] <;> first | rfl | (cases evS C s σ M <;> rfl)
def kt_evE_not_1 (C : Cl) (b : Bool) (M1 : Cs) := (.ok (.bl (!b)) M1 : Res D)
@[simp] theorem kt_evE_not_1_eq (C : Cl) (b : Bool) (M1 : Cs) : kt_evE_not_1 C b M1 = (.ok (.bl (!b)) M1 : Res D) := by first | (rw [kt_evE_not_1]; done) | rfl
@[simp] theorem evE_not (C : Cl) a σ M : evE C (ME.not a) σ M = ((evB C a σ M).bind (kt_evE_not_1 C) : Res D) := by
  rw [evE] <;> first | rfl | (cases evS C s σ M <;> rfl)
def kt_evE_and_1 (C : Cl) (b : ME) (σ : En) (x : D) (M1 : Cs) := ((match (rd M1 x).bind truthD with
    | some true => evE C b σ M1
    | some false => .ok x M1
    | none => .bad) : Res D)
@[simp] theorem kt_evE_and_1_eq (C : Cl) (b : ME) (σ : En) (x : D) (M1 : Cs) : kt_evE_and_1 C b σ x M1 = ((match (rd M1 x).bind truthD with
    | some true => evE C b σ M1
    | some false => .ok x M1
    | none => .bad) : Res D) := by first | (rw [kt_evE_and_1]; done) | rfl
@[simp] theorem evE_and (C : Cl) a b σ M : evE C (ME.and a b) σ M = ((evE C a σ M).bind (kt_evE_and_1 C b σ) : Res D) := by
  rw [evE] <;> first | rfl | (cases evS C s σ M <;> rfl)
def kt_evE_or_1 (C : Cl) (b : ME) (σ : En) (x : D) (M1 : Cs) := ((match (rd M1 x).bind truthD with
    | some true => .ok x M1
    | some false => evE C b σ M1
    | none => .bad) : Res D)
@[simp] theorem kt_evE_or_1_eq (C : Cl) (b : ME) (σ : En) (x : D) (M1 : Cs) : kt_evE_or_1 C b σ x M1 = ((match (rd M1 x).bind truthD with
    | some true => .ok x M1
    | some false => evE C b σ M1
    | none => .bad) : Res D) := by first | (rw [kt_evE_or_1]; done) | rfl
@[simp] theorem evE_or (C : Cl) a b σ M : evE C (ME.or a b) σ M = ((evE C a σ M).bind (kt_evE_or_1 C b σ) : Res D) := by
  rw [evE] <;> first | rfl | (cases evS C s σ M <;> rfl)
def kt_evE_cmp_1 (C : Cl) (o : CmpOp) (b : ME) (σ : En) (x : D) (M1 : Cs) := ((evE C b σ M1).bind fun y M2 => opt ((rd M2 x).bind fun x' => (rd M2 y).bind fun y' => (cmpD o x' y').map .bl) M2 : Res D)
def kt_evE_cmp_2 (C : Cl) (o : CmpOp) (x : D) (y : D) (M2 : Cs) := (opt ((rd M2 x).bind fun x' => (rd M2 y).bind fun y' => (cmpD o x' y').map .bl) M2 : Res D)
@[simp] theorem kt_evE_cmp_2_eq (C : Cl) (o : CmpOp) (x : D) (y : D) (M2 : Cs) : kt_evE_cmp_2 C o x y M2 = (opt ((rd M2 x).bind fun x' => (rd M2 y).bind fun y' => (cmpD o x' y').map .bl) M2 : Res D) := by first | (rw [kt_evE_cmp_2]; done) | rfl
@[simp] theorem kt_evE_cmp_1_eq (C : Cl) (o : CmpOp) (b : ME) (σ : En) (x : D) (M1 : Cs) : kt_evE_cmp_1 C o b σ x M1 = ((evE C b σ M1).bind (kt_evE_cmp_2 C o x) : Res D) := by first | (rw [kt_evE_cmp_1]; done) | rfl
@[simp] theorem evE_cmp (C : Cl) o a b σ M : evE C (ME.cmp o a b) σ M = ((evE C a σ M).bind (kt_evE_cmp_1 C o b σ) : Res D) := by
  rw [evE] <;> first | rfl | (cases evS C s σ M <;> rfl)
def kt_evE_chain_1 (C : Cl) (o : CmpOp) (p : CmpOp) (b : ME) (c : ME) (σ : En) (x : D) (M1 : Cs) := ((evE C b σ M1).bind fun y M2 =>
    (match (rd M2 x).bind fun x' => (rd M2 y).bind fun y' => cmpD o x' y' with
    | some true => (evE C c σ M2).bind fun z M3 => opt ((rd M3 y).bind fun y' => (rd M3 z).bind fun z' => (cmpD p y' z').map .bl) M3
    | some false => .ok (.bl false) M2
    | none => .bad) : Res D)
def kt_evE_chain_2 (C : Cl) (o : CmpOp) (p : CmpOp) (c : ME) (σ : En) (x : D) (y : D) (M2 : Cs) := ((match (rd M2 x).bind fun x' => (rd M2 y).bind fun y' => cmpD o x' y' with
    | some true => (evE C c σ M2).bind fun z M3 => opt ((rd M3 y).bind fun y' => (rd M3 z).bind fun z' => (cmpD p y' z').map .bl) M3
    | some false => .ok (.bl false) M2
    | none => .bad) : Res D)
@[simp] theorem kt_evE_chain_2_eq (C : Cl) (o : CmpOp) (p : CmpOp) (c : ME) (σ : En) (x : D) (y : D) (M2 : Cs) : kt_evE_chain_2 C o p c σ x y M2 = ((match (rd M2 x).bind fun x' => (rd M2 y).bind fun y' => cmpD o x' y' with
    | some true => (evE C c σ M2).bind fun z M3 => opt ((rd M3 y).bind fun y' => (rd M3 z).bind fun z' => (cmpD p y' z').map .bl) M3
    | some false => .ok (.bl false) M2
    | none => .bad) : Res D) := by first | (rw [kt_evE_chain_2]; done) | rfl
@[simp] theorem kt_evE_chain_1_eq (C : Cl) (o : CmpOp) (p : CmpOp) (b : ME) (c : ME) (σ : En) (x : D) (M1 : Cs) : kt_evE_chain_1 C o p b c σ x M1 = ((evE C b σ M1).bind (kt_evE_chain_2 C o p c σ x) : Res D) := by first | (rw [kt_evE_chain_1]; done) | rfl
@[simp] theorem evE_chain (C : Cl) o p a b c σ M : evE C (ME.chain o p a b c) σ M = ((evE C a σ M).bind (kt_evE_chain_1 C o p b c σ) : Res D) := by
  rw [evE] <;> first | rfl | (cases evS C s σ M <;> rfl)
def kt_evE_ite_1 (C : Cl) (a : ME) (b : ME) (σ : En) (k : Bool) (M1 : Cs) := (if k = true then evE C a σ M1 else evE C b σ M1 : Res D)
@[simp] theorem kt_evE_ite_1_eq (C : Cl) (a : ME) (b : ME) (σ : En) (k : Bool) (M1 : Cs) : kt_evE_ite_1 C a b σ k M1 = (if k = true then evE C a σ M1 else evE C b σ M1 : Res D) := by first | (rw [kt_evE_ite_1]; done) | rfl
@[simp] theorem evE_ite (C : Cl) c a b σ M : evE C (ME.ite c a b) σ M = ((evB C c σ M).bind (kt_evE_ite_1 C a b σ) : Res D) := by
  rw [evE] <;> first | rfl | (cases evS C s σ M <;> rfl)
def kt_evE_idx_1 (C : Cl) (i : ME) (σ : En) (x : D) (M1 : Cs) := ((evE C i σ M1).bind fun y M2 => opt ((rd M2 x).bind fun x' => (rd M2 y).bind fun y' => idxD x' y') M2 : Res D)
def kt_evE_idx_2 (C : Cl) (x : D) (y : D) (M2 : Cs) := (opt ((rd M2 x).bind fun x' => (rd M2 y).bind fun y' => idxD x' y') M2 : Res D)
@[simp] theorem kt_evE_idx_2_eq (C : Cl) (x : D) (y : D) (M2 : Cs) : kt_evE_idx_2 C x y M2 = (opt ((rd M2 x).bind fun x' => (rd M2 y).bind fun y' => idxD x' y') M2 : Res D) := by first | (rw [kt_evE_idx_2]; done) | rfl
@[simp] theorem kt_evE_idx_1_eq (C : Cl) (i : ME) (σ : En) (x : D) (M1 : Cs) : kt_evE_idx_1 C i σ x M1 = ((evE C i σ M1).bind (kt_evE_idx_2 C x) : Res D) := by first | (rw [kt_evE_idx_1]; done) | rfl
@[simp] theorem evE_idx (C : Cl) a i σ M : evE C (ME.idx a i) σ M = ((evE C a σ M).bind (kt_evE_idx_1 C i σ) : Res D) := by
  rw [evE] <;> first | rfl | (cases evS C s σ M <;> rfl)
def kt_evE_slc_1 (C : Cl) (lo : MO) (hi : MO) (σ : En) (x : D) (M1 : Cs) := ((evO C lo σ M1).bind fun l M3 => (evO C hi σ M3).bind fun u M5 => opt ((rd M5 x).bind fun x' => slcD x' (ptD l) (ptD u) .non) M5 : Res D)
def kt_evE_slc_2 (C : Cl) (hi : MO) (σ : En) (x : D) (l : Option Int) (M3 : Cs) := ((evO C hi σ M3).bind fun u M5 => opt ((rd M5 x).bind fun x' => slcD x' (ptD l) (ptD u) .non) M5 : Res D)
def kt_evE_slc_3 (C : Cl) (x : D) (l : Option Int) (u : Option Int) (M5 : Cs) := (opt ((rd M5 x).bind fun x' => slcD x' (ptD l) (ptD u) .non) M5 : Res D)
@[simp] theorem kt_evE_slc_3_eq (C : Cl) (x : D) (l : Option Int) (u : Option Int) (M5 : Cs) : kt_evE_slc_3 C x l u M5 = (opt ((rd M5 x).bind fun x' => slcD x' (ptD l) (ptD u) .non) M5 : Res D) := by first | (rw [kt_evE_slc_3]; done) | rfl
@[simp] theorem kt_evE_slc_2_eq (C : Cl) (hi : MO) (σ : En) (x : D) (l : Option Int) (M3 : Cs) : kt_evE_slc_2 C hi σ x l M3 = ((evO C hi σ M3).bind (kt_evE_slc_3 C x l) : Res D) := by first | (rw [kt_evE_slc_2]; done) | rfl
@[simp] theorem kt_evE_slc_1_eq (C : Cl) (lo : MO) (hi : MO) (σ : En) (x : D) (M1 : Cs) : kt_evE_slc_1 C lo hi σ x M1 = ((evO C lo σ M1).bind (kt_evE_slc_2 C hi σ x) : Res D) := by first | (rw [kt_evE_slc_1]; done) | rfl
@[simp] theorem evE_slc (C : Cl) a lo hi σ M : evE C (ME.slc a lo hi) σ M = ((evE C a σ M).bind (kt_evE_slc_1 C lo hi σ) : Res D) := by
  rw [evE] <;> first | rfl | (cases evS C s σ M <;> rfl)
def kt_evE_tup_1 (C : Cl) (xs : List D) (M1 : Cs) := (if xs.length ≤ sizeLine then .ok (.tup xs) M1 else .bad : Res D)
@[simp] theorem kt_evE_tup_1_eq (C : Cl) (xs : List D) (M1 : Cs) : kt_evE_tup_1 C xs M1 = (if xs.length ≤ sizeLine then .ok (.tup xs) M1 else .bad : Res D) := by first | (rw [kt_evE_tup_1]; done) | rfl
@[simp] theorem evE_tup (C : Cl) es σ M : evE C (ME.tup es) σ M = ((evEs C es σ M).bind (kt_evE_tup_1 C) : Res D) := by
  rw [evE] <;> first | rfl | (cases evS C s σ M <;> rfl)
def kt_evE_lst_1 (C : Cl) (xs : List D) (M1 : Cs) := (if xs.length ≤ sizeLine then .ok (.lst xs) M1 else .bad : Res D)
@[simp] theorem kt_evE_lst_1_eq (C : Cl) (xs : List D) (M1 : Cs) : kt_evE_lst_1 C xs M1 = (if xs.length ≤ sizeLine then .ok (.lst xs) M1 else .bad : Res D) := by first | (rw [kt_evE_lst_1]; done) | rfl
@[simp] theorem evE_lst (C : Cl) es σ M : evE C (ME.lst es) σ M = ((evEs C es σ M).bind (kt_evE_lst_1 C) : Res D) := by
  rw [evE] <;> first | rfl | (cases evS C s σ M <;> rfl)
def kt_evE_dsp_1 (C : Cl) (t : Bool) (ps : List D × List D) (M1 : Cs) := (if ps.1.all (isKey t) && decide (ps.1.length ≤ 15) then .ok (.dct t (putsD ps.1 ps.2 [] []).1 (putsD ps.1 ps.2 [] []).2) M1 else .bad : Res D)
@[simp] theorem kt_evE_dsp_1_eq (C : Cl) (t : Bool) (ps : List D × List D) (M1 : Cs) : kt_evE_dsp_1 C t ps M1 = (if ps.1.all (isKey t) && decide (ps.1.length ≤ 15) then .ok (.dct t (putsD ps.1 ps.2 [] []).1 (putsD ps.1 ps.2 [] []).2) M1 else .bad : Res D) := by first | (rw [kt_evE_dsp_1]; done) | rfl
@[simp] theorem evE_dsp (C : Cl) t ps σ M : evE C (ME.dsp t ps) σ M = ((evPs C ps σ M).bind (kt_evE_dsp_1 C t) : Res D) := by
  rw [evE] <;> first | rfl | (cases evS C s σ M <;> rfl)
def kt_evE_lc_1 (C : Cl) (own : List Nat) (e : ME) (t : MT) (c : MC) (σ : En) (M : Cs) (ds : List D × List Nat) (M1 : Cs) := ((lcGo ds.2 (fun d M => (evT C t d (wip σ own) M).bind fun σ1 M2 => (evC C c σ1 M2).bind fun b M3 => if b = true then (evE C e σ1 M3).bind fun x M4 => .ok [x] M4 else .ok [] M3) ds.1 [] M1).bind fun xs M2 => .ok (.lst xs) M2 : Res D)
def kt_evE_lc_2 (C : Cl) (own : List Nat) (e : ME) (t : MT) (c : MC) (σ : En) (d : D) (M : Cs) := ((evT C t d (wip σ own) M).bind fun σ1 M2 => (evC C c σ1 M2).bind fun b M3 => if b = true then (evE C e σ1 M3).bind fun x M4 => .ok [x] M4 else .ok [] M3 : Res (List D))
def kt_evE_lc_3 (C : Cl) (e : ME) (c : MC) (σ1 : En) (M2 : Cs) := ((evC C c σ1 M2).bind fun b M3 => if b = true then (evE C e σ1 M3).bind fun x M4 => .ok [x] M4 else .ok [] M3 : Res (List D))
def kt_evE_lc_4 (C : Cl) (e : ME) (σ1 : En) (b : Bool) (M3 : Cs) := (if b = true then (evE C e σ1 M3).bind fun x M4 => .ok [x] M4 else .ok [] M3 : Res (List D))
def kt_evE_lc_5 (C : Cl) (x : D) (M4 : Cs) := (.ok [x] M4 : Res (List D))
@[simp] theorem kt_evE_lc_5_eq (C : Cl) (x : D) (M4 : Cs) : kt_evE_lc_5 C x M4 = (.ok [x] M4 : Res (List D)) := by first | (rw [kt_evE_lc_5]; done) | rfl
@[simp] theorem kt_evE_lc_4_eq (C : Cl) (e : ME) (σ1 : En) (b : Bool) (M3 : Cs) : kt_evE_lc_4 C e σ1 b M3 = (if b = true then (evE C e σ1 M3).bind (kt_evE_lc_5 C) else .ok [] M3 : Res (List D)) := by first | (rw [kt_evE_lc_4]; done) | rfl
@[simp] theorem kt_evE_lc_3_eq (C : Cl) (e : ME) (c : MC) (σ1 : En) (M2 : Cs) : kt_evE_lc_3 C e c σ1 M2 = ((evC C c σ1 M2).bind (kt_evE_lc_4 C e σ1) : Res (List D)) := by first | (rw [kt_evE_lc_3]; done) | rfl
@[simp] theorem kt_evE_lc_2_eq (C : Cl) (own : List Nat) (e : ME) (t : MT) (c : MC) (σ : En) (d : D) (M : Cs) : kt_evE_lc_2 C own e t c σ d M = ((evT C t d (wip σ own) M).bind (kt_evE_lc_3 C e c) : Res (List D)) := by first | (rw [kt_evE_lc_2]; done) | rfl
def kt_evE_lc_6 (C : Cl) (xs : List D) (M2 : Cs) := (.ok (.lst xs) M2 : Res D)
@[simp] theorem kt_evE_lc_6_eq (C : Cl) (xs : List D) (M2 : Cs) : kt_evE_lc_6 C xs M2 = (.ok (.lst xs) M2 : Res D) := by first | (rw [kt_evE_lc_6]; done) | rfl
@[simp] theorem kt_evE_lc_1_eq (C : Cl) (own : List Nat) (e : ME) (t : MT) (c : MC) (σ : En) (M : Cs) (ds : List D × List Nat) (M1 : Cs) : kt_evE_lc_1 C own e t c σ M ds M1 = ((lcGo ds.2 (kt_evE_lc_2 C own e t c σ) ds.1 [] M1).bind (kt_evE_lc_6 C) : Res D) := by first | (rw [kt_evE_lc_1]; done) | rfl
@[simp] theorem evE_lc (C : Cl) own e t it c σ M : evE C (ME.lc own e t it c) σ M = ((evI C it σ M).bind (kt_evE_lc_1 C own e t c σ M) : Res D) := by
  rw [evE] <;> first | rfl | (cases evS C s σ M <;> rfl)
def kt_evE_lc2_1 (C : Cl) (own : List Nat) (own1 : List Nat) (e : ME) (t : MT) (c : MC) (t1 : MT) (it1 : MI) (c1 : MC) (σ : En) (M : Cs) (ds : List D × List Nat) (M1 : Cs) := ((lcGo ds.2 (fun d M => (evT C t d (wip σ own) M).bind fun σ1 M2 => (evC C c σ1 M2).bind fun b M3 => if b = true then
      (evI C it1 σ1 M3).bind fun ds1 M4 => lcGo ds1.2 (fun d1 M => (evT C t1 d1 (wip σ1 own1) M).bind fun σ2 M5 => (evC C c1 σ2 M5).bind fun b1 M6 => if b1 = true then (evE C e σ2 M6).bind fun x M7 => .ok [x] M7 else .ok [] M6) ds1.1 [] M4 else .ok [] M3) ds.1 [] M1).bind fun xs M2 => .ok (.lst xs) M2 : Res D)
def kt_evE_lc2_2 (C : Cl) (own : List Nat) (own1 : List Nat) (e : ME) (t : MT) (c : MC) (t1 : MT) (it1 : MI) (c1 : MC) (σ : En) (d : D) (M : Cs) := ((evT C t d (wip σ own) M).bind fun σ1 M2 => (evC C c σ1 M2).bind fun b M3 => if b = true then
      (evI C it1 σ1 M3).bind fun ds1 M4 => lcGo ds1.2 (fun d1 M => (evT C t1 d1 (wip σ1 own1) M).bind fun σ2 M5 => (evC C c1 σ2 M5).bind fun b1 M6 => if b1 = true then (evE C e σ2 M6).bind fun x M7 => .ok [x] M7 else .ok [] M6) ds1.1 [] M4 else .ok [] M3 : Res (List D))
def kt_evE_lc2_3 (C : Cl) (own1 : List Nat) (e : ME) (c : MC) (t1 : MT) (it1 : MI) (c1 : MC) (M : Cs) (σ1 : En) (M2 : Cs) := ((evC C c σ1 M2).bind fun b M3 => if b = true then
      (evI C it1 σ1 M3).bind fun ds1 M4 => lcGo ds1.2 (fun d1 M => (evT C t1 d1 (wip σ1 own1) M).bind fun σ2 M5 => (evC C c1 σ2 M5).bind fun b1 M6 => if b1 = true then (evE C e σ2 M6).bind fun x M7 => .ok [x] M7 else .ok [] M6) ds1.1 [] M4 else .ok [] M3 : Res (List D))
def kt_evE_lc2_4 (C : Cl) (own1 : List Nat) (e : ME) (t1 : MT) (it1 : MI) (c1 : MC) (M : Cs) (σ1 : En) (b : Bool) (M3 : Cs) := (if b = true then
      (evI C it1 σ1 M3).bind fun ds1 M4 => lcGo ds1.2 (fun d1 M => (evT C t1 d1 (wip σ1 own1) M).bind fun σ2 M5 => (evC C c1 σ2 M5).bind fun b1 M6 => if b1 = true then (evE C e σ2 M6).bind fun x M7 => .ok [x] M7 else .ok [] M6) ds1.1 [] M4 else .ok [] M3 : Res (List D))
def kt_evE_lc2_5 (C : Cl) (own1 : List Nat) (e : ME) (t1 : MT) (c1 : MC) (M : Cs) (σ1 : En) (ds1 : List D × List Nat) (M4 : Cs) := (lcGo ds1.2 (fun d1 M => (evT C t1 d1 (wip σ1 own1) M).bind fun σ2 M5 => (evC C c1 σ2 M5).bind fun b1 M6 => if b1 = true then (evE C e σ2 M6).bind fun x M7 => .ok [x] M7 else .ok [] M6) ds1.1 [] M4 : Res (List D))
def kt_evE_lc2_6 (C : Cl) (own1 : List Nat) (e : ME) (t1 : MT) (c1 : MC) (σ1 : En) (d1 : D) (M : Cs) := ((evT C t1 d1 (wip σ1 own1) M).bind fun σ2 M5 => (evC C c1 σ2 M5).bind fun b1 M6 => if b1 = true then (evE C e σ2 M6).bind fun x M7 => .ok [x] M7 else .ok [] M6 : Res (List D))
def kt_evE_lc2_7 (C : Cl) (e : ME) (c1 : MC) (σ2 : En) (M5 : Cs) := ((evC C c1 σ2 M5).bind fun b1 M6 => if b1 = true then (evE C e σ2 M6).bind fun x M7 => .ok [x] M7 else .ok [] M6 : Res (List D))
def kt_evE_lc2_8 (C : Cl) (e : ME) (σ2 : En) (b1 : Bool) (M6 : Cs) := (if b1 = true then (evE C e σ2 M6).bind fun x M7 => .ok [x] M7 else .ok [] M6 : Res (List D))
def kt_evE_lc2_9 (C : Cl) (x : D) (M7 : Cs) := (.ok [x] M7 : Res (List D))
@[simp] theorem kt_evE_lc2_9_eq (C : Cl) (x : D) (M7 : Cs) : kt_evE_lc2_9 C x M7 = (.ok [x] M7 : Res (List D)) := by first | (rw [kt_evE_lc2_9]; done) | rfl
@[simp] theorem kt_evE_lc2_8_eq (C : Cl) (e : ME) (σ2 : En) (b1 : Bool) (M6 : Cs) : kt_evE_lc2_8 C e σ2 b1 M6 = (if b1 = true then (evE C e σ2 M6).bind (kt_evE_lc2_9 C) else .ok [] M6 : Res (List D)) := by first | (rw [kt_evE_lc2_8]; done) | rfl
@[simp] theorem kt_evE_lc2_7_eq (C : Cl) (e : ME) (c1 : MC) (σ2 : En) (M5 : Cs) : kt_evE_lc2_7 C e c1 σ2 M5 = ((evC C c1 σ2 M5).bind (kt_evE_lc2_8 C e σ2) : Res (List D)) := by first | (rw [kt_evE_lc2_7]; done) | rfl
@[simp] theorem kt_evE_lc2_6_eq (C : Cl) (own1 : List Nat) (e : ME) (t1 : MT) (c1 : MC) (σ1 : En) (d1 : D) (M : Cs) : kt_evE_lc2_6 C own1 e t1 c1 σ1 d1 M = ((evT C t1 d1 (wip σ1 own1) M).bind (kt_evE_lc2_7 C e c1) : Res (List D)) := by first | (rw [kt_evE_lc2_6]; done) | rfl
@[simp] theorem kt_evE_lc2_5_eq (C : Cl) (own1 : List Nat) (e : ME) (t1 : MT) (c1 : MC) (M : Cs) (σ1 : En) (ds1 : List D × List Nat) (M4 : Cs) : kt_evE_lc2_5 C own1 e t1 c1 M σ1 ds1 M4 = (lcGo ds1.2 (kt_evE_lc2_6 C own1 e t1 c1 σ1) ds1.1 [] M4 : Res (List D)) := by first | (rw [kt_evE_lc2_5]; done) | rfl
@[simp] theorem kt_evE_lc2_4_eq (C : Cl) (own1 : List Nat) (e : ME) (t1 : MT) (it1 : MI) (c1 : MC) (M : Cs) (σ1 : En) (b : Bool) (M3 : Cs) : kt_evE_lc2_4 C own1 e t1 it1 c1 M σ1 b M3 = (if b = true then (evI C it1 σ1 M3).bind (kt_evE_lc2_5 C own1 e t1 c1 M σ1) else .ok [] M3 : Res (List D)) := by first | (rw [kt_evE_lc2_4]; done) | rfl
@[simp] theorem kt_evE_lc2_3_eq (C : Cl) (own1 : List Nat) (e : ME) (c : MC) (t1 : MT) (it1 : MI) (c1 : MC) (M : Cs) (σ1 : En) (M2 : Cs) : kt_evE_lc2_3 C own1 e c t1 it1 c1 M σ1 M2 = ((evC C c σ1 M2).bind (kt_evE_lc2_4 C own1 e t1 it1 c1 M σ1) : Res (List D)) := by first | (rw [kt_evE_lc2_3]; done) | rfl
@[simp] theorem kt_evE_lc2_2_eq (C : Cl) (own : List Nat) (own1 : List Nat) (e : ME) (t : MT) (c : MC) (t1 : MT) (it1 : MI) (c1 : MC) (σ : En) (d : D) (M : Cs) : kt_evE_lc2_2 C own own1 e t c t1 it1 c1 σ d M = ((evT C t d (wip σ own) M).bind (kt_evE_lc2_3 C own1 e c t1 it1 c1 M) : Res (List D)) := by first | (rw [kt_evE_lc2_2]; done) | rfl
def kt_evE_lc2_10 (C : Cl) (xs : List D) (M2 : Cs) := (.ok (.lst xs) M2 : Res D)
@[simp] theorem kt_evE_lc2_10_eq (C : Cl) (xs : List D) (M2 : Cs) : kt_evE_lc2_10 C xs M2 = (.ok (.lst xs) M2 : Res D) := by first | (rw [kt_evE_lc2_10]; done) | rfl
@[simp] theorem kt_evE_lc2_1_eq (C : Cl) (own : List Nat) (own1 : List Nat) (e : ME) (t : MT) (c : MC) (t1 : MT) (it1 : MI) (c1 : MC) (σ : En) (M : Cs) (ds : List D × List Nat) (M1 : Cs) : kt_evE_lc2_1 C own own1 e t c t1 it1 c1 σ M ds M1 = ((lcGo ds.2 (kt_evE_lc2_2 C own own1 e t c t1 it1 c1 σ) ds.1 [] M1).bind (kt_evE_lc2_10 C) : Res D) := by first | (rw [kt_evE_lc2_1]; done) | rfl
@[simp] theorem evE_lc2 (C : Cl) own own1 e t it c t1 it1 c1 σ M : evE C (ME.lc2 own own1 e t it c t1 it1 c1) σ M = ((evI C it σ M).bind (kt_evE_lc2_1 C own own1 e t c t1 it1 c1 σ M) : Res D) := by
  rw [evE] <;> first | rfl | (cases evS C s σ M <;> rfl)
def kt_evE_dc_1 (C : Cl) (b : Bool) (own : List Nat) (k : ME) (v : ME) (t : MT) (c : MC) (σ : En) (M : Cs) (ds : List D × List Nat) (M1 : Cs) := ((dcGo b ds.2 (fun d M => (evT C t d (wip σ own) M).bind fun σ1 M2 => (evC C c σ1 M2).bind fun q M3 => if q = true then (evE C k σ1 M3).bind fun x M4 => (evE C v σ1 M4).bind fun y M5 => .ok (some (x, y)) M5 else .ok none M3) ds.1 [] [] M1).bind fun p M2 => .ok (.dct b p.1 p.2) M2 : Res D)
def kt_evE_dc_2 (C : Cl) (own : List Nat) (k : ME) (v : ME) (t : MT) (c : MC) (σ : En) (d : D) (M : Cs) := ((evT C t d (wip σ own) M).bind fun σ1 M2 => (evC C c σ1 M2).bind fun q M3 => if q = true then (evE C k σ1 M3).bind fun x M4 => (evE C v σ1 M4).bind fun y M5 => .ok (some (x, y)) M5 else .ok none M3 : Res (Option (D × D)))
def kt_evE_dc_3 (C : Cl) (k : ME) (v : ME) (c : MC) (σ1 : En) (M2 : Cs) := ((evC C c σ1 M2).bind fun q M3 => if q = true then (evE C k σ1 M3).bind fun x M4 => (evE C v σ1 M4).bind fun y M5 => .ok (some (x, y)) M5 else .ok none M3 : Res (Option (D × D)))
def kt_evE_dc_4 (C : Cl) (k : ME) (v : ME) (σ1 : En) (q : Bool) (M3 : Cs) := (if q = true then (evE C k σ1 M3).bind fun x M4 => (evE C v σ1 M4).bind fun y M5 => .ok (some (x, y)) M5 else .ok none M3 : Res (Option (D × D)))
def kt_evE_dc_5 (C : Cl) (v : ME) (σ1 : En) (x : D) (M4 : Cs) := ((evE C v σ1 M4).bind fun y M5 => .ok (some (x, y)) M5 : Res (Option (D × D)))
def kt_evE_dc_6 (C : Cl) (x : D) (y : D) (M5 : Cs) := (.ok (some (x, y)) M5 : Res (Option (D × D)))
@[simp] theorem kt_evE_dc_6_eq (C : Cl) (x : D) (y : D) (M5 : Cs) : kt_evE_dc_6 C x y M5 = (.ok (some (x, y)) M5 : Res (Option (D × D))) := by first | (rw [kt_evE_dc_6]; done) | rfl
@[simp] theorem kt_evE_dc_5_eq (C : Cl) (v : ME) (σ1 : En) (x : D) (M4 : Cs) : kt_evE_dc_5 C v σ1 x M4 = ((evE C v σ1 M4).bind (kt_evE_dc_6 C x) : Res (Option (D × D))) := by first | (rw [kt_evE_dc_5]; done) | rfl
@[simp] theorem kt_evE_dc_4_eq (C : Cl) (k : ME) (v : ME) (σ1 : En) (q : Bool) (M3 : Cs) : kt_evE_dc_4 C k v σ1 q M3 = (if q = true then (evE C k σ1 M3).bind (kt_evE_dc_5 C v σ1) else .ok none M3 : Res (Option (D × D))) := by first | (rw [kt_evE_dc_4]; done) | rfl
@[simp] theorem kt_evE_dc_3_eq (C : Cl) (k : ME) (v : ME) (c : MC) (σ1 : En) (M2 : Cs) : kt_evE_dc_3 C k v c σ1 M2 = ((evC C c σ1 M2).bind (kt_evE_dc_4 C k v σ1) : Res (Option (D × D))) := by first | (rw [kt_evE_dc_3]; done) | rfl
@[simp] theorem kt_evE_dc_2_eq (C : Cl) (own : List Nat) (k : ME) (v : ME) (t : MT) (c : MC) (σ : En) (d : D) (M : Cs) : kt_evE_dc_2 C own k v t c σ d M = ((evT C t d (wip σ own) M).bind (kt_evE_dc_3 C k v c) : Res (Option (D × D))) := by first | (rw [kt_evE_dc_2]; done) | rfl
def kt_evE_dc_7 (C : Cl) (b : Bool) (p : List D × List D) (M2 : Cs) := (.ok (.dct b p.1 p.2) M2 : Res D)
@[simp] theorem kt_evE_dc_7_eq (C : Cl) (b : Bool) (p : List D × List D) (M2 : Cs) : kt_evE_dc_7 C b p M2 = (.ok (.dct b p.1 p.2) M2 : Res D) := by first | (rw [kt_evE_dc_7]; done) | rfl
@[simp] theorem kt_evE_dc_1_eq (C : Cl) (b : Bool) (own : List Nat) (k : ME) (v : ME) (t : MT) (c : MC) (σ : En) (M : Cs) (ds : List D × List Nat) (M1 : Cs) : kt_evE_dc_1 C b own k v t c σ M ds M1 = ((dcGo b ds.2 (kt_evE_dc_2 C own k v t c σ) ds.1 [] [] M1).bind (kt_evE_dc_7 C b) : Res D) := by first | (rw [kt_evE_dc_1]; done) | rfl
@[simp] theorem evE_dc (C : Cl) b own k v t it c σ M : evE C (ME.dc b own k v t it c) σ M = ((evI C it σ M).bind (kt_evE_dc_1 C b own k v t c σ M) : Res D) := by
  rw [evE] <;> first | rfl | (cases evS C s σ M <;> rfl)
def kt_evE_call_1 (C : Cl) (f : Nat) (ks : MEs) (perm : List Nat) (σ : En) (xs : List D) (M1 : Cs) := ((evEs C ks σ M1).bind fun ys M2 => C.call f (permD perm (xs ++ ys)) M2 : Res D)
def kt_evE_call_2 (C : Cl) (f : Nat) (perm : List Nat) (xs : List D) (ys : List D) (M2 : Cs) := (C.call f (permD perm (xs ++ ys)) M2 : Res D)
@[simp] theorem kt_evE_call_2_eq (C : Cl) (f : Nat) (perm : List Nat) (xs : List D) (ys : List D) (M2 : Cs) : kt_evE_call_2 C f perm xs ys M2 = (C.call f (permD perm (xs ++ ys)) M2 : Res D) := by first | (rw [kt_evE_call_2]; done) | rfl
@[simp] theorem kt_evE_call_1_eq (C : Cl) (f : Nat) (ks : MEs) (perm : List Nat) (σ : En) (xs : List D) (M1 : Cs) : kt_evE_call_1 C f ks perm σ xs M1 = ((evEs C ks σ M1).bind (kt_evE_call_2 C f perm xs) : Res D) := by first | (rw [kt_evE_call_1]; done) | rfl
@[simp] theorem evE_call (C : Cl) f es ks perm σ M : evE C (ME.call f es ks perm) σ M = ((evEs C es σ M).bind (kt_evE_call_1 C f ks perm σ) : Res D) := by
  rw [evE] <;> first | rfl | (cases evS C s σ M <;> rfl)
def kt_evE_blt_1 (C : Cl) (b : Bf) (xs : List D) (M1 : Cs) := (opt ((rds M1 xs).bind (bltD b)) M1 : Res D)
@[simp] theorem kt_evE_blt_1_eq (C : Cl) (b : Bf) (xs : List D) (M1 : Cs) : kt_evE_blt_1 C b xs M1 = (opt ((rds M1 xs).bind (bltD b)) M1 : Res D) := by first | (rw [kt_evE_blt_1]; done) | rfl
@[simp] theorem evE_blt (C : Cl) b es σ M : evE C (ME.blt b es) σ M = ((evEs C es σ M).bind (kt_evE_blt_1 C b) : Res D) := by
  rw [evE] <;> first | rfl | (cases evS C s σ M <;> rfl)
def kt_evE_lrng_1 (C : Cl) (b : ME) (σ : En) (x : D) (M1 : Cs) := ((evE C b σ M1).bind fun y M2 => opt ((rngD x y).bind fun xs => if xs.length ≤ sizeLine then some (.lst xs) else none) M2 : Res D)
def kt_evE_lrng_2 (C : Cl) (x : D) (y : D) (M2 : Cs) := (opt ((rngD x y).bind fun xs => if xs.length ≤ sizeLine then some (.lst xs) else none) M2 : Res D)
@[simp] theorem kt_evE_lrng_2_eq (C : Cl) (x : D) (y : D) (M2 : Cs) : kt_evE_lrng_2 C x y M2 = (opt ((rngD x y).bind fun xs => if xs.length ≤ sizeLine then some (.lst xs) else none) M2 : Res D) := by first | (rw [kt_evE_lrng_2]; done) | rfl
@[simp] theorem kt_evE_lrng_1_eq (C : Cl) (b : ME) (σ : En) (x : D) (M1 : Cs) : kt_evE_lrng_1 C b σ x M1 = ((evE C b σ M1).bind (kt_evE_lrng_2 C x) : Res D) := by first | (rw [kt_evE_lrng_1]; done) | rfl
@[simp] theorem evE_lrng (C : Cl) a b σ M : evE C (ME.lrng a b) σ M = ((evE C a σ M).bind (kt_evE_lrng_1 C b σ) : Res D) := by
  rw [evE] <;> first | rfl | (cases evS C s σ M <;> rfl)
def kt_evE_isa_1 (C : Cl) (t : Ty) (x : D) (M1 : Cs) := (opt ((rd M1 x).bind fun x' => (isaD x' t).map .bl) M1 : Res D)
@[simp] theorem kt_evE_isa_1_eq (C : Cl) (t : Ty) (x : D) (M1 : Cs) : kt_evE_isa_1 C t x M1 = (opt ((rd M1 x).bind fun x' => (isaD x' t).map .bl) M1 : Res D) := by first | (rw [kt_evE_isa_1]; done) | rfl
@[simp] theorem evE_isa (C : Cl) e t σ M : evE C (ME.isa e t) σ M = ((evE C e σ M).bind (kt_evE_isa_1 C t) : Res D) := by
  rw [evE] <;> first | rfl | (cases evS C s σ M <;> rfl)
def kt_evE_met_1 (C : Cl) (m : Mf) (es : MEs) (σ : En) (x : D) (M1 : Cs) := (if okM m (rd M1 x) then (evEs C es σ M1).bind fun xs M2 => opt ((rd M2 x).bind fun x' => (rds M2 xs).bind (metD m x')) M2 else .bad : Res D)
@[simp] theorem kt_evE_met_1_eq (C : Cl) (m : Mf) (es : MEs) (σ : En) (x : D) (M1 : Cs) : kt_evE_met_1 C m es σ x M1 = (if okM m (rd M1 x) then (evEs C es σ M1).bind fun xs M2 => opt ((rd M2 x).bind fun x' => (rds M2 xs).bind (metD m x')) M2 else .bad : Res D) := by first | (rw [kt_evE_met_1]; done) | rfl
@[simp] theorem evE_met (C : Cl) m o es σ M : evE C (ME.met m o es) σ M = ((evE C o σ M).bind (kt_evE_met_1 C m es σ) : Res D) := by
  rw [evE] <;> first | rfl | (cases evS C s σ M <;> rfl)
def kt_evE_mut_1 (C : Cl) (m : Mu) (es : MEs) (σ : En) (x : D) (M1 : Cs) := (if okL (rd M1 x) then (evEs C es σ M1).bind fun xs M2 => (match x with
    | .cell n => if frees 0 xs then (match (rd M2 x).bind fun x' => mutD m x' xs with
      | some (y, v) => .ok v (M2.set n (some y))
      | none => .bad) else .bad
    | _ => .bad) else .bad : Res D)
@[simp] theorem kt_evE_mut_1_eq (C : Cl) (m : Mu) (es : MEs) (σ : En) (x : D) (M1 : Cs) : kt_evE_mut_1 C m es σ x M1 = (if okL (rd M1 x) then (evEs C es σ M1).bind fun xs M2 => (match x with
    | .cell n => if frees 0 xs then (match (rd M2 x).bind fun x' => mutD m x' xs with
      | some (y, v) => .ok v (M2.set n (some y))
      | none => .bad) else .bad
    | _ => .bad) else .bad : Res D) := by first | (rw [kt_evE_mut_1]; done) | rfl
@[simp] theorem evE_mut (C : Cl) m o es σ M : evE C (ME.mut m o es) σ M = ((evE C o σ M).bind (kt_evE_mut_1 C m es σ) : Res D) := by
  rw [evE] <;> first | rfl | (cases evS C s σ M <;> rfl)
def kt_evE_new_1 (C : Cl) (x : D) (M1 : Cs) := ((match x with
    | .lst xs => if frees 0 xs then .ok (.cell M1.length) (M1 ++ [some (.lst xs)]) else .bad
    | .dct t ks vs => if frees 0 ks && frees 0 vs then .ok (.cell M1.length) (M1 ++ [some (.dct t ks vs)]) else .bad
    | _ => .bad) : Res D)
@[simp] theorem kt_evE_new_1_eq (C : Cl) (x : D) (M1 : Cs) : kt_evE_new_1 C x M1 = ((match x with
    | .lst xs => if frees 0 xs then .ok (.cell M1.length) (M1 ++ [some (.lst xs)]) else .bad
    | .dct t ks vs => if frees 0 ks && frees 0 vs then .ok (.cell M1.length) (M1 ++ [some (.dct t ks vs)]) else .bad
    | _ => .bad) : Res D) := by first | (rw [kt_evE_new_1]; done) | rfl
@[simp] theorem evE_new (C : Cl) e σ M : evE C (ME.new e) σ M = ((evE C e σ M).bind (kt_evE_new_1 C) : Res D) := by
  rw [evE] <;> first | rfl | (cases evS C s σ M <;> rfl)
def kt_evE_frz_1 (C : Cl) (x : D) (M1 : Cs) := ((match x with
    | .cell n => (match rd M1 x with
      | some d => .ok d (M1.set n none)
      | none => .bad)
    | _ => .ok x M1) : Res D)
@[simp] theorem kt_evE_frz_1_eq (C : Cl) (x : D) (M1 : Cs) : kt_evE_frz_1 C x M1 = ((match x with
    | .cell n => (match rd M1 x with
      | some d => .ok d (M1.set n none)
      | none => .bad)
    | _ => .ok x M1) : Res D) := by first | (rw [kt_evE_frz_1]; done) | rfl
@[simp] theorem evE_frz (C : Cl) e σ M : evE C (ME.frz e) σ M = ((evE C e σ M).bind (kt_evE_frz_1 C) : Res D) := by
  rw [evE] <;> first | rfl | (cases evS C s σ M <;> rfl)
def kt_evE_rev_1 (C : Cl) (x : D) (M1 : Cs) := (opt ((rd M1 x).bind revD) M1 : Res D)
@[simp] theorem kt_evE_rev_1_eq (C : Cl) (x : D) (M1 : Cs) : kt_evE_rev_1 C x M1 = (opt ((rd M1 x).bind revD) M1 : Res D) := by first | (rw [kt_evE_rev_1]; done) | rfl
@[simp] theorem evE_rev (C : Cl) a σ M : evE C (ME.rev a) σ M = ((evE C a σ M).bind (kt_evE_rev_1 C) : Res D) := by
  rw [evE] <;> first | rfl | (cases evS C s σ M <;> rfl)
def kt_evE_dput_1 (C : Cl) (k : ME) (v : ME) (σ : En) (x : D) (M1 : Cs) := ((evE C k σ M1).bind fun y M2 => (evE C v σ M2).bind fun z M3 => opt ((rd M3 x).bind fun x' => (match x' with
    | .dct _ _ _ => setD x' y z
    | _ => none)) M3 : Res D)
def kt_evE_dput_2 (C : Cl) (v : ME) (σ : En) (x : D) (y : D) (M2 : Cs) := ((evE C v σ M2).bind fun z M3 => opt ((rd M3 x).bind fun x' => (match x' with
    | .dct _ _ _ => setD x' y z
    | _ => none)) M3 : Res D)
def kt_evE_dput_3 (C : Cl) (x : D) (y : D) (z : D) (M3 : Cs) := (opt ((rd M3 x).bind fun x' => (match x' with
    | .dct _ _ _ => setD x' y z
    | _ => none)) M3 : Res D)
@[simp] theorem kt_evE_dput_3_eq (C : Cl) (x : D) (y : D) (z : D) (M3 : Cs) : kt_evE_dput_3 C x y z M3 = (opt ((rd M3 x).bind fun x' => (match x' with
    | .dct _ _ _ => setD x' y z
    | _ => none)) M3 : Res D) := by first | (rw [kt_evE_dput_3]; done) | rfl
@[simp] theorem kt_evE_dput_2_eq (C : Cl) (v : ME) (σ : En) (x : D) (y : D) (M2 : Cs) : kt_evE_dput_2 C v σ x y M2 = ((evE C v σ M2).bind (kt_evE_dput_3 C x y) : Res D) := by first | (rw [kt_evE_dput_2]; done) | rfl
@[simp] theorem kt_evE_dput_1_eq (C : Cl) (k : ME) (v : ME) (σ : En) (x : D) (M1 : Cs) : kt_evE_dput_1 C k v σ x M1 = ((evE C k σ M1).bind (kt_evE_dput_2 C v σ x) : Res D) := by first | (rw [kt_evE_dput_1]; done) | rfl
@[simp] theorem evE_dput (C : Cl) a k v σ M : evE C (ME.dput a k v) σ M = ((evE C a σ M).bind (kt_evE_dput_1 C k v σ) : Res D) := by
  rw [evE] <;> first | rfl | (cases evS C s σ M <;> rfl)
def kt_evE_sset_1 (C : Cl) (x : D) (M1 : Cs) := (opt ((rd M1 x).bind ssetD) M1 : Res D)
@[simp] theorem kt_evE_sset_1_eq (C : Cl) (x : D) (M1 : Cs) : kt_evE_sset_1 C x M1 = (opt ((rd M1 x).bind ssetD) M1 : Res D) := by first | (rw [kt_evE_sset_1]; done) | rfl
@[simp] theorem evE_sset (C : Cl) a σ M : evE C (ME.sset a) σ M = ((evE C a σ M).bind (kt_evE_sset_1 C) : Res D) := by
  rw [evE] <;> first | rfl | (cases evS C s σ M <;> rfl)
def kt_evE_dzip_1 (C : Cl) (t : Bool) (b : ME) (σ : En) (x : D) (M1 : Cs) := ((evE C b σ M1).bind fun y M2 => opt ((itemsD M2 x).bind fun xs => (itemsD M2 y).bind fun ys => dzipD t xs ys) M2 : Res D)
def kt_evE_dzip_2 (C : Cl) (t : Bool) (x : D) (y : D) (M2 : Cs) := (opt ((itemsD M2 x).bind fun xs => (itemsD M2 y).bind fun ys => dzipD t xs ys) M2 : Res D)
@[simp] theorem kt_evE_dzip_2_eq (C : Cl) (t : Bool) (x : D) (y : D) (M2 : Cs) : kt_evE_dzip_2 C t x y M2 = (opt ((itemsD M2 x).bind fun xs => (itemsD M2 y).bind fun ys => dzipD t xs ys) M2 : Res D) := by first | (rw [kt_evE_dzip_2]; done) | rfl
@[simp] theorem kt_evE_dzip_1_eq (C : Cl) (t : Bool) (b : ME) (σ : En) (x : D) (M1 : Cs) : kt_evE_dzip_1 C t b σ x M1 = ((evE C b σ M1).bind (kt_evE_dzip_2 C t x) : Res D) := by first | (rw [kt_evE_dzip_1]; done) | rfl
@[simp] theorem evE_dzip (C : Cl) t a b σ M : evE C (ME.dzip t a b) σ M = ((evE C a σ M).bind (kt_evE_dzip_1 C t b σ) : Res D) := by
  rw [evE] <;> first | rfl | (cases evS C s σ M <;> rfl)
def kt_evB_not_1 (C : Cl) (b : Bool) (M1 : Cs) := (.ok (!b) M1 : Res Bool)
@[simp] theorem kt_evB_not_1_eq (C : Cl) (b : Bool) (M1 : Cs) : kt_evB_not_1 C b M1 = (.ok (!b) M1 : Res Bool) := by first | (rw [kt_evB_not_1]; done) | rfl
@[simp] theorem evB_not (C : Cl) a σ M : evB C (MB.not a) σ M = ((evB C a σ M).bind (kt_evB_not_1 C) : Res Bool) := by
  rw [evB] <;> first | rfl | (cases evS C s σ M <;> rfl)
def kt_evB_and_1 (C : Cl) (b : MB) (σ : En) (k : Bool) (M1 : Cs) := (if k = true then evB C b σ M1 else .ok false M1 : Res Bool)
@[simp] theorem kt_evB_and_1_eq (C : Cl) (b : MB) (σ : En) (k : Bool) (M1 : Cs) : kt_evB_and_1 C b σ k M1 = (if k = true then evB C b σ M1 else .ok false M1 : Res Bool) := by first | (rw [kt_evB_and_1]; done) | rfl
@[simp] theorem evB_and (C : Cl) a b σ M : evB C (MB.and a b) σ M = ((evB C a σ M).bind (kt_evB_and_1 C b σ) : Res Bool) := by
  rw [evB] <;> first | rfl | (cases evS C s σ M <;> rfl)
def kt_evB_or_1 (C : Cl) (b : MB) (σ : En) (k : Bool) (M1 : Cs) := (if k = true then .ok true M1 else evB C b σ M1 : Res Bool)
@[simp] theorem kt_evB_or_1_eq (C : Cl) (b : MB) (σ : En) (k : Bool) (M1 : Cs) : kt_evB_or_1 C b σ k M1 = (if k = true then .ok true M1 else evB C b σ M1 : Res Bool) := by first | (rw [kt_evB_or_1]; done) | rfl
@[simp] theorem evB_or (C : Cl) a b σ M : evB C (MB.or a b) σ M = ((evB C a σ M).bind (kt_evB_or_1 C b σ) : Res Bool) := by
  rw [evB] <;> first | rfl | (cases evS C s σ M <;> rfl)
def kt_evB_tru_1 (C : Cl) (x : D) (M1 : Cs) := (opt ((rd M1 x).bind truthD) M1 : Res Bool)
@[simp] theorem kt_evB_tru_1_eq (C : Cl) (x : D) (M1 : Cs) : kt_evB_tru_1 C x M1 = (opt ((rd M1 x).bind truthD) M1 : Res Bool) := by first | (rw [kt_evB_tru_1]; done) | rfl
@[simp] theorem evB_tru (C : Cl) e σ M : evB C (MB.tru e) σ M = ((evE C e σ M).bind (kt_evB_tru_1 C) : Res Bool) := by
  rw [evB] <;> first | rfl | (cases evS C s σ M <;> rfl)
@[simp] theorem evEs_nil (C : Cl) u0 M : evEs C (MEs.nil) u0 M = (.ok [] M : Res (List D)) := by
  rw [evEs] <;> first | rfl | (cases evS C s σ M <;> rfl)
def kt_evEs_cons_1 (C : Cl) (r : MEs) (σ : En) (x : D) (M1 : Cs) := ((evEs C r σ M1).bind fun xs M2 => .ok (x :: xs) M2 : Res (List D))
def kt_evEs_cons_2 (C : Cl) (x : D) (xs : List D) (M2 : Cs) := (.ok (x :: xs) M2 : Res (List D))
@[simp] theorem kt_evEs_cons_2_eq (C : Cl) (x : D) (xs : List D) (M2 : Cs) : kt_evEs_cons_2 C x xs M2 = (.ok (x :: xs) M2 : Res (List D)) := by first | (rw [kt_evEs_cons_2]; done) | rfl
@[simp] theorem kt_evEs_cons_1_eq (C : Cl) (r : MEs) (σ : En) (x : D) (M1 : Cs) : kt_evEs_cons_1 C r σ x M1 = ((evEs C r σ M1).bind (kt_evEs_cons_2 C x) : Res (List D)) := by first | (rw [kt_evEs_cons_1]; done) | rfl
@[simp] theorem evEs_cons (C : Cl) e r σ M : evEs C (MEs.cons e r) σ M = ((evE C e σ M).bind (kt_evEs_cons_1 C r σ) : Res (List D)) := by
  rw [evEs] <;> first | rfl | (cases evS C s σ M <;> rfl)
def kt_evEs_star_1 (C : Cl) (r : MEs) (σ : En) (x : D) (M1 : Cs) := ((match rd M1 x with
    | some (.tup ys) => (evEs C r σ M1).bind fun xs M2 => .ok (ys ++ xs) M2
    | some (.lst ys) => (evEs C r σ M1).bind fun xs M2 => .ok (ys ++ xs) M2
    | _ => .bad) : Res (List D))
@[simp] theorem kt_evEs_star_1_eq (C : Cl) (r : MEs) (σ : En) (x : D) (M1 : Cs) : kt_evEs_star_1 C r σ x M1 = ((match rd M1 x with
    | some (.tup ys) => (evEs C r σ M1).bind fun xs M2 => .ok (ys ++ xs) M2
    | some (.lst ys) => (evEs C r σ M1).bind fun xs M2 => .ok (ys ++ xs) M2
    | _ => .bad) : Res (List D)) := by first | (rw [kt_evEs_star_1]; done) | rfl
@[simp] theorem evEs_star (C : Cl) e r σ M : evEs C (MEs.star e r) σ M = ((evE C e σ M).bind (kt_evEs_star_1 C r σ) : Res (List D)) := by
  rw [evEs] <;> first | rfl | (cases evS C s σ M <;> rfl)
@[simp] theorem evPs_nil (C : Cl) u0 M : evPs C (MPs.nil) u0 M = (.ok ([], []) M : Res (List D × List D)) := by
  rw [evPs] <;> first | rfl | (cases evS C s σ M <;> rfl)
def kt_evPs_cons_1 (C : Cl) (v : ME) (r : MPs) (σ : En) (x : D) (M1 : Cs) := ((evE C v σ M1).bind fun y M2 => (evPs C r σ M2).bind fun p M3 => .ok (x :: p.1, y :: p.2) M3 : Res (List D × List D))
def kt_evPs_cons_2 (C : Cl) (r : MPs) (σ : En) (x : D) (y : D) (M2 : Cs) := ((evPs C r σ M2).bind fun p M3 => .ok (x :: p.1, y :: p.2) M3 : Res (List D × List D))
def kt_evPs_cons_3 (C : Cl) (x : D) (y : D) (p : List D × List D) (M3 : Cs) := (.ok (x :: p.1, y :: p.2) M3 : Res (List D × List D))
@[simp] theorem kt_evPs_cons_3_eq (C : Cl) (x : D) (y : D) (p : List D × List D) (M3 : Cs) : kt_evPs_cons_3 C x y p M3 = (.ok (x :: p.1, y :: p.2) M3 : Res (List D × List D)) := by first | (rw [kt_evPs_cons_3]; done) | rfl
@[simp] theorem kt_evPs_cons_2_eq (C : Cl) (r : MPs) (σ : En) (x : D) (y : D) (M2 : Cs) : kt_evPs_cons_2 C r σ x y M2 = ((evPs C r σ M2).bind (kt_evPs_cons_3 C x y) : Res (List D × List D)) := by first | (rw [kt_evPs_cons_2]; done) | rfl
@[simp] theorem kt_evPs_cons_1_eq (C : Cl) (v : ME) (r : MPs) (σ : En) (x : D) (M1 : Cs) : kt_evPs_cons_1 C v r σ x M1 = ((evE C v σ M1).bind (kt_evPs_cons_2 C r σ x) : Res (List D × List D)) := by first | (rw [kt_evPs_cons_1]; done) | rfl
@[simp] theorem evPs_cons (C : Cl) k v r σ M : evPs C (MPs.cons k v r) σ M = ((evE C k σ M).bind (kt_evPs_cons_1 C v r σ) : Res (List D × List D)) := by
  rw [evPs] <;> first | rfl | (cases evS C s σ M <;> rfl)
@[simp] theorem evO_nil (C : Cl) u0 M : evO C (MO.nil) u0 M = (.ok none M : Res (Option Int)) := by
  rw [evO] <;> first | rfl | (cases evS C s σ M <;> rfl)
def kt_evO_one_1 (C : Cl) (x : D) (M1 : Cs) := (opt (intD? x) M1 : Res (Option Int))
@[simp] theorem kt_evO_one_1_eq (C : Cl) (x : D) (M1 : Cs) : kt_evO_one_1 C x M1 = (opt (intD? x) M1 : Res (Option Int)) := by first | (rw [kt_evO_one_1]; done) | rfl
@[simp] theorem evO_one (C : Cl) e σ M : evO C (MO.one e) σ M = ((evE C e σ M).bind (kt_evO_one_1 C) : Res (Option Int)) := by
  rw [evO] <;> first | rfl | (cases evS C s σ M <;> rfl)
@[simp] theorem evC_nil (C : Cl) u0 M : evC C (MC.nil) u0 M = (.ok true M : Res Bool) := by
  rw [evC] <;> first | rfl | (cases evS C s σ M <;> rfl)
@[simp] theorem evC_one (C : Cl) b σ M : evC C (MC.one b) σ M = (evB C b σ M : Res Bool) := by
  rw [evC] <;> first | rfl | (cases evS C s σ M <;> rfl)
def kt_evI_seq_1 (C : Cl) (x : D) (M1 : Cs) := (opt ((itemsD M1 x).map fun xs => (xs, watch x)) M1 : Res (List D × List Nat))
@[simp] theorem kt_evI_seq_1_eq (C : Cl) (x : D) (M1 : Cs) : kt_evI_seq_1 C x M1 = (opt ((itemsD M1 x).map fun xs => (xs, watch x)) M1 : Res (List D × List Nat)) := by first | (rw [kt_evI_seq_1]; done) | rfl
@[simp] theorem evI_seq (C : Cl) e σ M : evI C (MI.seq e) σ M = ((evE C e σ M).bind (kt_evI_seq_1 C) : Res (List D × List Nat)) := by
  rw [evI] <;> first | rfl | (cases evS C s σ M <;> rfl)
def kt_evI_rng_1 (C : Cl) (b : ME) (σ : En) (x : D) (M1 : Cs) := ((evE C b σ M1).bind fun y M2 => opt ((rngD x y).map fun xs => (xs, [])) M2 : Res (List D × List Nat))
def kt_evI_rng_2 (C : Cl) (x : D) (y : D) (M2 : Cs) := (opt ((rngD x y).map fun xs => (xs, [])) M2 : Res (List D × List Nat))
@[simp] theorem kt_evI_rng_2_eq (C : Cl) (x : D) (y : D) (M2 : Cs) : kt_evI_rng_2 C x y M2 = (opt ((rngD x y).map fun xs => (xs, [])) M2 : Res (List D × List Nat)) := by first | (rw [kt_evI_rng_2]; done) | rfl
@[simp] theorem kt_evI_rng_1_eq (C : Cl) (b : ME) (σ : En) (x : D) (M1 : Cs) : kt_evI_rng_1 C b σ x M1 = ((evE C b σ M1).bind (kt_evI_rng_2 C x) : Res (List D × List Nat)) := by first | (rw [kt_evI_rng_1]; done) | rfl
@[simp] theorem evI_rng (C : Cl) a b σ M : evI C (MI.rng a b) σ M = ((evE C a σ M).bind (kt_evI_rng_1 C b σ) : Res (List D × List Nat)) := by
  rw [evI] <;> first | rfl | (cases evS C s σ M <;> rfl)
def kt_evI_enm_1 (C : Cl) (x : D) (M1 : Cs) := (opt ((itemsD M1 x).map fun xs => (enumD xs, watch x)) M1 : Res (List D × List Nat))
@[simp] theorem kt_evI_enm_1_eq (C : Cl) (x : D) (M1 : Cs) : kt_evI_enm_1 C x M1 = (opt ((itemsD M1 x).map fun xs => (enumD xs, watch x)) M1 : Res (List D × List Nat)) := by first | (rw [kt_evI_enm_1]; done) | rfl
@[simp] theorem evI_enm (C : Cl) e σ M : evI C (MI.enm e) σ M = ((evE C e σ M).bind (kt_evI_enm_1 C) : Res (List D × List Nat)) := by
  rw [evI] <;> first | rfl | (cases evS C s σ M <;> rfl)
def kt_evI_zip_1 (C : Cl) (b : ME) (σ : En) (x : D) (M1 : Cs) := ((evE C b σ M1).bind fun y M2 => opt ((itemsD M2 x).bind fun xs => if bothD (rd M2 x) (rd M2 y) then (itemsD M2 y).map fun ys => (zipD xs ys, watch x ++ watch y) else none) M2 : Res (List D × List Nat))
def kt_evI_zip_2 (C : Cl) (x : D) (y : D) (M2 : Cs) := (opt ((itemsD M2 x).bind fun xs => if bothD (rd M2 x) (rd M2 y) then (itemsD M2 y).map fun ys => (zipD xs ys, watch x ++ watch y) else none) M2 : Res (List D × List Nat))
@[simp] theorem kt_evI_zip_2_eq (C : Cl) (x : D) (y : D) (M2 : Cs) : kt_evI_zip_2 C x y M2 = (opt ((itemsD M2 x).bind fun xs => if bothD (rd M2 x) (rd M2 y) then (itemsD M2 y).map fun ys => (zipD xs ys, watch x ++ watch y) else none) M2 : Res (List D × List Nat)) := by first | (rw [kt_evI_zip_2]; done) | rfl
@[simp] theorem kt_evI_zip_1_eq (C : Cl) (b : ME) (σ : En) (x : D) (M1 : Cs) : kt_evI_zip_1 C b σ x M1 = ((evE C b σ M1).bind (kt_evI_zip_2 C x) : Res (List D × List Nat)) := by first | (rw [kt_evI_zip_1]; done) | rfl
@[simp] theorem evI_zip (C : Cl) a b σ M : evI C (MI.zip a b) σ M = ((evE C a σ M).bind (kt_evI_zip_1 C b σ) : Res (List D × List Nat)) := by
  rw [evI] <;> first | rfl | (cases evS C s σ M <;> rfl)
def kt_evI_rdn_1 (C : Cl) (x : D) (M1 : Cs) := (opt ((rdnD x).map fun xs => (xs, [])) M1 : Res (List D × List Nat))
@[simp] theorem kt_evI_rdn_1_eq (C : Cl) (x : D) (M1 : Cs) : kt_evI_rdn_1 C x M1 = (opt ((rdnD x).map fun xs => (xs, [])) M1 : Res (List D × List Nat)) := by first | (rw [kt_evI_rdn_1]; done) | rfl
@[simp] theorem evI_rdn (C : Cl) a σ M : evI C (MI.rdn a) σ M = ((evE C a σ M).bind (kt_evI_rdn_1 C) : Res (List D × List Nat)) := by
  rw [evI] <;> first | rfl | (cases evS C s σ M <;> rfl)
def kt_evI_vals_1 (C : Cl) (x : D) (M1 : Cs) := (opt ((valsD M1 x).map fun xs => (xs, watch x)) M1 : Res (List D × List Nat))
@[simp] theorem kt_evI_vals_1_eq (C : Cl) (x : D) (M1 : Cs) : kt_evI_vals_1 C x M1 = (opt ((valsD M1 x).map fun xs => (xs, watch x)) M1 : Res (List D × List Nat)) := by first | (rw [kt_evI_vals_1]; done) | rfl
@[simp] theorem evI_vals (C : Cl) e σ M : evI C (MI.vals e) σ M = ((evE C e σ M).bind (kt_evI_vals_1 C) : Res (List D × List Nat)) := by
  rw [evI] <;> first | rfl | (cases evS C s σ M <;> rfl)
@[simp] theorem evT_nm (C : Cl) i d σ M : evT C (MT.nm i) d σ M = (.ok (σ.set i (some d)) M : Res En) := by
  rw [evT] <;> first | rfl | (cases evS C s σ M <;> rfl)
@[simp] theorem evT_tp (C : Cl) ts d σ M : evT C (MT.tp ts) d σ M = ((match tupD d with
    | some xs => evTs C ts xs σ M
    | none => .bad) : Res En) := by
  rw [evT] <;> first | rfl | (cases evS C s σ M <;> rfl)
@[simp] theorem evT_sub (C : Cl) o i d σ M : evT C (MT.sub o i) d σ M = ((match evE C o σ M with
    | .ok x M1 => (match evE C i σ M1 with
      | .ok y M2 => (match x with
        | .cell n => if y.free 0 && d.free 0 then (match (rd M2 x).bind fun x' => setD x' y d with
          | some z => .ok σ (M2.set n (some z))
          | none => .bad) else .bad
        | _ => .bad)
      | _ => .bad)
    | _ => .bad) : Res En) := by
  rw [evT] <;> first | rfl | (cases evS C s σ M <;> rfl)
@[simp] theorem evTs_nil (C : Cl) ds σ M : evTs C (MTs.nil) ds σ M = (if ds.isEmpty then .ok σ M else .bad : Res En) := by
  rw [evTs] <;> first | rfl | (cases evS C s σ M <;> rfl)
@[simp] theorem evTs_cons (C : Cl) t r ds σ M : evTs C (MTs.cons t r) ds σ M = ((match consD ds with
    | some p => (evT C t p.1 σ M).bind fun σ1 M1 => evTs C r p.2 σ1 M1
    | none => .bad) : Res En) := by
  rw [evTs] <;> first | rfl | (cases evS C s σ M <;> rfl)
def kt_evS_asg_1 (C : Cl) (t : MT) (σ : En) (d : D) (M1 : Cs) := (SR.of σ (evT C t d σ M1) fun σ1 M2 => .nx σ1 M2 : SR)
def kt_evS_asg_2 (C : Cl) (σ1 : En) (M2 : Cs) := (.nx σ1 M2 : SR)
@[simp] theorem kt_evS_asg_2_eq (C : Cl) (σ1 : En) (M2 : Cs) : kt_evS_asg_2 C σ1 M2 = (.nx σ1 M2 : SR) := by first | (rw [kt_evS_asg_2]; done) | rfl
@[simp] theorem kt_evS_asg_1_eq (C : Cl) (t : MT) (σ : En) (d : D) (M1 : Cs) : kt_evS_asg_1 C t σ d M1 = (SR.of σ (evT C t d σ M1) (kt_evS_asg_2 C) : SR) := by first | (rw [kt_evS_asg_1]; done) | rfl
@[simp] theorem evS_asg (C : Cl) t e σ M : evS C (MS.asg t e) σ M = (SR.of σ (evE C e σ M) (kt_evS_asg_1 C t σ) : SR) := by
  rw [evS] <;> first | rfl | (cases evS C s σ M <;> rfl)
def kt_evS_exp_1 (C : Cl) (σ : En) (w_0 : D) (M1 : Cs) := (.nx σ M1 : SR)
@[simp] theorem kt_evS_exp_1_eq (C : Cl) (σ : En) (w_0 : D) (M1 : Cs) : kt_evS_exp_1 C σ w_0 M1 = (.nx σ M1 : SR) := by first | (rw [kt_evS_exp_1]; done) | rfl
@[simp] theorem evS_exp (C : Cl) e σ M : evS C (MS.exp e) σ M = (SR.of σ (evE C e σ M) (kt_evS_exp_1 C σ) : SR) := by
  rw [evS] <;> first | rfl | (cases evS C s σ M <;> rfl)
def kt_evS_ret_1 (C : Cl) (d : D) (M1 : Cs) := (.rt d M1 : SR)
@[simp] theorem kt_evS_ret_1_eq (C : Cl) (d : D) (M1 : Cs) : kt_evS_ret_1 C d M1 = (.rt d M1 : SR) := by first | (rw [kt_evS_ret_1]; done) | rfl
@[simp] theorem evS_ret (C : Cl) e σ M : evS C (MS.ret e) σ M = (SR.of σ (evE C e σ M) (kt_evS_ret_1 C) : SR) := by
  rw [evS] <;> first | rfl | (cases evS C s σ M <;> rfl)
def kt_evS_ite_1 (C : Cl) (a : MSs) (b : MSs) (σ : En) (k : Bool) (M1 : Cs) := (if k = true then evSs C a σ M1 else evSs C b σ M1 : SR)
@[simp] theorem kt_evS_ite_1_eq (C : Cl) (a : MSs) (b : MSs) (σ : En) (k : Bool) (M1 : Cs) : kt_evS_ite_1 C a b σ k M1 = (if k = true then evSs C a σ M1 else evSs C b σ M1 : SR) := by first | (rw [kt_evS_ite_1]; done) | rfl
@[simp] theorem evS_ite (C : Cl) c a b σ M : evS C (MS.ite c a b) σ M = (SR.of σ (evB C c σ M) (kt_evS_ite_1 C a b σ) : SR) := by
  rw [evS] <;> first | rfl | (cases evS C s σ M <;> rfl)
def kt_evS_for_1 (C : Cl) (t : MT) (b : MSs) (σ : En) (M : Cs) (ds : List D × List Nat) (M1 : Cs) := (forGo ds.2 (fun d σ M => SR.of σ (evT C t d σ M) fun σ1 M2 => evSs C b σ1 M2) ds.1 σ M1 : SR)
def kt_evS_for_2 (C : Cl) (t : MT) (b : MSs) (d : D) (σ : En) (M : Cs) := (SR.of σ (evT C t d σ M) fun σ1 M2 => evSs C b σ1 M2 : SR)
def kt_evS_for_3 (C : Cl) (b : MSs) (σ1 : En) (M2 : Cs) := (evSs C b σ1 M2 : SR)
@[simp] theorem kt_evS_for_3_eq (C : Cl) (b : MSs) (σ1 : En) (M2 : Cs) : kt_evS_for_3 C b σ1 M2 = (evSs C b σ1 M2 : SR) := by first | (rw [kt_evS_for_3]; done) | rfl
@[simp] theorem kt_evS_for_2_eq (C : Cl) (t : MT) (b : MSs) (d : D) (σ : En) (M : Cs) : kt_evS_for_2 C t b d σ M = (SR.of σ (evT C t d σ M) (kt_evS_for_3 C b) : SR) := by first | (rw [kt_evS_for_2]; done) | rfl
@[simp] theorem kt_evS_for_1_eq (C : Cl) (t : MT) (b : MSs) (σ : En) (M : Cs) (ds : List D × List Nat) (M1 : Cs) : kt_evS_for_1 C t b σ M ds M1 = (forGo ds.2 (kt_evS_for_2 C t b) ds.1 σ M1 : SR) := by first | (rw [kt_evS_for_1]; done) | rfl
@[simp] theorem evS_for (C : Cl) t it b σ M : evS C (MS.for_ t it b) σ M = (SR.of σ (evI C it σ M) (kt_evS_for_1 C t b σ M) : SR) := by
  rw [evS] <;> first | rfl | (cases evS C s σ M <;> rfl)
@[simp] theorem evS_whl (C : Cl) c b σ M : evS C (MS.whl c b) σ M = (whlGo (evB C c) (evSs C b) C.fuel σ M : SR) := by
  rw [evS] <;> first | rfl | (cases evS C s σ M <;> rfl)
def kt_evS_rse_1 (C : Cl) (c : Str) (σ : En) (xs : List D) (M1 : Cs) := (.ex (.exc c xs) σ M1 : SR)
@[simp] theorem kt_evS_rse_1_eq (C : Cl) (c : Str) (σ : En) (xs : List D) (M1 : Cs) : kt_evS_rse_1 C c σ xs M1 = (.ex (.exc c xs) σ M1 : SR) := by first | (rw [kt_evS_rse_1]; done) | rfl
@[simp] theorem evS_rse (C : Cl) c es σ M : evS C (MS.rse c es) σ M = (SR.of σ (evEs C es σ M) (kt_evS_rse_1 C c σ) : SR) := by
  rw [evS] <;> first | rfl | (cases evS C s σ M <;> rfl)
@[simp] theorem evS_brk (C : Cl) σ M : evS C (MS.brk) σ M = (.br σ M : SR) := by
  rw [evS] <;> first | rfl | (cases evS C s σ M <;> rfl)
@[simp] theorem evS_cnt (C : Cl) σ M : evS C (MS.cnt) σ M = (.ct σ M : SR) := by
  rw [evS] <;> first | rfl | (cases evS C s σ M <;> rfl)
@[simp] theorem evS_pss (C : Cl) σ M : evS C (MS.pss) σ M = (.nx σ M : SR) := by
  rw [evS] <;> first | rfl | (cases evS C s σ M <;> rfl)
@[simp] theorem evS_nev (C : Cl) u0 u1 : evS C (MS.nev) u0 u1 = (.bad : SR) := by
  rw [evS] <;> first | rfl | (cases evS C s σ M <;> rfl)
@[simp] theorem evSs_nil (C : Cl) σ M : evSs C (MSs.nil) σ M = (.nx σ M : SR) := by
  rw [evSs] <;> first | rfl | (cases evS C s σ M <;> rfl)
def seqS (C : Cl) (r : MSs) : SR → SR
  | .nx σ1 M1 => evSs C r σ1 M1
  | x => x
@[simp] theorem seqS_nx (C : Cl) (r : MSs) (σ : En) (M : Cs) : seqS C r (.nx σ M) = evSs C r σ M := by rw [seqS]
@[simp] theorem seqS_rt (C : Cl) (r : MSs) (a : D) (b : Cs) : seqS C r (.rt a b) = .rt a b := id rfl
@[simp] theorem seqS_br (C : Cl) (r : MSs) (a : En) (b : Cs) : seqS C r (.br a b) = .br a b := id rfl
@[simp] theorem seqS_ct (C : Cl) (r : MSs) (a : En) (b : Cs) : seqS C r (.ct a b) = .ct a b := id rfl
@[simp] theorem seqS_ex (C : Cl) (r : MSs) (a : D) (b : En) (c : Cs) : seqS C r (.ex a b c) = .ex a b c := id rfl
@[simp] theorem seqS_bad (C : Cl) (r : MSs) : seqS C r .bad = .bad := id rfl
@[simp] theorem evSs_cons (C : Cl) s r σ M : evSs C (MSs.cons s r) σ M = (seqS C r (evS C s σ M) : SR) := by
  rw [evSs] <;> first | rfl | (cases evS C s σ M <;> rfl)
@[simp] theorem rds_nil (M : Cs) : rds M [] = some [] := id rfl
@[simp] theorem rds_cons (M : Cs) (d : D) (ds : List D) : rds M (d :: ds) = ((rd M d).bind fun x => (rds M ds).map (x :: ·)) := by
  rw [rds]
  cases rd M d <;> cases rds M ds <;> rfl
theorem rd_at {M : Cs} {n : Nat} {d : D} (h : rd M (.cell n) = some d) : M[n]? = some (some d) := by
  rw [rd] at h
  split at h <;> simp_all
theorem rd_lt {M : Cs} {n : Nat} {d : D} (h : rd M (.cell n) = some d) : n < M.length := (List.getElem?_eq_some_iff.mp (rd_at h)).1
theorem rd_set (M : Cs) (n : Nat) (d : D) (h : n < M.length) : rd (M.set n (some d)) (.cell n) = some d := by
  simp [rd, h]
theorem rd_set_ne (M : Cs) (n m : Nat) (d : Option D) (h : n ≠ m) : rd (M.set n d) (.cell m) = rd M (.cell m) := by
  simp [rd, h]
@[simp] theorem fin_rt_int (i : Int) (M : Cs) (n : Nat) : finF false n (.rt (.int i) M) = .ok (.int i) (M.take n) := id rfl
@[simp] theorem fin_rt_bl (i : Bool) (M : Cs) (n : Nat) : finF false n (.rt (.bl i) M) = .ok (.bl i) (M.take n) := id rfl
@[simp] theorem fin_rt_keep (d : D) (M : Cs) (n : Nat) : finF true n (.rt d M) = .ok d M := id rfl
@[simp] theorem fin_rt_free (d : D) (M : Cs) (n : Nat) (h : d.free 0 = true) : finF false n (.rt d M) = .ok d (M.take n) := by
  have : d.free n = true := D.free_mono (Nat.zero_le _) d h
  simp [finF, this]
@[simp] theorem truthD_bl (b : Bool) : truthD (.bl b) = some b := id rfl
@[simp] theorem truthD_int (b : Int) : truthD (.int b) = some (b != 0) := id rfl
@[simp] theorem intD_int (b : Int) : intD [.int b] = some (.int b) := id rfl
@[simp] theorem cmp_gt (i j : Int) : cmpD .Gt (.int i) (.int j) = some (decide (j < i)) := id rfl
@[simp] theorem cmp_lt (i j : Int) : cmpD .Lt (.int i) (.int j) = some (decide (i < j)) := id rfl
@[simp] theorem cmp_ge (i j : Int) : cmpD .GtE (.int i) (.int j) = some (decide (j ≤ i)) := id rfl
@[simp] theorem cmp_le (i j : Int) : cmpD .LtE (.int i) (.int j) = some (decide (i ≤ j)) := id rfl
@[simp] theorem cmp_eq_int (i j : Int) : cmpD .Eq (.int i) (.int j) = some (decide (i = j)) := by simp [cmpD]
@[simp] theorem cmp_ne_int (i j : Int) : cmpD .NotEq (.int i) (.int j) = some (!decide (i = j)) := by simp [cmpD]
@[simp] theorem idx_tup (xs : List D) (i : Int) : idxD (.tup xs) (.int i) = L2.atI xs i := id rfl
@[simp] theorem idx_lst (xs : List D) (i : Int) : idxD (.lst xs) (.int i) = L2.atI xs i := id rfl
@[simp] theorem tupD_tup (xs : List D) : tupD (.tup xs) = some xs := id rfl
@[simp] theorem tupD_lst (xs : List D) : tupD (.lst xs) = some xs := id rfl
@[simp] theorem consD_cons (x : D) (xs : List D) : consD (x :: xs) = some (x, xs) := id rfl
@[simp] theorem blv_len (xs : List D) : bltD .len xs = lenD xs := id rfl
@[simp] theorem blv_int (xs : List D) : bltD .int xs = intD xs := id rfl
@[simp] theorem blv_abs (xs : List D) : bltD .abs xs = absD xs := id rfl
@[simp] theorem blv_max (xs : List D) : bltD .max xs = maxD xs := id rfl
@[simp] theorem blv_min (xs : List D) : bltD .min xs = minD xs := id rfl
@[simp] theorem blv_all (xs : List D) : bltD .all xs = allD xs := id rfl
@[simp] theorem blv_any (xs : List D) : bltD .any xs = anyD xs := id rfl
@[simp] theorem blv_sorted (xs : List D) : bltD .sorted xs = sortedD xs := id rfl
@[simp] theorem blv_list (xs : List D) : bltD .list xs = listD xs := id rfl
@[simp] theorem blv_tuple (xs : List D) : bltD .tuple xs = tupleD xs := id rfl
@[simp] theorem blv_repr (xs : List D) : bltD .repr xs = reprD xs := id rfl
@[simp] theorem blv_divmod (xs : List D) : bltD .divmod xs = divmodD xs := id rfl
@[simp] theorem len_tup (xs : List D) : lenD [.tup xs] = some (.int xs.length) := id rfl
@[simp] theorem len_lst (xs : List D) : lenD [.lst xs] = some (.int xs.length) := id rfl
@[simp] theorem len_scr (xs : List Int) : lenD [.scr xs] = some (.int xs.length) := id rfl
@[simp] theorem free_int (n : Nat) (i : Int) : D.free n (.int i) = true := id rfl
@[simp] theorem free_bl (n : Nat) (i : Bool) : D.free n (.bl i) = true := id rfl
@[simp] theorem free_non (n : Nat) : D.free n .non = true := id rfl
@[simp] theorem permD_nil (xs : List D) : permD [] xs = xs := id rfl
end Mp

/-! Loops and list comprehensions as folds and maps. -/
namespace Mp
open PySem
theorem forGo_fold {α β : Type} {ws : List Nat} {step : D → En → Cs → SR} {M : Cs} (g : α → D) (R : β → En → Prop) (f : β → α → β) :
    ∀ (xs : List α) (b : β) (σ : En), (∀ a ∈ xs, ∀ b σ, R b σ → ∃ σ', step (g a) σ M = .nx σ' M ∧ R (f b a) σ') → R b σ → ∃ σ', forGo ws step (xs.map g) σ M = .nx σ' M ∧ R (xs.foldl f b) σ'
  | [], b, σ, _, r => ⟨σ, rfl, r⟩
  | x :: xs, b, σ, h, r => by
    obtain ⟨σ1, e1, r1⟩ := h x List.mem_cons_self b σ r
    obtain ⟨σ2, e2, r2⟩ := forGo_fold g R f xs (f b x) σ1 (fun a ha => h a (List.mem_cons_of_mem _ ha)) r1
    refine ⟨σ2, ?_, r2⟩
    rw [List.map_cons, forGo, e1]
    simp only
    rw [if_pos (same_self _ _), e2]
/-- 0, 1, .. (named, so that the kernel need not look into it) -/
def intsD (n : Nat) : List D := (List.range n).map fun i : Nat => .int (i : Int)
/-- counting loops -/
theorem forGo_cnt {ws : List Nat} {step : D → En → Cs → SR} {M : Cs} (g : Nat → D) (R : Nat → En → Prop) (n : Nat) (h : ∀ i, i < n → ∀ σ, R i σ → ∃ σ', step (g i) σ M = .nx σ' M ∧ R (i + 1) σ') :
    ∀ (m j : Nat) (σ : En), j + m = n → R j σ → ∃ σ', forGo ws step ((List.range' j m).map g) σ M = .nx σ' M ∧ R n σ'
  | 0, j, σ, e, r => ⟨σ, rfl, by rw [← e]; exact r⟩
  | m + 1, j, σ, e, r => by
    obtain ⟨σ1, e1, r1⟩ := h j (by omega) σ r
    obtain ⟨σ2, e2, r2⟩ := forGo_cnt g R n h m (j + 1) σ1 (by omega) r1
    refine ⟨σ2, ?_, r2⟩
    rw [List.range'_succ, List.map_cons, forGo, e1]
    simp only
    rw [if_pos (same_self _ _), e2]
theorem forGo_range {ws : List Nat} {step : D → En → Cs → SR} {M : Cs} (g : Nat → D) (R : Nat → En → Prop) (n : Nat) (σ : En) (h : ∀ i, i < n → ∀ σ, R i σ → ∃ σ', step (g i) σ M = .nx σ' M ∧ R (i + 1) σ') (h0 : R 0 σ) :
    ∃ σ', forGo ws step ((List.range n).map g) σ M = .nx σ' M ∧ R n σ' := by
  rw [List.range_eq_range']
  exact forGo_cnt g R n h n 0 σ (by omega) h0
theorem forGo_ints {ws : List Nat} {step : D → En → Cs → SR} {M : Cs} (R : Nat → En → Prop) (n : Nat) (σ : En) (h : ∀ i : Nat, i < n → ∀ σ, R i σ → ∃ σ', step (.int (i : Int)) σ M = .nx σ' M ∧ R (i + 1) σ') (h0 : R 0 σ) :
    ∃ σ', forGo ws step (intsD n) σ M = .nx σ' M ∧ R n σ' := forGo_range (fun i : Nat => .int (i : Int)) R n σ h h0
/-- a list comprehension whose steps change nothing -/
theorem lcGo_map {α : Type} {ws : List Nat} {step : D → Cs → Res (List D)} {M : Cs} (g : α → D) (f : α → List D) (xs : List α) (h : ∀ a ∈ xs, step (g a) M = .ok (f a) M) (hl : (xs.flatMap f).length ≤ sizeLine) :
    lcGo ws step (xs.map g) [] M = .ok (xs.flatMap f) M := by
  have key : ∀ (xs : List α) (acc : List D), (∀ a ∈ xs, step (g a) M = .ok (f a) M) → acc.length + (xs.flatMap f).length ≤ sizeLine → lcGo ws step (xs.map g) acc M = .ok (acc ++ xs.flatMap f) M := fun xs => by
    induction xs with
    | nil => intro acc _ _; rw [List.map_nil, lcGo]; simp
    | cons x xs ih =>
      intro acc h hl
      rw [List.flatMap_cons, List.length_append] at hl
      rw [List.map_cons, lcGo, h x List.mem_cons_self]
      simp only
      rw [if_pos (by simp [same]; omega), ih _ (fun a ha => h a (List.mem_cons_of_mem _ ha)) (by rw [List.length_append]; omega)]
      simp
  have := key xs [] h (by simpa using hl)
  simpa using this
@[simp] theorem wip_nil (σ : En) : wip σ [] = σ := id rfl
@[simp] theorem wip_cons (σ : En) (v : Nat) (vs : List Nat) : wip σ (v :: vs) = (wip σ vs).set v none := id rfl
@[simp] theorem same_me (ws : List Nat) (M : Cs) : same ws M M = true := by simp [same]
/-- a row of ints -/
def T (xs : List Int) : D := .tup (xs.map .int)
@[simp] theorem rd_T (M : Cs) (xs : List Int) : rd M (T xs) = some (T xs) := id rfl
theorem rng0 (n : Nat) (h : n < 2 ^ 62) : rngD (.int 0) (.int n) = some (intsD n) := by
  have h2 : (n : Int) < 2 ^ 62 := by exact_mod_cast h
  have h1 : (-(2 ^ 62) : Int) ≤ n := by omega
  simp only [rngD]
  rw [if_pos (by simp only [Bool.and_eq_true, decide_eq_true_eq]; omega)]
  simp [intsD]
theorem rng1 (n : Int) (h : -(2 ^ 62) ≤ n) (h2 : n < 2 ^ 62) : rngD (.int 0) (.int n) = some (intsD n.toNat) := by
  simp only [rngD]
  rw [if_pos (by simp only [Bool.and_eq_true, decide_eq_true_eq]; omega)]
  simp [intsD]
@[simp] theorem small3 : (3 ≤ sizeLine) = True := by simp [sizeLine]
@[simp] theorem small2 : (2 ≤ sizeLine) = True := by simp [sizeLine]
@[simp] theorem small1 : (1 ≤ sizeLine) = True := by simp [sizeLine]
@[simp] theorem small0 : (0 ≤ sizeLine) = True := by simp
theorem small {n : Nat} (h : n ≤ 16777216) : n ≤ sizeLine := h
@[simp] theorem itemsD_lst (M : Cs) (xs : List D) : itemsD M (.lst xs) = some xs := id rfl
@[simp] theorem itemsD_tup (M : Cs) (xs : List D) : itemsD M (.tup xs) = some xs := id rfl
end Mp

/-! Rows of ints, pairs, comparisons, sums, sorting: for simp. -/
namespace Mp
open PySem
theorem flat3 {α β : Type} (xs : List α) (f : α → List β) (k : Nat) (h : ∀ a ∈ xs, (f a).length = k) : (xs.flatMap f).length = xs.length * k := by
  induction xs with
  | nil => simp
  | cons x xs ih =>
    rw [List.flatMap_cons, List.length_append, ih (fun a ha => h a (List.mem_cons_of_mem _ ha)), h x List.mem_cons_self, List.length_cons, Nat.add_mul]
    omega
@[simp] theorem clean_int (n : Nat) (i : Int) : clean n (.int i) = true := by cases n <;> simp [clean]
@[simp] theorem clean_non (n : Nat) : clean n .non = true := by cases n <;> simp [clean]
@[simp] theorem clean_tup (n : Nat) (xs : List D) : clean (n + 1) (.tup xs) = xs.all (clean n) := by simp [clean]
@[simp] theorem clean_lst (n : Nat) (xs : List D) : clean (n + 1) (.lst xs) = xs.all (clean n) := by simp [clean]
@[simp] theorem clean_T (n : Nat) (xs : List Int) : clean (n + 1) (T xs) = true := by simp [T]
theorem T_inj {xs ys : List Int} : T xs = T ys ↔ xs = ys := by
  constructor
  · intro h
    simp only [T, D.tup.injEq] at h
    exact (List.map_inj_right (fun a b e => by simpa using e)).mp h
  · rintro rfl; rfl
@[simp] theorem T_eq (xs ys : List Int) : (T xs = T ys) = (xs = ys) := propext T_inj
@[simp] theorem sh_T (xs : List Int) : sh (T xs) = true := sh_lvl (n := 1) (clean_lvl 1 _ (clean_T 0 xs)) (by omega)
theorem sh_clean {n : Nat} {d : D} (h : clean n d = true) (hn : n ≤ 60) : sh d = true := sh_lvl (clean_lvl n d h) hn
@[simp] theorem cmp_eq_T (a b : List Int) : cmpD .Eq (T a) (T b) = some (decide (a = b)) := by
  simp [cmpD, eqD_dec (clean_T 0 a) (clean_T 0 b)]
@[simp] theorem cmp_ne_T (a b : List Int) : cmpD .NotEq (T a) (T b) = some (!decide (a = b)) := by
  simp [cmpD, eqD_dec (clean_T 0 a) (clean_T 0 b)]
theorem cmp_eq_c (n : Nat) {a b : D} (ha : clean n a = true) (hb : clean n b = true) (hn : n ≤ 60) : cmpD .Eq a b = some (decide (a = b)) := by
  simp [cmpD, eqD_dec ha hb, sh_clean ha hn, sh_clean hb hn]
theorem cmp_ne_c (n : Nat) {a b : D} (ha : clean n a = true) (hb : clean n b = true) (hn : n ≤ 60) : cmpD .NotEq a b = some (!decide (a = b)) := by
  simp [cmpD, eqD_dec ha hb, sh_clean ha hn, sh_clean hb hn]
theorem memD_c (n : Nat) {x : D} {xs : List D} (hx : clean n x = true) (h : xs.all (clean n) = true) : memD x xs = decide (x ∈ xs) := by
  rw [memD, Bool.eq_iff_iff]
  simp only [List.any_eq_true, decide_eq_true_eq]
  rw [List.all_eq_true] at h
  constructor
  · rintro ⟨y, hy, e⟩
    rw [eqD_dec (h y hy) hx] at e
    simp only [decide_eq_true_eq] at e
    exact e ▸ hy
  · intro hm
    exact ⟨x, hm, by rw [eqD_dec hx hx]; simp⟩
theorem cmp_in_tup (n : Nat) {x : D} {xs : List D} (hx : clean n x = true) (h : xs.all (clean n) = true) (hn : n ≤ 50) : cmpD .In x (.tup xs) = some (decide (x ∈ xs)) := by
  have h1 : clean (n + 1) (.tup xs) = true := by simpa [clean] using h
  simp [cmpD, sh_clean hx (by omega), sh_clean h1 (by omega), memD_c n hx h]
theorem cmp_in_lst (n : Nat) {x : D} {xs : List D} (hx : clean n x = true) (h : xs.all (clean n) = true) (hn : n ≤ 50) : cmpD .In x (.lst xs) = some (decide (x ∈ xs)) := by
  have h1 : clean (n + 1) (.lst xs) = true := by simpa [clean] using h
  simp [cmpD, sh_clean hx (by omega), sh_clean h1 (by omega), memD_c n hx h]
theorem cmp_ni_tup (n : Nat) {x : D} {xs : List D} (hx : clean n x = true) (h : xs.all (clean n) = true) (hn : n ≤ 50) : cmpD .NotIn x (.tup xs) = some (!decide (x ∈ xs)) := by
  have h1 : clean (n + 1) (.tup xs) = true := by simpa [clean] using h
  simp [cmpD, sh_clean hx (by omega), sh_clean h1 (by omega), memD_c n hx h]
theorem cmp_ni_lst (n : Nat) {x : D} {xs : List D} (hx : clean n x = true) (h : xs.all (clean n) = true) (hn : n ≤ 50) : cmpD .NotIn x (.lst xs) = some (!decide (x ∈ xs)) := by
  have h1 : clean (n + 1) (.lst xs) = true := by simpa [clean] using h
  simp [cmpD, sh_clean hx (by omega), sh_clean h1 (by omega), memD_c n hx h]
@[simp] theorem memI (x : Int) (xs : List Int) : (D.int x ∈ xs.map D.int) = (x ∈ xs) := by simp
@[simp] theorem cmp_in_T (x : Int) (xs : List Int) : cmpD .In (.int x) (T xs) = some (decide (x ∈ xs)) := by
  rw [T, cmp_in_tup 0 (by simp) (by simp) (by omega)]; simp
@[simp] theorem cmp_ni_T (x : Int) (xs : List Int) : cmpD .NotIn (.int x) (T xs) = some (!decide (x ∈ xs)) := by
  rw [T, cmp_ni_tup 0 (by simp) (by simp) (by omega)]; simp
@[simp] theorem cmp_in_L (x : Int) (xs : List Int) : cmpD .In (.int x) (.lst (xs.map .int)) = some (decide (x ∈ xs)) := by
  rw [cmp_in_lst 0 (by simp) (by simp) (by omega)]; simp
@[simp] theorem cmp_in_2 (x a b : Int) : cmpD .In (.int x) (.tup [.int a, .int b]) = some (decide (x = a ∨ x = b)) := by
  rw [cmp_in_tup 0 (by simp) (by simp) (by omega)]; simp
@[simp] theorem cmp_ni_2 (x a b : Int) : cmpD .NotIn (.int x) (.tup [.int a, .int b]) = some (!decide (x = a ∨ x = b)) := by
  rw [cmp_ni_tup 0 (by simp) (by simp) (by omega)]; simp
@[simp] theorem itemsD_T (M : Cs) (xs : List Int) : itemsD M (T xs) = some (xs.map .int) := id rfl
@[simp] theorem len_T (xs : List Int) : lenD [T xs] = some (.int xs.length) := by simp [T, lenD]
@[simp] theorem isa_T (xs : List Int) : isaD (T xs) .tuple = some true := id rfl
@[simp] theorem idx_T (xs : List Int) (i : Int) : idxD (T xs) (.int i) = (L2.atI xs i).map .int := by
  simp only [T, idxD, L2.atI, List.length_map]
  cases L2.ixN xs.length i <;> simp
@[simp] theorem atI0 {α : Type} (x : α) (xs : List α) : L2.atI (x :: xs) 0 = some x := by
  simp [L2.atI, L2.ixN]
@[simp] theorem atI1 {α : Type} (x y : α) (xs : List α) : L2.atI (x :: y :: xs) 1 = some y := by
  have h : (1 : Int) < ↑xs.length + 1 + 1 := by omega
  simp [L2.atI, L2.ixN, h]
@[simp] theorem atI2 {α : Type} (x y z : α) (xs : List α) : L2.atI (x :: y :: z :: xs) 2 = some z := by
  have h : (2 : Int) < ↑xs.length + 1 + 1 + 1 := by omega
  simp [L2.atI, L2.ixN, h]
theorem atI_nat {α : Type} (xs : List α) (i : Nat) (h : i < xs.length) : L2.atI xs (i : Int) = xs[i]? := by
  simp [L2.atI, L2.ixN, h]
theorem atI_get {α : Type} (xs : List α) (i : Nat) (h : i < xs.length) : L2.atI xs (i : Int) = some (xs[i]'h) := by
  rw [atI_nat xs i h, List.getElem?_eq_getElem h]
@[simp] theorem free_T (n : Nat) (xs : List Int) : D.free n (T xs) = true := by
  simp only [T, D.free]
  induction xs with
  | nil => simp [frees]
  | cons x xs ih => simp [frees, ih]
theorem frees_map {α : Type} (n : Nat) (f : α → D) (xs : List α) (h : ∀ a ∈ xs, (f a).free n = true) : frees n (xs.map f) = true := by
  induction xs with
  | nil => simp [frees]
  | cons x xs ih =>
    simp only [List.map_cons, frees, Bool.and_eq_true]
    exact ⟨h x List.mem_cons_self, ih fun a ha => h a (List.mem_cons_of_mem _ ha)⟩
@[simp] theorem frees_all {α : Type} (n : Nat) (f : α → D) (xs : List α) : frees n (xs.map f) = xs.all fun a => (f a).free n := by
  induction xs with
  | nil => simp [frees]
  | cons x xs ih => simp [frees, ih]
@[simp] theorem frees_nil (n : Nat) : frees n [] = true := by simp [frees]
@[simp] theorem frees_cons (n : Nat) (x : D) (xs : List D) : frees n (x :: xs) = (x.free n && frees n xs) := by simp [frees]
@[simp] theorem free_tup (n : Nat) (xs : List D) : D.free n (.tup xs) = frees n xs := by simp [D.free]
@[simp] theorem free_lst (n : Nat) (xs : List D) : D.free n (.lst xs) = frees n xs := by simp [D.free]
@[simp] theorem free_str (n : Nat) (x : Str) : D.free n (.str x) = true := by simp [D.free]
@[simp] theorem truthD_lst (xs : List D) : truthD (.lst xs) = some (!xs.isEmpty) := id rfl
@[simp] theorem truthD_tup (xs : List D) : truthD (.tup xs) = some (!xs.isEmpty) := id rfl
/-! ### sums of bools -/
theorem bls_map {α : Type} (p : α → Bool) (xs : List α) : bls? (xs.map fun a => .bl (p a)) = some (xs.map p) := by
  induction xs with
  | nil => rfl
  | cons x xs ih => simp [bls?, ih]
@[simp] theorem all_map {α : Type} (p : α → Bool) (xs : List α) : allD [.lst (xs.map fun a => .bl (p a))] = some (.bl (xs.all p)) := by
  rw [allD, bls_map]; simp [List.all_map, Function.comp_def]
@[simp] theorem any_map {α : Type} (p : α → Bool) (xs : List α) : anyD [.lst (xs.map fun a => .bl (p a))] = some (.bl (xs.any p)) := by
  rw [anyD, bls_map]; simp [List.any_map, Function.comp_def]
@[simp] theorem all_two (a b : Bool) : allD [.lst [.bl a, .bl b]] = some (.bl (a && b)) := by simp [allD, bls?]
@[simp] theorem any_two (a b : Bool) : anyD [.lst [.bl a, .bl b]] = some (.bl (a || b)) := by simp [anyD, bls?]
/-- a loop, what it has come to told by the part that is behind -/
theorem forGo_split {α : Type} {ws : List Nat} {step : D → En → Cs → SR} {M : Cs} (g : α → D) (xs : List α) (R : List α → En → Prop) (σ : En) (h : ∀ don a todo σ, xs = don ++ a :: todo → R don σ → ∃ σ', step (g a) σ M = .nx σ' M ∧ R (don ++ [a]) σ') (h0 : R [] σ) :
    ∃ σ', forGo ws step (xs.map g) σ M = .nx σ' M ∧ R xs σ' := by
  have key : ∀ (todo don : List α) (σ : En), xs = don ++ todo → R don σ → ∃ σ', forGo ws step (todo.map g) σ M = .nx σ' M ∧ R xs σ' := fun todo => by
    induction todo with
    | nil =>
      intro don σ e r
      rw [List.append_nil] at e
      exact ⟨σ, rfl, e ▸ r⟩
    | cons a todo ih =>
      intro don σ e r
      obtain ⟨σ1, e1, r1⟩ := h don a todo σ e r
      obtain ⟨σ2, e2, r2⟩ := ih (don ++ [a]) σ1 (by simp [e]) r1
      refine ⟨σ2, ?_, r2⟩
      rw [List.map_cons, forGo, e1]
      simp only
      rw [if_pos (same_self _ _), e2]
  exact key xs [] σ rfl h0
@[simp] theorem rd_sg (M : Cs) (a : D) : rd (M ++ [some a]) (.cell M.length) = some a := by simp [rd]
@[simp] theorem set_sg (M : Cs) (a b : Option D) : (M ++ [a]).set M.length b = M ++ [b] := by simp
/-! ### a loop over a row that is told -/
def fgK (ws : List Nat) (step : D → En → Cs → SR) (ds : List D) (M : Cs) : SR → SR
  | .nx σ1 M1 => if same ws M M1 then forGo ws step ds σ1 M1 else .bad
  | .ct σ1 M1 => if same ws M M1 then forGo ws step ds σ1 M1 else .bad
  | .br σ1 M1 => .nx σ1 M1
  | r => r
theorem forGo_c (ws : List Nat) (step : D → En → Cs → SR) (d : D) (ds : List D) (σ : En) (M : Cs) : forGo ws step (d :: ds) σ M = fgK ws step ds M (step d σ M) := by
  rw [forGo]
  cases step d σ M <;> exact id rfl
theorem forGo_n (ws : List Nat) (step : D → En → Cs → SR) (σ : En) (M : Cs) : forGo ws step [] σ M = .nx σ M := by rw [forGo]
@[simp] theorem fgK_nx (ws : List Nat) (step : D → En → Cs → SR) (ds : List D) (M M1 : Cs) (σ1 : En) (h : same ws M M1 = true) : fgK ws step ds M (.nx σ1 M1) = forGo ws step ds σ1 M1 := by
  rw [fgK, if_pos h]
@[simp] theorem fgK_ct (ws : List Nat) (step : D → En → Cs → SR) (ds : List D) (M M1 : Cs) (σ1 : En) (h : same ws M M1 = true) : fgK ws step ds M (.ct σ1 M1) = forGo ws step ds σ1 M1 := by
  rw [fgK, if_pos h]
@[simp] theorem fgK_br (ws : List Nat) (step : D → En → Cs → SR) (ds : List D) (M M1 : Cs) (σ1 : En) : fgK ws step ds M (.br σ1 M1) = .nx σ1 M1 := by rw [fgK]
@[simp] theorem fgK_rt (ws : List Nat) (step : D → En → Cs → SR) (ds : List D) (M M1 : Cs) (d : D) : fgK ws step ds M (.rt d M1) = .rt d M1 := id rfl
@[simp] theorem fgK_ex (ws : List Nat) (step : D → En → Cs → SR) (ds : List D) (M M1 : Cs) (d : D) (σ1 : En) : fgK ws step ds M (.ex d σ1 M1) = .ex d σ1 M1 := id rfl
@[simp] theorem cmp_is_non (a : D) : cmpD .Is a .non = some (isNonD a) := by cases a <;> exact id rfl
@[simp] theorem cmp_isnot_non (a : D) : cmpD .IsNot a .non = some (!isNonD a) := by cases a <;> exact id rfl
@[simp] theorem isNonD_non : isNonD .non = true := id rfl
@[simp] theorem isNonD_int (i : Int) : isNonD (.int i) = false := id rfl
@[simp] theorem isNonD_bl (i : Bool) : isNonD (.bl i) = false := id rfl
@[simp] theorem isNonD_T (i : List Int) : isNonD (T i) = false := id rfl
@[simp] theorem isNonD_tup (i : List D) : isNonD (.tup i) = false := id rfl
@[simp] theorem isNonD_lst (i : List D) : isNonD (.lst i) = false := id rfl
@[simp] theorem isNonD_str (i : Str) : isNonD (.str i) = false := id rfl
@[simp] theorem watch_tup (xs : List D) : watch (.tup xs) = [] := id rfl
@[simp] theorem watch_lst (xs : List D) : watch (.lst xs) = [] := id rfl
@[simp] theorem watch_T (xs : List Int) : watch (T xs) = [] := id rfl
@[simp] theorem okL_lst (xs : List D) : okL (some (.lst xs)) = true := id rfl
@[simp] theorem lt0 : (0 < sizeLine) = True := by simp [sizeLine]
@[simp] theorem lt1 : (1 < sizeLine) = True := by simp [sizeLine]
@[simp] theorem lt2 : (2 < sizeLine) = True := by simp [sizeLine]
@[simp] theorem lt3 : (3 < sizeLine) = True := by simp [sizeLine]
@[simp] theorem le4 : (4 ≤ sizeLine) = True := by simp [sizeLine]
@[simp] theorem le5 : (5 ≤ sizeLine) = True := by simp [sizeLine]
@[simp] theorem le6 : (6 ≤ sizeLine) = True := by simp [sizeLine]
@[simp] theorem le7 : (7 ≤ sizeLine) = True := by simp [sizeLine]
@[simp] theorem le8 : (8 ≤ sizeLine) = True := by simp [sizeLine]
@[simp] theorem mut_append (xs : List D) (y : D) (h : xs.length < sizeLine) : mutD .append (.lst xs) [y] = some (.lst (xs ++ [y]), .non) := by
  rw [mutD, appendD, if_pos h]
@[simp] theorem mut_pop (x : D) (ys : List D) : mutD .pop x ys = popD x ys := id rfl
/-- a comprehension over a row that is told -/
def lcK (ws : List Nat) (step : D → Cs → Res (List D)) (ds acc : List D) (M : Cs) : Res (List D) → Res (List D)
  | .ok xs M1 => if acc.length + xs.length ≤ sizeLine && same ws M M1 then lcGo ws step ds (acc ++ xs) M1 else .bad
  | _ => .bad
theorem lcGo_c (ws : List Nat) (step : D → Cs → Res (List D)) (d : D) (ds acc : List D) (M : Cs) : lcGo ws step (d :: ds) acc M = lcK ws step ds acc M (step d M) := by
  rw [lcGo]
  cases step d M <;> exact id rfl
theorem lcGo_n (ws : List Nat) (step : D → Cs → Res (List D)) (acc : List D) (M : Cs) : lcGo ws step [] acc M = .ok acc M := by rw [lcGo]
@[simp] theorem lcK_ok (ws : List Nat) (step : D → Cs → Res (List D)) (ds acc xs : List D) (M M1 : Cs) (h : acc.length + xs.length ≤ sizeLine) (h2 : same ws M M1 = true) : lcK ws step ds acc M (.ok xs M1) = lcGo ws step ds (acc ++ xs) M1 := by
  rw [lcK, if_pos (by simp [h, h2])]
/-! ### list comprehensions with one value a turn -/
theorem lcGo_one {α : Type} {ws : List Nat} {step : D → Cs → Res (List D)} {M : Cs} (g : α → D) (f : α → D) (xs : List α) (h : ∀ a ∈ xs, step (g a) M = .ok [f a] M) (hl : xs.length ≤ sizeLine) :
    lcGo ws step (xs.map g) [] M = .ok (xs.map f) M := by
  rw [lcGo_map g (fun a => [f a]) xs h (by rw [flat3 _ _ 1 (fun _ _ => rfl)]; omega)]
  congr 1
  clear h hl
  induction xs with
  | nil => rfl
  | cons x xs ih => rw [List.flatMap_cons, ih]; rfl
theorem lcGo_if {α : Type} {ws : List Nat} {step : D → Cs → Res (List D)} {M : Cs} (g : α → D) (p : α → Bool) (f : α → D) (xs : List α) (h : ∀ a ∈ xs, step (g a) M = .ok (if p a = true then [f a] else []) M) (hl : xs.length ≤ sizeLine) :
    lcGo ws step (xs.map g) [] M = .ok ((xs.filter p).map f) M := by
  have e : (xs.flatMap fun a => if p a = true then [f a] else []) = (xs.filter p).map f := by
    clear h hl
    induction xs with
    | nil => rfl
    | cons x xs ih =>
      rw [List.flatMap_cons, ih]
      cases hx : p x <;> simp [List.filter_cons, hx]
  rw [lcGo_map g (fun a => if p a = true then [f a] else []) xs h, e]
  rw [e, List.length_map]
  exact Nat.le_trans (List.length_filter_le _ _) hl
/-- a comprehension whose steps change cells, each step giving the same -/
theorem lcGo_any {α : Type} {step : D → Cs → Res (List D)} (g : α → D) (v : D) (xs : List α) (M : Cs) (h : ∀ a ∈ xs, ∀ M, ∃ M', step (g a) M = .ok [v] M') (hl : xs.length ≤ sizeLine) :
    ∃ M', lcGo [] step (xs.map g) [] M = .ok (xs.map fun _ => v) M' := by
  have key : ∀ (xs : List α) (acc : List D) (M : Cs), (∀ a ∈ xs, ∀ M, ∃ M', step (g a) M = .ok [v] M') → acc.length + xs.length ≤ sizeLine → ∃ M', lcGo [] step (xs.map g) acc M = .ok (acc ++ xs.map fun _ => v) M' := fun xs => by
    induction xs with
    | nil => intro acc M _ _; exact ⟨M, by rw [List.map_nil, lcGo]; simp⟩
    | cons x xs ih =>
      intro acc M h hl
      simp only [List.length_cons] at hl
      obtain ⟨M1, e1⟩ := h x List.mem_cons_self M
      obtain ⟨M2, e2⟩ := ih (acc ++ [v]) M1 (fun a ha => h a (List.mem_cons_of_mem _ ha)) (by simp; omega)
      refine ⟨M2, ?_⟩
      rw [List.map_cons, lcGo, e1]
      simp only
      rw [if_pos (by simp; omega), e2]
      simp
  obtain ⟨M', e⟩ := key xs [] M h (by simpa using hl)
  exact ⟨M', by simpa using e⟩
@[simp] theorem permD_one (x : D) : permD [0] [x] = [x] := id rfl
theorem mul_lst2 (x : D) : binD .Mult (.lst [x]) (.int 2) = some (.lst [x, x]) := by simp [binD, sizeLine, List.replicate]
/-! ### sorting rows -/
theorem pys_map {α : Type} (f : α → D) (xs : List α) : pys (xs.map f) = xs.map fun a => (f a).py := by
  induction xs with
  | nil => simp [pys]
  | cons x xs ih => simp [pys, ih]
theorem py_T (xs : List Int) : (T xs).py = .tuple (xs.map .int) := by
  rw [T, D.py, pys_map]
  simp [D.py]
theorem ltD_T (a b : List Int) : W.dataLt (T a).py (T b).py = decide (a < b) := by
  rw [py_T, py_T, W.dataLt_tuple]
  exact W.dataLt_ints a b
theorem alikeAll_ints : ∀ xs ys : List Int, W.alikeAll (xs.map .int) (ys.map .int) = true
  | [], _ => by simp [W.alikeAll]
  | _ :: _, [] => by simp [W.alikeAll]
  | x :: xs, y :: ys => by
    simp only [List.map_cons, W.alikeAll, W.alike, Bool.true_and]
    exact alikeAll_ints xs ys
theorem alike_T (a b : List Int) : W.alike (T a).py (T b).py = true := by
  rw [py_T, py_T, W.alike]
  exact alikeAll_ints a b
@[simp] theorem cmp_lt_T (a b : List Int) : cmpD .Lt (T a) (T b) = some (decide (a < b)) := by
  have h1 := sh_T a
  have h2 := sh_T b
  have h3 := alike_T a b
  have h4 := ltD_T a b
  simp only [T] at *
  simp [cmpD, h1, h2, h3, h4]
/-- rows, sorted -/
def sortR (xs : List (List Int)) : List (List Int) := xs.mergeSort fun a b => decide (a ≤ b)
theorem sortD_Ts (xs : List (List Int)) : sortD (xs.map T) = (sortR xs).map T := by
  rw [sortD, sortR, List.map_mergeSort (s := W.dataLe false D.py)]
  intro a _ b _
  rw [W.dataLe_eq]
  simp only [cond_false, ltD_T]
  by_cases h : b < a
  · have : ¬ a ≤ b := fun r => List.not_lt.mpr r h
    simp [h, this]
  · have : a ≤ b := List.not_lt.mp h
    simp [h, this]
@[simp] theorem sorted_Ts (xs : List (List Int)) (h : xs.length ≤ sizeLine) : sortedD [.lst (xs.map T)] = some (.lst ((sortR xs).map T)) := by
  have : sortOk (xs.map T) = true := by
    simp only [sortOk, datOk, shs, alikes, List.all_map, Bool.and_eq_true, List.all_eq_true, decide_eq_true_eq, List.length_map, Function.comp_apply]
    refine ⟨⟨fun _ _ => sh_T _, fun a _ b _ => alike_T a b, fun _ _ => rfl⟩, h⟩
  rw [sortedD, if_pos this, sortD_Ts]
theorem sortR_perm (xs : List (List Int)) : (sortR xs).Perm xs := List.mergeSort_perm _ _
theorem sortR_le (xs : List (List Int)) : (sortR xs).Pairwise (· ≤ ·) := by
  have := List.pairwise_mergeSort (le := fun a b : List Int => decide (a ≤ b)) (fun a b c h1 h2 => by simp at *; exact List.le_trans h1 h2) (fun a b => by simp; exact List.le_total a b) xs
  simpa [sortR] using this
theorem sortR_len (xs : List (List Int)) : (sortR xs).length = xs.length := (sortR_perm xs).length_eq
theorem sortR_lt {xs : List (List Int)} (h : xs.Nodup) : (sortR xs).Pairwise (· < ·) := by
  have h1 := sortR_le xs
  have h2 : (sortR xs).Nodup := (sortR_perm xs).nodup_iff.mpr h
  refine (List.Pairwise.and h1 h2).imp ?_
  rintro a b ⟨h, n⟩
  rcases List.le_iff_lt_or_eq.mp h with h | h
  · exact h
  · exact (n h).elim
/-! ### the greatest of a list of ints -/
def mostI : List Int → Int
  | [] => 0
  | x :: xs => xs.foldl (fun a y => if a < y then y else a) x
theorem ltD_int (a b : Int) : ltD (.int a) (.int b) = decide (a < b) := by
  simp only [ltD, D.py]
  exact W.dataLt_int a b
theorem mostD_ints (x : Int) (xs : List Int) : mostD (.int x) (xs.map .int) = .int (mostI (x :: xs)) := by
  have key : ∀ (xs : List Int) (x : Int), (xs.map D.int).foldl (fun a y => if ltD a y then y else a) (.int x) = .int (xs.foldl (fun a y => if a < y then y else a) x) := fun xs => by
    induction xs with
    | nil => intro x; rfl
    | cons y ys ih =>
      intro x
      simp only [List.map_cons, List.foldl_cons, ltD_int, decide_eq_true_eq]
      by_cases h : x < y
      · rw [if_pos h, if_pos h, ih]
      · rw [if_neg h, if_neg h, ih]
  exact key xs x
theorem mostI_ge : ∀ (xs : List Int) (y : Int), y ∈ xs → y ≤ mostI xs := by
  have key : ∀ (xs : List Int) (x : Int), x ≤ xs.foldl (fun a y => if a < y then y else a) x ∧ ∀ y ∈ xs, y ≤ xs.foldl (fun a y => if a < y then y else a) x := fun xs => by
    induction xs with
    | nil => intro x; simp
    | cons z zs ih =>
      intro x
      obtain ⟨h1, h2⟩ := ih (if x < z then z else x)
      simp only [List.foldl_cons]
      refine ⟨?_, fun y hy => ?_⟩
      · have : x ≤ if x < z then z else x := by split <;> omega
        omega
      · rw [List.mem_cons] at hy
        rcases hy with rfl | hy
        · have : y ≤ if x < y then y else x := by split <;> omega
          omega
        · exact h2 y hy
  intro xs y hy
  cases xs with
  | nil => simp at hy
  | cons x xs =>
    rw [List.mem_cons] at hy
    rcases hy with rfl | hy
    · exact (key xs y).1
    · exact (key xs x).2 y hy
theorem mostI_mem : ∀ (xs : List Int), xs ≠ [] → mostI xs ∈ xs := by
  have key : ∀ (xs : List Int) (x : Int), xs.foldl (fun a y => if a < y then y else a) x ∈ x :: xs := fun xs => by
    induction xs with
    | nil => intro x; simp
    | cons z zs ih =>
      intro x
      simp only [List.foldl_cons]
      by_cases h : x < z
      · have := ih z
        rw [if_pos h]
        exact List.mem_cons_of_mem _ this
      · have := ih x
        rw [if_neg h]
        rw [List.mem_cons] at this ⊢
        rcases this with h | h
        · exact Or.inl h
        · exact Or.inr (List.mem_cons_of_mem _ h)
  intro xs h
  cases xs with
  | nil => exact (h rfl).elim
  | cons x xs => exact key xs x
theorem mostI_eq {xs : List Int} {m : Int} (h : m ∈ xs) (h2 : ∀ y ∈ xs, y ≤ m) : mostI xs = m := by
  have h3 := mostI_ge xs m h
  have h4 := h2 _ (mostI_mem xs (List.ne_nil_of_mem h))
  omega
theorem mostI_foldl : ∀ (xs : List Int) (c : Int), xs ≠ [] → xs.foldl max c = max c (mostI xs)
  | [], _, h => (h rfl).elim
  | [x], c, _ => by simp [mostI]
  | x :: y :: r, c, _ => by
    rw [List.foldl_cons, mostI_foldl (y :: r) _ (by simp)]
    have : mostI (x :: y :: r) = max x (mostI (y :: r)) := by
      have h1 := mostI_mem (y :: r) (by simp)
      refine mostI_eq ?_ ?_
      · rcases Int.le_total x (mostI (y :: r)) with h | h
        · rw [Int.max_eq_right h]; exact List.mem_cons_of_mem _ h1
        · rw [Int.max_eq_left h]; exact List.mem_cons_self
      · intro z hz
        rw [List.mem_cons] at hz
        rcases hz with rfl | hz
        · omega
        · have := mostI_ge _ z hz; omega
    rw [this]
    omega
theorem max_ints (xs : List Int) (h : xs ≠ []) : maxD [.lst (xs.map .int)] = some (.int (mostI xs)) := by
  cases xs with
  | nil => exact (h rfl).elim
  | cons x xs =>
    have : datOk ((x :: xs).map .int) = true := by
      simp only [datOk, shs, alikes, List.all_map, Bool.and_eq_true, List.all_eq_true, Function.comp_apply]
      refine ⟨fun _ _ => sh_int _, fun a _ b _ => ?_, fun _ _ => rfl⟩
      simp [D.py, W.alike]
    rw [List.map_cons] at this ⊢
    rw [maxD, if_pos this, mostD_ints]
theorem max_map {α : Type} (f : α → Int) (xs : List α) (h : xs ≠ []) : maxD [.lst (xs.map fun a => .int (f a))] = some (.int (mostI (xs.map f))) := by
  have := max_ints (xs.map f) (by simpa using h)
  rw [List.map_map] at this
  exact this
@[simp] theorem max_two (a b : Int) : maxD [.int a, .int b] = some (.int (max a b)) := by
  simp only [maxD]
  congr 2
  omega
@[simp] theorem min_two (a b : Int) : minD [.int a, .int b] = some (.int (min a b)) := by
  simp only [minD]
  congr 2
  omega
/-! ### parts -/
theorem cut_from {α : Type} (xs : List α) (n : Nat) : cut xs (some (n : Int)) none = xs.drop n := by
  simp only [cut, HT.sIx]
  rw [if_neg (by omega), Int.toNat_natCast]
  by_cases h : n ≤ xs.length
  · rw [Nat.min_eq_left h, List.take_of_length_le (by simp)]
  · rw [Nat.min_eq_right (by omega)]
    simp
    omega
@[simp] theorem cut_1 {α : Type} (xs : List α) : cut xs (some 1) none = xs.drop 1 := cut_from xs 1
theorem cut_to {α : Type} (xs : List α) (n : Int) (h : 0 ≤ n) : cut xs none (some n) = xs.take n.toNat := by
  simp only [cut, HT.sIx]
  rw [if_neg (by omega)]
  by_cases h : n.toNat ≤ xs.length
  · rw [Nat.min_eq_left h]; simp
  · rw [Nat.min_eq_right (by omega)]
    simp
    rw [List.take_of_length_le (by omega)]
/-! ### counted walks -/
theorem enumD_map {α : Type} (f : α → D) (xs : List α) : enumD (xs.map f) = xs.zipIdx.map fun p => .tup [.int p.2, f p.1] := by
  rw [enumD, List.zipIdx_map, List.map_map]
  rfl
theorem zipD_map {α β : Type} (f : α → D) (g : β → D) (xs : List α) (ys : List β) : zipD (xs.map f) (ys.map g) = (xs.zip ys).map fun p => .tup [f p.1, g p.2] := by
  rw [zipD, List.zip_map, List.map_map]
  rfl
/-! ### dict comprehensions -/
theorem any_key (k : D) (ks : List D) : (ks.any fun a => decide (a = k)) = decide (k ∈ ks) := by
  rw [Bool.eq_iff_iff]
  simp
theorem lookD_none {k : D} : ∀ {ks vs : List D}, k ∉ ks → lookD k ks vs = none
  | [], _, _ => by simp [lookD]
  | _ :: _, [], _ => by simp [lookD]
  | a :: ks, v :: vs, h => by
    simp only [List.mem_cons, not_or] at h
    rw [lookD, if_neg (fun e => h.1 e.symm), lookD_none h.2]
theorem putD_len {k v : D} {ks vs : List D} (h : ks.length = vs.length) : (putD k v ks vs).1.length = (putD k v ks vs).2.length := by
  rw [putD]
  split
  · simp [List.length_zip, h]
  · simp [h]
theorem putD_mem {k v : D} {ks vs : List D} (x : D) : x ∈ (putD k v ks vs).1 ↔ x = k ∨ x ∈ ks := by
  rw [putD]
  rw [any_key]
  split
  · rename_i h
    simp only [decide_eq_true_eq] at h
    constructor
    · exact Or.inr
    · rintro (rfl | h')
      · exact h
      · exact h'
  · simp only [List.mem_append, List.mem_singleton]
    exact Or.comm
theorem putD_look {k v : D} : ∀ {ks vs : List D}, ks.length = vs.length → ∀ x, lookD x (putD k v ks vs).1 (putD k v ks vs).2 = if x = k then some v else lookD x ks vs := by
  intro ks vs h x
  rw [putD, any_key]
  by_cases hm : k ∈ ks
  · rw [if_pos (by simpa using hm)]
    simp only
    induction ks generalizing vs with
    | nil => simp at hm
    | cons a ks ih =>
      cases vs with
      | nil => simp at h
      | cons u vs =>
        simp only [List.length_cons, Nat.add_right_cancel_iff] at h
        simp only [List.zip_cons_cons, List.map_cons, lookD]
        by_cases ea : a = k
        · subst ea
          by_cases ex : a = x
          · subst ex; simp
          · have ex' : ¬ x = a := fun e => ex e.symm
            rw [if_neg ex, if_neg ex, if_neg ex']
            clear ih hm
            induction ks generalizing vs with
            | nil => simp [lookD]
            | cons b ks ih =>
              cases vs with
              | nil => simp at h
              | cons w vs =>
                simp only [List.length_cons, Nat.add_right_cancel_iff] at h
                simp only [List.zip_cons_cons, List.map_cons, lookD]
                by_cases eb : b = x
                · subst eb
                  rw [if_pos rfl, if_pos rfl, if_neg ex']
                · rw [if_neg eb, if_neg eb]
                  exact ih vs h
        · by_cases ex : a = x
          · subst ex
            rw [if_pos rfl, if_neg ea, if_neg ea, if_pos rfl]
          · rw [if_neg ex, if_neg ex]
            exact ih h ((List.mem_cons.mp hm).resolve_left (fun e => ea e.symm))
  · rw [if_neg (by simpa using hm)]
    simp only
    induction ks generalizing vs with
    | nil =>
      cases vs with
      | nil => simp [lookD, eq_comm]
      | cons => simp at h
    | cons a ks ih =>
      cases vs with
      | nil => simp at h
      | cons u vs =>
        simp only [List.length_cons, Nat.add_right_cancel_iff] at h
        simp only [List.mem_cons, not_or] at hm
        simp only [List.cons_append, lookD]
        by_cases ex : a = x
        · subst ex
          rw [if_pos rfl, if_neg (fun e => hm.1 e.symm), if_pos rfl]
        · rw [if_neg ex, if_neg ex]
          exact ih h hm.2
/-- a dict comprehension whose steps change nothing, values by keys -/
theorem dcGo_fun {α : Type} {b : Bool} {ws : List Nat} {step : D → Cs → Res (Option (D × D))} {M : Cs} (g : α → D) (key val : α → D) (xs : List α) (h : ∀ a ∈ xs, step (g a) M = .ok (some (key a, val a)) M) (hk : ∀ a ∈ xs, isKey b (key a) = true) (hl : xs.length < sizeLine)
    (hf : ∀ a ∈ xs, ∀ c ∈ xs, key a = key c → val a = val c) : ∃ ks vs, dcGo b ws step (xs.map g) [] [] M = .ok (ks, vs) M ∧ ks.length = vs.length ∧ ∀ a ∈ xs, lookD (key a) ks vs = some (val a) := by
  have main : ∀ (ys : List α) (ks vs : List D), (∀ a ∈ ys, a ∈ xs) → ks.length = vs.length → ks.length + ys.length ≤ xs.length → (∀ a ∈ xs, key a ∈ ks → lookD (key a) ks vs = some (val a)) →
      ∃ ks' vs', dcGo b ws step (ys.map g) ks vs M = .ok (ks', vs') M ∧ ks'.length = vs'.length ∧ (∀ x, x ∈ ks' ↔ x ∈ ks ∨ ∃ a ∈ ys, x = key a) ∧ ∀ a ∈ xs, key a ∈ ks' → lookD (key a) ks' vs' = some (val a) := fun ys => by
    induction ys with
    | nil =>
      intro ks vs _ hl2 _ hv
      exact ⟨ks, vs, by rw [List.map_nil, dcGo], hl2, by simp, hv⟩
    | cons y ys ih =>
      intro ks vs hs hl2 hc hv
      have hy := hs y List.mem_cons_self
      have hle : (putD (key y) (val y) ks vs).1.length ≤ ks.length + 1 := by
        rw [putD]; split <;> simp
      obtain ⟨ks', vs', e1, e2, e3, e4⟩ := ih (putD (key y) (val y) ks vs).1 (putD (key y) (val y) ks vs).2 (fun a ha => hs a (List.mem_cons_of_mem _ ha)) (putD_len hl2) (by simp only [List.length_cons] at hc; omega) (by
        intro a ha hm
        rw [putD_look hl2]
        split
        · rename_i e
          rw [hf a ha y hy e]
        · rename_i e
          exact hv a ha (((putD_mem _).mp hm).resolve_left e))
      refine ⟨ks', vs', ?_, e2, ?_, e4⟩
      · rw [List.map_cons, dcGo, h y hy]
        simp only
        rw [if_pos (by simp only [same_me, hk y hy, Bool.true_and, Bool.and_eq_true, decide_eq_true_eq]; simp only [List.length_cons] at hc; omega), e1]
      · intro x
        rw [e3, putD_mem]
        simp only [List.mem_cons, exists_eq_or_imp]
        constructor
        · rintro ((h | h) | h)
          · exact Or.inr (Or.inl h)
          · exact Or.inl h
          · exact Or.inr (Or.inr h)
        · rintro (h | h | h)
          · exact Or.inl (Or.inr h)
          · exact Or.inl (Or.inl h)
          · exact Or.inr h
  obtain ⟨ks, vs, e1, e2, e3, e4⟩ := main xs [] [] (fun a ha => ha) rfl (by simp) (by simp)
  exact ⟨ks, vs, e1, e2, fun a ha => e4 a ha ((e3 _).mpr (Or.inr ⟨a, ha, rfl⟩))⟩
@[simp] theorem isKey_T (xs : List Int) : isKey true (T xs) = true := by simp [isKey, isKeyT, T, isKeyK]
theorem idx_dct (b : Bool) (ks vs : List D) (k : D) (h : isKey b k = true) : idxD (.dct b ks vs) k = lookD k ks vs := by
  simp [idxD, h]
theorem frees_mem {n : Nat} : ∀ {xs : List D}, frees n xs = true → ∀ x ∈ xs, x.free n = true
  | [], _, _, h => by simp at h
  | y :: ys, h, x, hx => by
    simp only [frees, Bool.and_eq_true] at h
    rw [List.mem_cons] at hx
    rcases hx with rfl | hx
    · exact h.1
    · exact frees_mem h.2 x hx
theorem frees_of {n : Nat} : ∀ {xs : List D}, (∀ x ∈ xs, x.free n = true) → frees n xs = true
  | [], _ => by simp
  | y :: ys, h => by
    simp only [frees, Bool.and_eq_true]
    exact ⟨h y List.mem_cons_self, frees_of fun x hx => h x (List.mem_cons_of_mem _ hx)⟩
end Mp

/-! What repr shows of data without texts is short and sound. -/
namespace Mp
open PySem
theorem strOk_append (a b : Str) : PyData.strOk (a ++ b) = (PyData.strOk a && PyData.strOk b) := by
  show (a.cps ++ b.cps).all _ = _
  rw [Array.all_append]
  rfl
theorem strOk_of (s : String) : PyData.strOk (Str.ofString s) = true := by
  rw [Str.ofString_eq_toList, PyData.strOk, Array.all_eq_true_iff_forall_mem]
  intro c hc
  simp only [List.mem_toArray, List.mem_map] at hc
  obtain ⟨ch, _, rfl⟩ := hc
  have := ch.valid
  simp only [decide_eq_true_eq]
  simp only [UInt32.isValidChar, Nat.isValidChar] at this
  show ch.val.toNat < _
  omega
theorem strOk_textFrom : ∀ (ts : List Str) (k : Nat) (acc : Str), PyData.strOk acc = true → (∀ t ∈ ts, PyData.strOk t = true) → PyData.strOk (textFrom k acc ts) = true
  | [], _, _, h, _ => h
  | t :: ts, k, acc, h, ht => by
    rw [textFrom]
    refine strOk_textFrom ts (k + 1) _ ?_ fun x hx => ht x (List.mem_cons_of_mem _ hx)
    rw [strOk_append, strOk_append, h, ht t List.mem_cons_self, strOk_of]
    rfl
theorem strOk_list (ts : List Str) (h : ∀ t ∈ ts, PyData.strOk t = true) : PyData.strOk (listText ts) = true := by
  rw [listText, strOk_append, strOk_textFrom ts 0 _ (strOk_of _) h, strOk_of]
  rfl
theorem strOk_join (s : Str) (hs : PyData.strOk s = true) : ∀ (ts : List Str), (∀ t ∈ ts, PyData.strOk t = true) → PyData.strOk (Str.join s ts) = true
  | [], _ => by simp [Str.join, Str.empty, PyData.strOk]
  | [x], h => h x List.mem_cons_self
  | x :: y :: r, h => by
    rw [Str.join, strOk_append, strOk_append, h x List.mem_cons_self, hs, strOk_join s hs (y :: r) fun t ht => h t (List.mem_cons_of_mem _ ht)]
    · rfl
    · simp
theorem strOk_tuple (ts : List Str) (h : ∀ t ∈ ts, PyData.strOk t = true) : PyData.strOk (tupleText ts) = true := by
  rw [tupleText, strOk_append, strOk_append, strOk_of, strOk_join _ (strOk_of _) ts h, strOk_of]
  rfl
/-- small whole numbers, None, bools, tuples and lists of them -/
def fitR : Nat → D → Bool
  | _, .non => true
  | _, .bl _ => true
  | _, .int i => decide (i.natAbs < 1000000000000)
  | n + 1, .tup xs => xs.all (fitR n)
  | n + 1, .lst xs => xs.all (fitR n)
  | _, _ => false
theorem log_small {n : Nat} (h : n < 1000000000000) : n.log2 < 40 := by
  by_cases e : n = 0
  · subst e; decide
  · rw [Nat.log2_lt e]; omega
theorem fitR_ok : ∀ (n : Nat) (d : D), fitR n d = true → lvl n d = true ∧ d.py.showable = true ∧ PyData.strOk d.py.shown = true ∧ d.py.leavesShort 13 = true := by
  intro n
  induction n with
  | zero =>
    intro d h
    cases d <;> simp [fitR] at h
    · simp [lvl, D.py, PyData.showable, PyData.shown, PyData.leavesShort, strOk_of]
    · rename_i b
      cases b <;> simp [lvl, D.py, PyData.showable, PyData.shown, PyData.leavesShort, strOk_of]
    · rename_i i
      have := log_small h
      refine ⟨by simp [lvl], by simp [D.py, PyData.showable]; omega, by simp only [D.py, PyData.shown]; exact strOk_of _, ?_⟩
      simp only [D.py, PyData.leavesShort, decide_eq_true_eq]
      exact PyData.shown_int_le (by simpa using h)
  | succ n ih =>
    have key : ∀ xs : List D, xs.all (fitR n) = true → xs.all (lvl n) = true ∧ PyData.showableAll (pys xs) = true ∧ (∀ t ∈ PyData.shownAll (pys xs), PyData.strOk t = true) ∧ PyData.leavesShortAll 13 (pys xs) = true := fun xs => by
      induction xs with
      | nil => intro _; simp [pys, PyData.showableAll, PyData.shownAll, PyData.leavesShortAll]
      | cons x xs ih2 =>
        intro h
        simp only [List.all_cons, Bool.and_eq_true] at h
        obtain ⟨a, b, c, d⟩ := ih x h.1
        obtain ⟨a2, b2, c2, d2⟩ := ih2 h.2
        refine ⟨by simp [a, a2], by simp [pys, PyData.showableAll, b, b2], ?_, by simp [pys, PyData.leavesShortAll, d, d2]⟩
        intro t ht
        simp only [pys, PyData.shownAll, List.mem_cons] at ht
        rcases ht with rfl | ht
        · exact c
        · exact c2 t ht
    intro d h
    cases d <;> simp only [fitR, Bool.false_eq_true] at h
    · simp [lvl, D.py, PyData.showable, PyData.shown, PyData.leavesShort, strOk_of]
    · rename_i b
      cases b <;> simp [lvl, D.py, PyData.showable, PyData.shown, PyData.leavesShort, strOk_of]
    · rename_i i
      simp only [decide_eq_true_eq] at h
      have := log_small h
      refine ⟨by simp [lvl], by simp [D.py, PyData.showable]; omega, by simp only [D.py, PyData.shown]; exact strOk_of _, ?_⟩
      simp only [D.py, PyData.leavesShort, decide_eq_true_eq]
      exact PyData.shown_int_le (by simpa using h)
    · rename_i xs
      obtain ⟨a, b, c, d⟩ := key xs h
      exact ⟨by simpa [lvl] using a, by simpa [D.py, PyData.showable] using b, by simp only [D.py, PyData.shown]; exact strOk_tuple _ c, by simpa [D.py, PyData.leavesShort] using d⟩
    · rename_i xs
      obtain ⟨a, b, c, d⟩ := key xs h
      exact ⟨by simpa [lvl] using a, by simpa [D.py, PyData.showable] using b, by simp only [D.py, PyData.shown]; exact strOk_list _ c, by simpa [D.py, PyData.leavesShort] using d⟩
/-- weights -/
def wt (d : D) : Nat := d.py.weight
def wts (xs : List D) : Nat := PyData.weightAll (pys xs)
@[simp] theorem wt_tup (xs : List D) : wt (.tup xs) = wts xs := by simp [wt, wts, D.py, PyData.weight]
@[simp] theorem wt_lst (xs : List D) : wt (.lst xs) = wts xs := by simp [wt, wts, D.py, PyData.weight]
@[simp] theorem wts_nil : wts [] = 0 := by simp [wts, pys, PyData.weightAll]
@[simp] theorem wts_cons (x : D) (xs : List D) : wts (x :: xs) = wt x + 1 + wts xs := by simp [wts, wt, pys, PyData.weightAll]
@[simp] theorem wt_non : wt .non = 0 := by simp [wt, D.py, PyData.weight]
@[simp] theorem wt_bl (b : Bool) : wt (.bl b) = 0 := by simp [wt, D.py, PyData.weight]
theorem wt_int {i : Int} (h : i.natAbs < 1000000000000) : wt (.int i) ≤ 40 := by
  have := log_small h
  simp only [wt, D.py, PyData.weight]
  split <;> omega
theorem wts_le {α : Type} (f : α → D) (k : Nat) : ∀ (xs : List α), (∀ a ∈ xs, wt (f a) ≤ k) → wts (xs.map f) ≤ xs.length * (k + 1)
  | [], _ => by simp
  | x :: xs, h => by
    have h1 := h x List.mem_cons_self
    have h2 := wts_le f k xs fun a ha => h a (List.mem_cons_of_mem _ ha)
    simp only [List.map_cons, wts_cons, List.length_cons, Nat.add_mul]
    omega
theorem wts_append (a b : List D) : wts (a ++ b) = wts a + wts b := by
  induction a with
  | nil => simp
  | cons x xs ih => simp [ih]; omega
theorem wt_T (xs : List Int) (h : ∀ x ∈ xs, x.natAbs < 1000000000000) : wt (T xs) ≤ xs.length * 41 := by
  rw [T, wt_tup]
  exact wts_le .int 40 xs fun a ha => wt_int (h a ha)
theorem fit_T (n : Nat) (xs : List Int) (h : ∀ x ∈ xs, x.natAbs < 1000000000000) : fitR (n + 1) (T xs) = true := by
  simp only [T, fitR, List.all_map, List.all_eq_true, Function.comp_apply]
  intro x hx
  cases n <;> simp [fitR, h x hx]
theorem repr_ok {n : Nat} {d : D} (h : fitR n d = true) (hn : n ≤ 60) (hw : wt d ≤ 500000) : ∃ x, reprD [d] = some (.str x) ∧ PyData.strOk x = true := by
  obtain ⟨a, b, c, e⟩ := fitR_ok n d h
  have h1 := PyData.shown_le 13 (by omega) d.py e
  have h2 : d.py.weight ≤ 500000 := hw
  have h3 : d.py.shown.length + 64 ≤ sizeLine := small (by omega)
  refine ⟨d.py.shown, ?_, c⟩
  rw [reprD]
  rw [if_pos (by simp [sh_lvl a hn, b, h3])]
theorem clean_str {x : Str} (n : Nat) (h : PyData.strOk x = true) : clean n (.str x) = true := by cases n <;> simpa [clean] using h
theorem cmp_ne_str {x y : Str} (h : PyData.strOk x = true) (h2 : PyData.strOk y = true) : cmpD .NotEq (.str x) (.str y) = some (!decide (x = y)) := by
  rw [cmp_ne_c 0 (clean_str 0 h) (clean_str 0 h2) (by omega)]
  simp
theorem cmp_eq_str {x y : Str} (h : PyData.strOk x = true) (h2 : PyData.strOk y = true) : cmpD .Eq (.str x) (.str y) = some (decide (x = y)) := by
  rw [cmp_eq_c 0 (clean_str 0 h) (clean_str 0 h2) (by omega)]
  simp
end Mp

namespace Mk
open PySem Mp
abbrev ix_is_whole : Nat := 0
abbrev ix_is_between : Nat := 1
abbrev ix_is_tuple_of : Nat := 2
abbrev ix_all_rows : Nat := 3
abbrev ix_is_row_of : Nat := 4
abbrev ix_is_vector_by : Nat := 5
abbrev ix_vectors_by : Nat := 6
abbrev ix_first_sign : Nat := 7
abbrev ix_forward_by : Nat := 8
abbrev ix_turned_about : Nat := 9
abbrev ix_does_lead : Nat := 10
abbrev ix_is_chain_by : Nat := 11
abbrev ix_is_label : Nat := 12
abbrev ix_is_labelling_by : Nat := 13
abbrev ix_labels_by : Nat := 14
abbrev ix_last_thing_by : Nat := 15
abbrev ix_last_index : Nat := 16
abbrev ix_greatest_by : Nat := 17
abbrev ix_check_many : Nat := 18
abbrev ix_check_things : Nat := 19
abbrev ix_check_vector : Nat := 20
abbrev ix_check_labelling : Nat := 21
abbrev ix_vectors : Nat := 22
abbrev ix_forward_vectors : Nat := 23
abbrev ix_is_vector : Nat := 24
abbrev ix_is_chain : Nat := 25
abbrev ix_opposite : Nat := 26
abbrev ix_leads : Nat := 27
abbrev ix_is_labelling : Nat := 28
abbrev ix_label : Nat := 29
abbrev ix_last_thing : Nat := 30
abbrev ix_greatest : Nat := 31
abbrev ix_law_well : Nat := 32
abbrev ix_law_draw : Nat := 33
abbrev ix_law_one : Nat := 34
abbrev ix_law_mixed : Nat := 35
abbrev ix_law_is_whole : Nat := 36
abbrev ix_law_odd_thing : Nat := 37
abbrev ix_law_bent : Nat := 38
abbrev ix_law_vectors : Nat := 39
abbrev ix_law_opposite : Nat := 40
abbrev ix_law_is_forward : Nat := 41
abbrev ix_law_leads : Nat := 42
abbrev ix_law_fore : Nat := 43
abbrev ix_law_table : Nat := 44
abbrev ix_law_above : Nat := 45
abbrev ix_law_clashes : Nat := 46
abbrev ix_law_is_vector : Nat := 47
abbrev ix_law_is_chain : Nat := 48
abbrev ix_law_is_page : Nat := 49
abbrev ix_law_last : Nat := 50
abbrev ix_law_moved : Nat := 51
abbrev ix_law_sides : Nat := 52
abbrev ix_law_within : Nat := 53
abbrev ix_law_alternation : Nat := 54
abbrev ix_law_rows : Nat := 55
abbrev ix_law_held : Nat := 56
abbrev ix_law_apart : Nat := 57
abbrev ix_law_lots : Nat := 58
abbrev ix_law_family : Nat := 59
abbrev ix_law_coloured : Nat := 60
abbrev ix_law_by_colours : Nat := 61
abbrev ix_law_mended : Nat := 62
abbrev ix_law_page : Nat := 63
abbrev ix_law_part_chain : Nat := 64
abbrev ix_law_right : Nat := 65
abbrev ix_law : Nat := 66
def m_is_whole : MSs := (.cons (.ret (.and (.isa (.var 0) .int) (.not (.tru (.isa (.var 0) .bool))))) .nil)
abbrev mf_is_whole : MF := ⟨1, 1, m_is_whole, false⟩
def m_is_between : MSs := (.cons (.ret (.and (.call ix_is_whole (.cons (.var 0) .nil) .nil []) (.chain .LtE .LtE (.var 1) (.var 0) (.var 2)))) .nil)
abbrev mf_is_between : MF := ⟨3, 3, m_is_between, false⟩
def m_is_tuple_of : MSs := (.cons (.ret (.and (.isa (.var 0) .tuple) (.cmp .Eq (.blt .len (.cons (.var 0) .nil)) (.var 1)))) .nil)
abbrev mf_is_tuple_of : MF := ⟨2, 2, m_is_tuple_of, false⟩
def m_all_rows : MSs := (.cons (.asg (.nm 1) (.lst (.cons (.tup .nil) .nil))) (.cons (.for_ (.nm 2) (.rng (.con (.int 0)) (.var 0)) (.cons (.asg (.nm 1) (.lc2 [3, 4] [4] (.tup (.star (.var 3) (.cons (.var 4) .nil))) (.nm 3) (.seq (.var 1)) .nil (.nm 4) (.seq (.tup (.cons (.neg (.con (.int 1))) (.cons (.con (.int 0)) (.cons (.con (.int 1)) .nil))))) .nil)) .nil)) (.cons (.ret (.var 1)) .nil)))
abbrev mf_all_rows : MF := ⟨1, 5, m_all_rows, false⟩
def m_is_row_of : MSs := (.cons (.ret (.and (.call ix_is_tuple_of (.cons (.var 0) (.cons (.var 1) .nil)) .nil []) (.blt .all (.cons (.lc [2] (.call ix_is_between (.cons (.var 2) (.cons (.neg (.con (.int 1))) (.cons (.con (.int 1)) .nil))) .nil []) (.nm 2) (.seq (.var 0)) .nil) .nil)))) .nil)
abbrev mf_is_row_of : MF := ⟨2, 3, m_is_row_of, false⟩
def m_is_vector_by : MSs := (.cons (.ret (.and (.call ix_is_row_of (.cons (.var 1) (.cons (.var 0) .nil)) .nil []) (.blt .any (.cons (.lc [2] (.cmp .NotEq (.var 2) (.con (.int 0))) (.nm 2) (.seq (.var 1)) .nil) .nil)))) .nil)
abbrev mf_is_vector_by : MF := ⟨2, 3, m_is_vector_by, false⟩
def m_vectors_by : MSs := (.cons (.ret (.blt .tuple (.cons (.lc [1] (.var 1) (.nm 1) (.seq (.call ix_all_rows (.cons (.var 0) .nil) .nil [])) (.one (.tru (.blt .any (.cons (.lc [2] (.cmp .NotEq (.var 2) (.con (.int 0))) (.nm 2) (.seq (.var 1)) .nil) .nil))))) .nil))) .nil)
abbrev mf_vectors_by : MF := ⟨1, 3, m_vectors_by, false⟩
def m_first_sign : MSs := (.cons (.ret (.idx (.lc [1] (.var 1) (.nm 1) (.seq (.var 0)) (.one (.tru (.cmp .NotEq (.var 1) (.con (.int 0)))))) (.con (.int 0)))) .nil)
abbrev mf_first_sign : MF := ⟨1, 2, m_first_sign, false⟩
def m_forward_by : MSs := (.cons (.ret (.blt .tuple (.cons (.lc [1] (.var 1) (.nm 1) (.seq (.call ix_vectors_by (.cons (.var 0) .nil) .nil [])) (.one (.tru (.cmp .Eq (.call ix_first_sign (.cons (.var 1) .nil) .nil []) (.con (.int 1)))))) .nil))) .nil)
abbrev mf_forward_by : MF := ⟨1, 2, m_forward_by, false⟩
def m_turned_about : MSs := (.cons (.ret (.blt .tuple (.cons (.lc [1] (.neg (.var 1)) (.nm 1) (.seq (.var 0)) .nil) .nil))) .nil)
abbrev mf_turned_about : MF := ⟨1, 2, m_turned_about, false⟩
def m_does_lead : MSs := (.cons (.ret (.and (.cmp .NotEq (.var 0) (.var 1)) (.blt .all (.cons (.lc [2, 3] (.cmp .In (.var 2) (.tup (.cons (.con (.int 0)) (.cons (.var 3) .nil)))) (.tp (.cons (.nm 2) (.cons (.nm 3) .nil))) (.zip (.var 0) (.var 1)) .nil) .nil)))) .nil)
abbrev mf_does_lead : MF := ⟨2, 4, m_does_lead, false⟩
def m_is_chain_by : MSs := (.cons (.ite (.or (.not (.tru (.isa (.var 1) .tuple))) (.or (.tru (.cmp .Eq (.var 1) (.tup .nil))) (.not (.tru (.blt .all (.cons (.lc [4] (.call ix_is_vector_by (.cons (.var 0) (.cons (.var 4) .nil)) .nil []) (.nm 4) (.seq (.var 1)) .nil) .nil)))))) (.cons (.ret (.con (.bl false))) .nil) .nil) (.cons (.ret (.blt .all (.cons (.lc [2, 3] (.call ix_does_lead (.cons (.var 2) (.cons (.var 3) .nil)) .nil []) (.tp (.cons (.nm 2) (.cons (.nm 3) .nil))) (.zip (.var 1) (.slc (.var 1) (.one (.con (.int 1))) .nil)) .nil) .nil))) .nil))
abbrev mf_is_chain_by : MF := ⟨2, 5, m_is_chain_by, false⟩
def m_is_label : MSs := (.cons (.ret (.and (.call ix_is_between (.cons (.var 0) (.cons (.neg (.gl "MOST_LABEL" (.int (20)))) (.cons (.gl "MOST_LABEL" (.int (20))) .nil))) .nil []) (.cmp .NotEq (.var 0) (.con (.int 0))))) .nil)
abbrev mf_is_label : MF := ⟨1, 1, m_is_label, false⟩
def m_is_labelling_by : MSs := (.cons (.ite (.or (.not (.tru (.call ix_is_tuple_of (.cons (.var 0) (.cons (.con (.int 2)) .nil)) .nil []))) (.not (.tru (.call ix_is_between (.cons (.idx (.var 0) (.con (.int 0))) (.cons (.con (.int 1)) (.cons (.gl "MOST_THINGS" (.int (5))) .nil))) .nil [])))) (.cons (.ret (.con (.bl false))) .nil) .nil) (.cons (.ret (.and (.call ix_is_tuple_of (.cons (.idx (.var 0) (.con (.int 1))) (.cons (.blt .len (.cons (.call ix_forward_by (.cons (.idx (.var 0) (.con (.int 0))) .nil) .nil []) .nil)) .nil)) .nil []) (.blt .all (.cons (.lc [1] (.call ix_is_label (.cons (.var 1) .nil) .nil []) (.nm 1) (.seq (.idx (.var 0) (.con (.int 1)))) .nil) .nil)))) .nil))
abbrev mf_is_labelling_by : MF := ⟨1, 2, m_is_labelling_by, false⟩
def m_labels_by : MSs := (.cons (.asg (.nm 1) (.new (.dsp true .nil))) (.cons (.for_ (.tp (.cons (.nm 2) (.cons (.nm 3) .nil))) (.zip (.call ix_forward_by (.cons (.idx (.var 0) (.con (.int 0))) .nil) .nil []) (.idx (.var 0) (.con (.int 1)))) (.cons (.asg (.sub (.var 1) (.var 2)) (.var 3)) (.cons (.asg (.sub (.var 1) (.call ix_turned_about (.cons (.var 2) .nil) .nil [])) (.neg (.var 3))) .nil))) (.cons (.ret (.frz (.var 1))) .nil)))
abbrev mf_labels_by : MF := ⟨1, 4, m_labels_by, false⟩
def m_last_thing_by : MSs := (.cons (.asg (.nm 1) (.new (.lst .nil))) (.cons (.for_ (.nm 2) (.seq (.call ix_forward_by (.cons (.var 0) .nil) .nil [])) (.cons (.asg (.nm 3) (.call ix_last_index (.cons (.var 2) .nil) .nil [])) (.cons (.exp (.mut .append (.var 1) (.cons (.bin .Mult (.idx (.var 2) (.var 3)) (.bin .Add (.var 3) (.con (.int 1)))) .nil))) .nil))) (.cons (.ret (.tup (.cons (.var 0) (.cons (.blt .tuple (.cons (.var 1) .nil)) .nil)))) .nil)))
abbrev mf_last_thing_by : MF := ⟨1, 4, m_last_thing_by, false⟩
def m_last_index : MSs := (.cons (.ret (.idx (.lc [1, 2] (.var 1) (.tp (.cons (.nm 1) (.cons (.nm 2) .nil))) (.enm (.var 0)) (.one (.tru (.cmp .NotEq (.var 2) (.con (.int 0)))))) (.neg (.con (.int 1))))) .nil)
abbrev mf_last_index : MF := ⟨1, 3, m_last_index, false⟩
def m_greatest_by : MSs := (.cons (.ret (.blt .max (.cons (.lc [1] (.blt .abs (.cons (.var 1) .nil)) (.nm 1) (.seq (.idx (.var 0) (.con (.int 1)))) .nil) .nil))) .nil)
abbrev mf_greatest_by : MF := ⟨1, 2, m_greatest_by, false⟩
def m_check_many : MSs := (.cons (.ite (.not (.tru (.call ix_is_between (.cons (.var 0) (.cons (.var 1) (.cons (.var 2) .nil))) .nil []))) (.cons .nev .nil) .nil) .nil)
abbrev mf_check_many : MF := ⟨3, 3, m_check_many, false⟩
def m_check_things : MSs := (.cons (.exp (.call ix_check_many (.cons (.var 0) (.cons (.con (.int 1)) (.cons (.gl "MOST_THINGS" (.int (5))) .nil))) .nil [])) .nil)
abbrev mf_check_things : MF := ⟨1, 1, m_check_things, false⟩
def m_check_vector : MSs := (.cons (.ite (.not (.tru (.call ix_is_vector_by (.cons (.var 0) (.cons (.var 1) .nil)) .nil []))) (.cons .nev .nil) .nil) .nil)
abbrev mf_check_vector : MF := ⟨2, 2, m_check_vector, false⟩
def m_check_labelling : MSs := (.cons (.ite (.not (.tru (.call ix_is_labelling_by (.cons (.var 0) .nil) .nil []))) (.cons .nev .nil) .nil) .nil)
abbrev mf_check_labelling : MF := ⟨1, 1, m_check_labelling, false⟩
def m_vectors : MSs := (.cons (.exp (.call ix_check_things (.cons (.var 0) .nil) .nil [])) (.cons (.ret (.call ix_vectors_by (.cons (.var 0) .nil) .nil [])) .nil))
abbrev mf_vectors : MF := ⟨1, 1, m_vectors, false⟩
def m_forward_vectors : MSs := (.cons (.exp (.call ix_check_things (.cons (.var 0) .nil) .nil [])) (.cons (.ret (.call ix_forward_by (.cons (.var 0) .nil) .nil [])) .nil))
abbrev mf_forward_vectors : MF := ⟨1, 1, m_forward_vectors, false⟩
def m_is_vector : MSs := (.cons (.exp (.call ix_check_things (.cons (.var 0) .nil) .nil [])) (.cons (.ret (.call ix_is_vector_by (.cons (.var 0) (.cons (.var 1) .nil)) .nil [])) .nil))
abbrev mf_is_vector : MF := ⟨2, 2, m_is_vector, false⟩
def m_is_chain : MSs := (.cons (.exp (.call ix_check_things (.cons (.var 0) .nil) .nil [])) (.cons (.ret (.call ix_is_chain_by (.cons (.var 0) (.cons (.var 1) .nil)) .nil [])) .nil))
abbrev mf_is_chain : MF := ⟨2, 2, m_is_chain, false⟩
def m_opposite : MSs := (.cons (.exp (.call ix_check_things (.cons (.var 0) .nil) .nil [])) (.cons (.exp (.call ix_check_vector (.cons (.var 0) (.cons (.var 1) .nil)) .nil [])) (.cons (.ret (.call ix_turned_about (.cons (.var 1) .nil) .nil [])) .nil)))
abbrev mf_opposite : MF := ⟨2, 2, m_opposite, false⟩
def m_leads : MSs := (.cons (.exp (.call ix_check_things (.cons (.var 0) .nil) .nil [])) (.cons (.exp (.call ix_check_vector (.cons (.var 0) (.cons (.var 1) .nil)) .nil [])) (.cons (.exp (.call ix_check_vector (.cons (.var 0) (.cons (.var 2) .nil)) .nil [])) (.cons (.ret (.call ix_does_lead (.cons (.var 1) (.cons (.var 2) .nil)) .nil [])) .nil))))
abbrev mf_leads : MF := ⟨3, 3, m_leads, false⟩
def m_is_labelling : MSs := (.cons (.ret (.call ix_is_labelling_by (.cons (.var 0) .nil) .nil [])) .nil)
abbrev mf_is_labelling : MF := ⟨1, 1, m_is_labelling, false⟩
def m_label : MSs := (.cons (.exp (.call ix_check_labelling (.cons (.var 0) .nil) .nil [])) (.cons (.exp (.call ix_check_vector (.cons (.idx (.var 0) (.con (.int 0))) (.cons (.var 1) .nil)) .nil [])) (.cons (.ret (.idx (.call ix_labels_by (.cons (.var 0) .nil) .nil []) (.var 1))) .nil)))
abbrev mf_label : MF := ⟨2, 2, m_label, false⟩
def m_last_thing : MSs := (.cons (.exp (.call ix_check_things (.cons (.var 0) .nil) .nil [])) (.cons (.ret (.call ix_last_thing_by (.cons (.var 0) .nil) .nil [])) .nil))
abbrev mf_last_thing : MF := ⟨1, 1, m_last_thing, false⟩
def m_greatest : MSs := (.cons (.exp (.call ix_check_labelling (.cons (.var 0) .nil) .nil [])) (.cons (.ret (.call ix_greatest_by (.cons (.var 0) .nil) .nil [])) .nil))
abbrev mf_greatest : MF := ⟨1, 1, m_greatest, false⟩
def m_law_well : MSs := (.cons (.asg (.nm 2) (.bin .Add (.con (.int 90217)) (.bin .Mult (.con (.int 4001)) (.var 1)))) (.cons (.for_ (.nm 3) (.seq (.slc (.var 0) .nil (.one (.con (.int 12))))) (.cons (.asg (.nm 2) (.bin .Mod (.blt .int (.cons (.bin .Add (.bin .Add (.bin .Mult (.var 2) (.con (.int 40127))) (.bin .Mult (.bin .Mod (.blt .int (.cons (.var 3) .nil)) (.con (.int 2147483587))) (.con (.int 11)))) (.con (.int 17))) .nil)) (.con (.int 2147483587)))) .nil)) (.cons (.asg (.nm 4) (.ite (.tru (.cmp .Lt (.var 1) (.blt .len (.cons (.var 0) .nil)))) (.blt .int (.cons (.idx (.var 0) (.var 1)) .nil)) (.con (.int 0)))) (.cons (.asg (.nm 2) (.bin .Mod (.blt .int (.cons (.bin .Add (.bin .Add (.bin .Mult (.var 2) (.con (.int 97))) (.bin .Mult (.bin .Mod (.blt .int (.cons (.var 4) .nil)) (.con (.int 2147483587))) (.con (.int 20021)))) (.con (.int 5))) .nil)) (.con (.int 2147483587)))) (.cons (.ret (.new (.lst (.cons (.ite (.or (.tru (.cmp .Lt (.var 4) (.con (.int 0)))) (.tru (.cmp .GtE (.var 4) (.bin .Pow (.con (.int 10)) (.con (.int 15)))))) (.blt .abs (.cons (.var 4) .nil)) (.con (.int 0))) (.cons (.var 2) (.cons (.con (.int 0)) .nil)))))) .nil)))))
abbrev mf_law_well : MF := ⟨2, 5, m_law_well, true⟩
def m_law_draw : MSs := (.cons (.ite (.tru (.cmp .Gt (.idx (.var 0) (.con (.int 0))) (.con (.int 0)))) (.cons (.asg (.tp (.cons (.sub (.var 0) (.con (.int 0))) (.cons (.nm 3) .nil))) (.blt .divmod (.cons (.idx (.var 0) (.con (.int 0))) (.cons (.var 1) .nil)))) (.cons (.ret (.var 3)) .nil)) .nil) (.cons (.asg (.sub (.var 0) (.con (.int 2))) (.bin .Add (.idx (.var 0) (.con (.int 2))) (.con (.int 1)))) (.cons (.asg (.nm 2) (.bin .Mod (.blt .int (.cons (.bin .Add (.bin .Mult (.idx (.var 0) (.con (.int 1))) (.con (.int 48271))) (.bin .Mult (.con (.int 13007)) (.idx (.var 0) (.con (.int 2))))) .nil)) (.con (.int 2147483587)))) (.cons (.asg (.sub (.var 0) (.con (.int 1))) (.bin .Mod (.blt .int (.cons (.bin .Add (.bin .Mult (.var 2) (.bin .Add (.bin .Mod (.blt .int (.cons (.var 2) .nil)) (.con (.int 4993))) (.con (.int 20021)))) (.idx (.var 0) (.con (.int 2)))) .nil)) (.con (.int 2147483587)))) (.cons (.ret (.bin .Mod (.blt .int (.cons (.bin .FloorDiv (.idx (.var 0) (.con (.int 1))) (.con (.int 983))) .nil)) (.var 1))) .nil)))))
abbrev mf_law_draw : MF := ⟨2, 4, m_law_draw, false⟩
def m_law_one : MSs := (.cons (.ret (.idx (.var 1) (.call ix_law_draw (.cons (.var 0) (.cons (.blt .len (.cons (.var 1) .nil)) .nil)) .nil []))) .nil)
abbrev mf_law_one : MF := ⟨2, 2, m_law_one, false⟩
def m_law_mixed : MSs := (.cons (.asg (.tp (.cons (.nm 2) (.cons (.nm 3) .nil))) (.tup (.cons (.new (.blt .list (.cons (.var 1) .nil))) (.cons (.new (.lst .nil)) .nil)))) (.cons (.whl (.tru (.cmp .NotEq (.var 2) (.lst .nil))) (.cons (.exp (.mut .append (.var 3) (.cons (.mut .pop (.var 2) (.cons (.call ix_law_draw (.cons (.var 0) (.cons (.blt .len (.cons (.var 2) .nil)) .nil)) .nil []) .nil)) .nil))) .nil)) (.cons (.ret (.frz (.var 3))) .nil)))
abbrev mf_law_mixed : MF := ⟨2, 4, m_law_mixed, false⟩
def m_law_is_whole : MSs := (.cons (.ret (.and (.isa (.var 0) .int) (.not (.tru (.isa (.var 0) .bool))))) .nil)
abbrev mf_law_is_whole : MF := ⟨1, 1, m_law_is_whole, false⟩
def m_law_odd_thing : MSs := (.cons (.asg (.nm 1) (.tup (.cons (.con .non) (.cons (.con (.bl true)) (.cons (.con (.bl false)) (.cons (.con (.str "1")) (.cons (.con (.str "")) (.cons (.neg (.con (.int 1))) (.cons (.con (.int 0)) (.cons (.con (.int 1)) (.cons (.con (.int 7)) (.cons (.bin .Pow (.con (.int 10)) (.con (.int 30))) (.cons (.tup .nil) (.cons (.lst .nil) (.cons (.dsp false .nil) (.cons (.tup (.cons (.con (.int 1)) (.cons (.con (.int 0)) .nil))) (.cons (.lst (.cons (.con (.int 1)) (.cons (.con (.int 0)) .nil))) (.cons (.tup (.cons (.tup (.cons (.con (.int 1)) (.cons (.con (.int 0)) .nil))) .nil)) (.cons (.tup (.cons (.con (.bl true)) (.cons (.con (.int 0)) .nil))) .nil))))))))))))))))))) (.cons (.ret (.call ix_law_one (.cons (.var 0) (.cons (.var 1) .nil)) .nil [])) .nil))
abbrev mf_law_odd_thing : MF := ⟨1, 2, m_law_odd_thing, false⟩
def m_law_bent : MSs := (.cons (.asg (.tp (.cons (.nm 4) (.cons (.nm 5) .nil))) (.tup (.cons (.new (.lst .nil)) (.cons (.var 1) .nil)))) (.cons (.for_ (.nm 2) (.rng (.con (.int 0)) (.call ix_law_draw (.cons (.var 0) (.cons (.con (.int 5)) .nil)) .nil [])) (.cons (.ite (.or (.not (.tru (.isa (.var 5) .tuple))) (.tru (.cmp .Eq (.var 5) (.tup .nil)))) (.cons .brk .nil) .nil) (.cons (.asg (.nm 6) (.call ix_law_draw (.cons (.var 0) (.cons (.blt .len (.cons (.var 5) .nil)) .nil)) .nil [])) (.cons (.exp (.mut .append (.var 4) (.cons (.tup (.cons (.var 5) (.cons (.var 6) .nil))) .nil))) (.cons (.asg (.nm 5) (.idx (.var 5) (.var 6))) .nil))))) (.cons (.asg (.nm 3) (.call ix_law_draw (.cons (.var 0) (.cons (.con (.int 9)) .nil)) .nil [])) (.cons (.ite (.and (.tru (.isa (.var 5) .tuple)) (.tru (.cmp .Lt (.var 3) (.con (.int 7))))) (.cons (.asg (.nm 5) (.idx (.tup (.cons (.blt .list (.cons (.var 5) .nil)) (.cons (.slc (.var 5) .nil (.one (.neg (.con (.int 1))))) (.cons (.bin .Add (.var 5) (.slc (.var 5) (.one (.neg (.con (.int 1)))) .nil)) (.cons (.slc (.var 5) (.one (.con (.int 1))) .nil) (.cons (.rev (.var 5)) (.cons (.bin .Add (.var 5) (.tup (.cons (.con (.int 0)) .nil))) (.cons (.tup (.cons (.var 5) .nil)) .nil)))))))) (.var 3))) .nil) (.cons (.ite (.and (.tru (.call ix_law_is_whole (.cons (.var 5) .nil) .nil [])) (.tru (.cmp .Lt (.var 3) (.con (.int 7))))) (.cons (.asg (.nm 5) (.idx (.tup (.cons (.bin .Add (.var 5) (.con (.int 1))) (.cons (.bin .Sub (.var 5) (.con (.int 1))) (.cons (.bin .Sub (.con (.int 0)) (.var 5)) (.cons (.cmp .Gt (.var 5) (.con (.int 0))) (.cons (.bin .Mult (.var 5) (.con (.int 2))) (.cons (.blt .str (.cons (.var 5) .nil)) (.cons (.bin .Add (.var 5) (.con (.int 5))) .nil)))))))) (.var 3))) .nil) (.cons (.ite (.and (.tru (.isa (.var 5) .str)) (.tru (.cmp .Lt (.var 3) (.con (.int 4))))) (.cons (.asg (.nm 5) (.idx (.tup (.cons (.bin .Add (.var 5) (.con (.str "a"))) (.cons (.slc (.var 5) (.one (.con (.int 1))) .nil) (.cons (.bin .Add (.con (.str "not ")) (.var 5)) (.cons (.rev (.var 5)) .nil))))) (.var 3))) .nil) (.cons (.asg (.nm 5) (.call ix_law_odd_thing (.cons (.var 0) .nil) .nil [])) .nil)) .nil)) .nil)) (.cons (.for_ (.tp (.cons (.nm 7) (.cons (.nm 6) .nil))) (.seq (.rev (.var 4))) (.cons (.asg (.nm 5) (.bin .Add (.bin .Add (.slc (.var 7) .nil (.one (.var 6))) (.tup (.cons (.var 5) .nil))) (.slc (.var 7) (.one (.bin .Add (.var 6) (.con (.int 1)))) .nil))) .nil)) (.cons (.ret (.var 5)) .nil))))))
abbrev mf_law_bent : MF := ⟨2, 8, m_law_bent, false⟩
def m_law_vectors : MSs := (.cons (.asg (.nm 1) (.lst (.cons (.tup .nil) .nil))) (.cons (.for_ (.nm 2) (.rng (.con (.int 0)) (.var 0)) (.cons (.asg (.nm 3) (.lst .nil)) (.cons (.for_ (.nm 4) (.seq (.var 1)) (.cons (.asg (.nm 3) (.bin .Add (.var 3) (.lc [5] (.bin .Add (.var 4) (.tup (.cons (.var 5) .nil))) (.nm 5) (.seq (.tup (.cons (.neg (.con (.int 1))) (.cons (.con (.int 0)) (.cons (.con (.int 1)) .nil))))) .nil))) .nil)) (.cons (.asg (.nm 1) (.var 3)) .nil)))) (.cons (.ret (.lc [4] (.var 4) (.nm 4) (.seq (.var 1)) (.one (.tru (.cmp .NotEq (.var 4) (.bin .Mult (.tup (.cons (.con (.int 0)) .nil)) (.var 0))))))) .nil)))
abbrev mf_law_vectors : MF := ⟨1, 6, m_law_vectors, false⟩
def m_law_opposite : MSs := (.cons (.ret (.blt .tuple (.cons (.lc [1] (.bin .Sub (.con (.int 0)) (.var 1)) (.nm 1) (.seq (.var 0)) .nil) .nil))) .nil)
abbrev mf_law_opposite : MF := ⟨1, 2, m_law_opposite, false⟩
def m_law_is_forward : MSs := (.cons (.ret (.cmp .Eq (.idx (.lc [1] (.var 1) (.nm 1) (.seq (.var 0)) (.one (.tru (.cmp .NotEq (.var 1) (.con (.int 0)))))) (.con (.int 0))) (.con (.int 1)))) .nil)
abbrev mf_law_is_forward : MF := ⟨1, 2, m_law_is_forward, false⟩
def m_law_leads : MSs := (.cons (.ret (.and (.cmp .NotEq (.var 0) (.var 1)) (.blt .all (.cons (.lc [2, 3] (.or (.cmp .Eq (.var 2) (.con (.int 0))) (.cmp .Eq (.var 2) (.var 3))) (.tp (.cons (.nm 2) (.cons (.nm 3) .nil))) (.zip (.var 0) (.var 1)) .nil) .nil)))) .nil)
abbrev mf_law_leads : MF := ⟨2, 4, m_law_leads, false⟩
def m_law_fore : MSs := (.cons (.ret (.lc [1] (.var 1) (.nm 1) (.seq (.call ix_law_vectors (.cons (.var 0) .nil) .nil [])) (.one (.tru (.call ix_law_is_forward (.cons (.var 1) .nil) .nil []))))) .nil)
abbrev mf_law_fore : MF := ⟨1, 2, m_law_fore, false⟩
def m_law_table : MSs := (.cons (.asg (.tp (.cons (.nm 2) (.cons (.nm 3) .nil))) (.tup (.cons (.call ix_law_fore (.cons (.idx (.var 0) (.con (.int 0))) .nil) .nil []) (.cons (.new (.dsp true .nil)) .nil)))) (.cons (.for_ (.nm 1) (.rng (.con (.int 0)) (.blt .len (.cons (.var 2) .nil))) (.cons (.asg (.sub (.var 3) (.idx (.var 2) (.var 1))) (.idx (.idx (.var 0) (.con (.int 1))) (.var 1))) (.cons (.asg (.sub (.var 3) (.call ix_law_opposite (.cons (.idx (.var 2) (.var 1)) .nil) .nil [])) (.bin .Sub (.con (.int 0)) (.idx (.idx (.var 0) (.con (.int 1))) (.var 1)))) .nil))) (.cons (.ret (.frz (.var 3))) .nil)))
abbrev mf_law_table : MF := ⟨1, 4, m_law_table, false⟩
def m_law_above : MSs := (.cons (.asg (.nm 1) (.lst .nil)) (.cons (.for_ (.nm 2) (.rng (.con (.int 0)) (.blt .len (.cons (.var 0) .nil))) (.cons (.ite (.tru (.cmp .Eq (.idx (.var 0) (.var 2)) (.con (.int 0)))) (.cons (.asg (.nm 1) (.bin .Add (.var 1) (.lc [3] (.bin .Add (.bin .Add (.slc (.var 0) .nil (.one (.var 2))) (.tup (.cons (.var 3) .nil))) (.slc (.var 0) (.one (.bin .Add (.var 2) (.con (.int 1)))) .nil)) (.nm 3) (.seq (.tup (.cons (.neg (.con (.int 1))) (.cons (.con (.int 1)) .nil)))) .nil))) .nil) .nil) .nil)) (.cons (.ret (.var 1)) .nil)))
abbrev mf_law_above : MF := ⟨1, 4, m_law_above, false⟩
def m_law_clashes : MSs := (.cons (.asg (.tp (.cons (.nm 2) (.cons (.nm 3) .nil))) (.tup (.cons (.blt .sorted (.cons (.blt .list (.cons (.var 0) .nil)) .nil)) (.cons (.lst .nil) .nil)))) (.cons (.for_ (.nm 1) (.seq (.var 2)) (.cons (.asg (.nm 3) (.bin .Add (.var 3) (.lc [4] (.tup (.cons (.var 1) (.cons (.var 4) .nil))) (.nm 4) (.seq (.var 2)) (.one (.and (.tru (.cmp .Eq (.bin .Add (.idx (.var 0) (.var 1)) (.idx (.var 0) (.var 4))) (.con (.int 0)))) (.tru (.call ix_law_leads (.cons (.var 1) (.cons (.var 4) .nil)) .nil []))))))) .nil)) (.cons (.ret (.var 3)) .nil)))
abbrev mf_law_clashes : MF := ⟨1, 5, m_law_clashes, false⟩
def m_law_is_vector : MSs := (.cons (.ite (.or (.not (.tru (.isa (.var 1) .tuple))) (.tru (.cmp .NotEq (.blt .len (.cons (.var 1) .nil)) (.var 0)))) (.cons (.ret (.con (.bl false))) .nil) .nil) (.cons (.ret (.and (.blt .all (.cons (.lc [2] (.and (.call ix_law_is_whole (.cons (.var 2) .nil) .nil []) (.chain .LtE .LtE (.neg (.con (.int 1))) (.var 2) (.con (.int 1)))) (.nm 2) (.seq (.var 1)) .nil) .nil)) (.blt .any (.cons (.lc [2] (.cmp .NotEq (.var 2) (.con (.int 0))) (.nm 2) (.seq (.var 1)) .nil) .nil)))) .nil))
abbrev mf_law_is_vector : MF := ⟨2, 3, m_law_is_vector, false⟩
def m_law_is_chain : MSs := (.cons (.ite (.or (.not (.tru (.isa (.var 1) .tuple))) (.or (.tru (.cmp .Eq (.var 1) (.tup .nil))) (.not (.tru (.blt .all (.cons (.lc [3] (.call ix_law_is_vector (.cons (.var 0) (.cons (.var 3) .nil)) .nil []) (.nm 3) (.seq (.var 1)) .nil) .nil)))))) (.cons (.ret (.con (.bl false))) .nil) .nil) (.cons (.ret (.blt .all (.cons (.lc [2] (.call ix_law_leads (.cons (.idx (.var 1) (.var 2)) (.cons (.idx (.var 1) (.bin .Add (.var 2) (.con (.int 1)))) .nil)) .nil []) (.nm 2) (.rng (.con (.int 0)) (.bin .Sub (.blt .len (.cons (.var 1) .nil)) (.con (.int 1)))) .nil) .nil))) .nil))
abbrev mf_law_is_chain : MF := ⟨2, 4, m_law_is_chain, false⟩
def m_law_is_page : MSs := (.cons (.ite (.or (.not (.tru (.isa (.var 0) .tuple))) (.or (.tru (.cmp .NotEq (.blt .len (.cons (.var 0) .nil)) (.con (.int 2)))) (.or (.not (.tru (.call ix_law_is_whole (.cons (.idx (.var 0) (.con (.int 0))) .nil) .nil []))) (.not (.tru (.chain .LtE .LtE (.con (.int 1)) (.idx (.var 0) (.con (.int 0))) (.con (.int 5)))))))) (.cons (.ret (.con (.bl false))) .nil) .nil) (.cons (.ite (.or (.not (.tru (.isa (.idx (.var 0) (.con (.int 1))) .tuple))) (.tru (.cmp .NotEq (.blt .len (.cons (.idx (.var 0) (.con (.int 1))) .nil)) (.idx (.tup (.cons (.con (.int 1)) (.cons (.con (.int 4)) (.cons (.con (.int 13)) (.cons (.con (.int 40)) (.cons (.con (.int 121)) .nil)))))) (.bin .Sub (.idx (.var 0) (.con (.int 0))) (.con (.int 1))))))) (.cons (.ret (.con (.bl false))) .nil) .nil) (.cons (.ret (.blt .all (.cons (.lc [1] (.and (.call ix_law_is_whole (.cons (.var 1) .nil) .nil []) (.and (.chain .LtE .LtE (.neg (.con (.int 20))) (.var 1) (.con (.int 20))) (.cmp .NotEq (.var 1) (.con (.int 0))))) (.nm 1) (.seq (.idx (.var 0) (.con (.int 1)))) .nil) .nil))) .nil)))
abbrev mf_law_is_page : MF := ⟨1, 2, m_law_is_page, false⟩
def m_law_last : MSs := (.cons (.ret (.idx (.lc [1] (.var 1) (.nm 1) (.rng (.con (.int 0)) (.blt .len (.cons (.var 0) .nil))) (.one (.tru (.cmp .NotEq (.idx (.var 0) (.var 1)) (.con (.int 0)))))) (.neg (.con (.int 1))))) .nil)
abbrev mf_law_last : MF := ⟨1, 2, m_law_last, false⟩
def m_law_moved : MSs := (.cons (.asg (.tp (.cons (.nm 4) (.cons (.nm 5) .nil))) (.tup (.cons (.call ix_law_mixed (.cons (.var 0) (.cons (.lrng (.con (.int 0)) (.var 1)) .nil)) .nil []) (.cons (.lc [10] (.call ix_law_one (.cons (.var 0) (.cons (.tup (.cons (.con (.int 1)) (.cons (.con (.int 1)) (.cons (.neg (.con (.int 1))) .nil)))) .nil)) .nil []) (.nm 10) (.rng (.con (.int 0)) (.var 1)) .nil) .nil)))) (.cons (.asg (.nm 2) (.ite (.tru (.cmp .Eq (.call ix_law_draw (.cons (.var 0) (.cons (.con (.int 2)) .nil)) .nil []) (.con (.int 0)))) (.slc (.call ix_law_mixed (.cons (.var 0) (.cons (.lrng (.con (.int 1)) (.con (.int 8))) .nil)) .nil []) .nil (.one (.var 1))) (.lrng (.con (.int 1)) (.bin .Add (.var 1) (.con (.int 1)))))) (.cons (.asg (.nm 2) (.ite (.tru (.cmp .Eq (.call ix_law_draw (.cons (.var 0) (.cons (.con (.int 9)) .nil)) .nil []) (.con (.int 0)))) (.lc [11] (.bin .Sub (.con (.int 20)) (.var 11)) (.nm 11) (.seq (.var 2)) .nil) (.var 2))) (.cons (.asg (.tp (.cons (.nm 6) (.cons (.nm 7) .nil))) (.tup (.cons (.lc [10] (.call ix_law_one (.cons (.var 0) (.cons (.tup (.cons (.con (.int 1)) (.cons (.con (.int 1)) (.cons (.neg (.con (.int 1))) .nil)))) .nil)) .nil []) (.nm 10) (.rng (.con (.int 0)) (.var 1)) .nil) (.cons (.new (.lst .nil)) .nil)))) (.cons (.for_ (.nm 3) (.seq (.call ix_law_fore (.cons (.var 1) .nil) .nil [])) (.cons (.asg (.nm 8) (.lc [9] (.bin .Mult (.idx (.var 3) (.idx (.var 4) (.var 9))) (.idx (.var 5) (.var 9))) (.nm 9) (.rng (.con (.int 0)) (.var 1)) .nil)) (.cons (.asg (.nm 9) (.call ix_law_last (.cons (.var 8) .nil) .nil [])) (.cons (.exp (.mut .append (.var 7) (.cons (.bin .Mult (.bin .Mult (.idx (.var 2) (.var 9)) (.idx (.var 6) (.var 9))) (.idx (.var 8) (.var 9))) .nil))) .nil)))) (.cons (.ret (.tup (.cons (.var 1) (.cons (.blt .tuple (.cons (.var 7) .nil)) .nil)))) .nil))))))
abbrev mf_law_moved : MF := ⟨2, 12, m_law_moved, false⟩
def m_law_sides : MSs := (.cons (.ret (.blt .tuple (.cons (.lc [1] (.blt .tuple (.cons (.lc [2] (.var 2) (.nm 2) (.rng (.con (.int 0)) (.blt .len (.cons (.var 0) .nil))) (.one (.tru (.cmp .Eq (.idx (.var 0) (.var 2)) (.var 1))))) .nil)) (.nm 1) (.seq (.tup (.cons (.con (.int 1)) (.cons (.neg (.con (.int 1))) .nil)))) .nil) .nil))) .nil)
abbrev mf_law_sides : MF := ⟨1, 3, m_law_sides, false⟩
def m_law_within : MSs := (.cons (.ret (.blt .all (.cons (.lc [2] (.cmp .In (.var 2) (.var 1)) (.nm 2) (.seq (.var 0)) .nil) .nil))) .nil)
abbrev mf_law_within : MF := ⟨2, 3, m_law_within, false⟩
def m_law_alternation : MSs := (.cons (.asg (.tp (.cons (.nm 2) (.cons (.nm 3) .nil))) (.tup (.cons (.con (.int 0)) (.cons (.con (.int 0)) .nil)))) (.cons (.for_ (.nm 1) (.seq (.var 0)) (.cons (.ite (.and (.tru (.cmp .NotEq (.var 1) (.con (.int 0)))) (.tru (.cmp .NotEq (.var 1) (.var 3)))) (.cons (.asg (.tp (.cons (.nm 2) (.cons (.nm 3) .nil))) (.tup (.cons (.bin .Add (.var 2) (.con (.int 1))) (.cons (.var 1) .nil)))) .nil) .nil) .nil)) (.cons (.ret (.var 2)) .nil)))
abbrev mf_law_alternation : MF := ⟨1, 4, m_law_alternation, false⟩
def m_law_rows : MSs := (.cons (.ret (.blt .sorted (.cons (.bin .Add (.call ix_law_vectors (.cons (.var 0) .nil) .nil []) (.lst (.cons (.bin .Mult (.tup (.cons (.con (.int 0)) .nil)) (.var 0)) .nil))) .nil))) .nil)
abbrev mf_law_rows : MF := ⟨1, 1, m_law_rows, false⟩
def m_law_held : MSs := (.cons (.ret (.lc [2] (.blt .any (.cons (.lc [3] (.call ix_law_within (.cons (.var 3) (.cons (.var 2) .nil)) .nil []) (.nm 3) (.seq (.var 0)) .nil) .nil)) (.nm 2) (.seq (.call ix_law_sides (.cons (.var 1) .nil) .nil [])) .nil)) .nil)
abbrev mf_law_held : MF := ⟨2, 4, m_law_held, false⟩
def m_law_apart : MSs := (.cons (.ret (.blt .all (.cons (.lc [2] (.cmp .NotIn (.var 2) (.var 1)) (.nm 2) (.seq (.var 0)) .nil) .nil))) .nil)
abbrev mf_law_apart : MF := ⟨2, 3, m_law_apart, false⟩
def m_law_lots : MSs := (.cons (.asg (.nm 1) (.lst (.cons (.tup .nil) .nil))) (.cons (.for_ (.nm 2) (.rdn (.bin .Sub (.var 0) (.con (.int 1)))) (.cons (.asg (.nm 1) (.bin .Add (.bin .Add (.lst (.cons (.tup .nil) .nil)) (.lc [3] (.bin .Add (.tup (.cons (.var 2) .nil)) (.var 3)) (.nm 3) (.seq (.var 1)) .nil)) (.slc (.var 1) (.one (.con (.int 1))) .nil))) .nil)) (.cons (.ret (.slc (.var 1) (.one (.con (.int 1))) .nil)) .nil)))
abbrev mf_law_lots : MF := ⟨1, 4, m_law_lots, false⟩
def m_law_family : MSs := (.cons (.asg (.nm 2) (.call ix_law_lots (.cons (.var 1) .nil) .nil [])) (.cons (.asg (.nm 3) (.ite (.tru (.cmp .Eq (.call ix_law_draw (.cons (.var 0) (.cons (.con (.int 2)) .nil)) .nil []) (.con (.int 0)))) (.lc [5] (.var 5) (.nm 5) (.seq (.var 2)) (.one (.tru (.cmp .LtE (.blt .len (.cons (.var 5) .nil)) (.con (.int 2)))))) (.var 2))) (.cons (.asg (.nm 4) (.bin .Add (.con (.int 1)) (.call ix_law_draw (.cons (.var 0) (.cons (.blt .min (.cons (.blt .len (.cons (.var 3) .nil)) (.cons (.call ix_law_one (.cons (.var 0) (.cons (.tup (.cons (.con (.int 3)) (.cons (.con (.int 6)) (.cons (.con (.int 10)) .nil)))) .nil)) .nil []) .nil))) .nil)) .nil []))) (.cons (.ret (.tup (.cons (.var 1) (.cons (.blt .tuple (.cons (.blt .sorted (.cons (.slc (.call ix_law_mixed (.cons (.var 0) (.cons (.var 3) .nil)) .nil []) .nil (.one (.var 4))) .nil)) .nil)) .nil)))) .nil))))
abbrev mf_law_family : MF := ⟨2, 6, m_law_family, false⟩
def m_law_coloured : MSs := (.cons (.asg (.nm 2) (.new (.dsp true .nil))) (.cons (.for_ (.nm 3) (.seq (.call ix_law_mixed (.cons (.var 0) (.cons (.var 1) .nil)) .nil [])) (.cons (.asg (.nm 4) (.lc [6] (.idx (.var 2) (.var 6)) (.nm 6) (.seq (.blt .list (.cons (.var 2) .nil))) (.one (.tru (.call ix_law_apart (.cons (.var 3) (.cons (.var 6) .nil)) .nil []))))) (.cons (.asg (.nm 5) (.lc [7] (.var 7) (.nm 7) (.rng (.con (.int 0)) (.bin .Add (.blt .len (.cons (.var 1) .nil)) (.con (.int 2)))) (.one (.tru (.cmp .NotIn (.var 7) (.var 4)))))) (.cons (.asg (.sub (.var 2) (.var 3)) (.ite (.tru (.cmp .Gt (.call ix_law_draw (.cons (.var 0) (.cons (.con (.int 4)) .nil)) .nil []) (.con (.int 0)))) (.idx (.var 5) (.con (.int 0))) (.call ix_law_one (.cons (.var 0) (.cons (.slc (.var 5) .nil (.one (.con (.int 3)))) .nil)) .nil []))) .nil)))) (.cons (.ret (.blt .tuple (.cons (.lc [3] (.idx (.var 2) (.var 3)) (.nm 3) (.seq (.var 1)) .nil) .nil))) .nil)))
abbrev mf_law_coloured : MF := ⟨2, 8, m_law_coloured, false⟩
def m_law_by_colours : MSs := (.cons (.asg (.tp (.cons (.nm 5) (.cons (.nm 6) .nil))) (.var 0)) (.cons (.asg (.nm 2) (.blt .max (.cons (.lc [4] (.call ix_law_alternation (.cons (.var 4) .nil) .nil []) (.nm 4) (.seq (.call ix_law_rows (.cons (.var 5) .nil) .nil [])) (.one (.tru (.cmp .NotIn (.con (.bl true)) (.call ix_law_held (.cons (.var 6) (.cons (.var 4) .nil)) .nil []))))) .nil))) (.cons (.asg (.nm 3) (.new (.lst .nil))) (.cons (.for_ (.nm 4) (.seq (.call ix_law_fore (.cons (.var 5) .nil) .nil [])) (.cons (.asg (.tp (.cons (.nm 8) (.cons (.nm 9) .nil))) (.tup (.cons (.lst .nil) (.cons (.call ix_law_sides (.cons (.var 4) .nil) .nil []) .nil)))) (.cons (.for_ (.nm 7) (.seq (.tup (.cons (.con (.int 0)) (.cons (.con (.int 1)) .nil)))) (.cons (.asg (.nm 10) (.lc [11] (.var 11) (.nm 11) (.rng (.con (.int 0)) (.blt .len (.cons (.var 6) .nil))) (.one (.tru (.call ix_law_within (.cons (.idx (.var 6) (.var 11)) (.cons (.idx (.var 9) (.var 7)) .nil)) .nil []))))) (.cons (.asg (.nm 8) (.bin .Add (.var 8) (.lc [11] (.tup (.cons (.idx (.var 1) (.var 11)) (.cons (.bin .Sub (.con (.int 1)) (.bin .Mult (.con (.int 2)) (.var 7))) .nil))) (.nm 11) (.seq (.var 10)) .nil))) .nil))) (.cons (.exp (.mut .append (.var 3) (.cons (.ite (.tru (.cmp .Eq (.var 8) (.lst .nil))) (.call ix_law_alternation (.cons (.var 4) .nil) .nil []) (.bin .Mult (.bin .Add (.bin .Add (.var 2) (.con (.int 1))) (.idx (.blt .min (.cons (.var 8) .nil)) (.con (.int 0)))) (.idx (.blt .min (.cons (.var 8) .nil)) (.con (.int 1))))) .nil))) .nil)))) (.cons (.ret (.tup (.cons (.var 5) (.cons (.blt .tuple (.cons (.var 3) .nil)) .nil)))) .nil)))))
abbrev mf_law_by_colours : MF := ⟨2, 12, m_law_by_colours, false⟩
def m_law_mended : MSs := (.cons (.asg (.tp (.cons (.nm 5) (.cons (.nm 6) .nil))) (.tup (.cons (.call ix_law_one (.cons (.var 0) (.cons (.tup (.cons (.var 1) (.cons (.bin .Add (.var 1) (.con (.int 1))) (.cons (.bin .Add (.var 1) (.con (.int 3))) (.cons (.ite (.tru (.cmp .Gt (.var 1) (.con (.int 1)))) (.bin .Sub (.var 1) (.con (.int 1))) (.con (.int 1))) .nil))))) .nil)) .nil []) (.cons (.call ix_law_fore (.cons (.var 1) .nil) .nil []) .nil)))) (.cons (.asg (.nm 2) (.new (.dsp true .nil))) (.cons (.for_ (.nm 3) (.seq (.var 6)) (.cons (.asg (.sub (.var 2) (.var 3)) (.bin .Mult (.call ix_law_one (.cons (.var 0) (.cons (.tup (.cons (.con (.int 1)) (.cons (.con (.int 1)) (.cons (.neg (.con (.int 1))) .nil)))) .nil)) .nil []) (.bin .Add (.con (.int 1)) (.call ix_law_draw (.cons (.var 0) (.cons (.var 5) .nil)) .nil [])))) .nil)) (.cons (.for_ (.nm 4) (.rng (.con (.int 0)) (.con (.int 60))) (.cons (.asg (.nm 7) (.call ix_law_clashes (.cons (.call ix_law_table (.cons (.tup (.cons (.var 1) (.cons (.blt .tuple (.cons (.lc [3] (.idx (.var 2) (.var 3)) (.nm 3) (.seq (.var 6)) .nil) .nil)) .nil))) .nil) .nil []) .nil) .nil [])) (.cons (.ite (.tru (.cmp .Eq (.var 7) (.lst .nil))) (.cons .brk .nil) .nil) (.cons (.asg (.nm 8) (.idx (.var 7) (.call ix_law_draw (.cons (.var 0) (.cons (.blt .len (.cons (.var 7) .nil)) .nil)) .nil []))) (.cons (.asg (.nm 3) (.idx (.var 8) (.call ix_law_draw (.cons (.var 0) (.cons (.con (.int 2)) .nil)) .nil []))) (.cons (.asg (.nm 3) (.ite (.tru (.call ix_law_is_forward (.cons (.var 3) .nil) .nil [])) (.var 3) (.call ix_law_opposite (.cons (.var 3) .nil) .nil []))) (.cons (.asg (.sub (.var 2) (.var 3)) (.bin .Mult (.call ix_law_one (.cons (.var 0) (.cons (.tup (.cons (.con (.int 1)) (.cons (.neg (.con (.int 1))) .nil))) .nil)) .nil []) (.bin .Add (.con (.int 1)) (.call ix_law_draw (.cons (.var 0) (.cons (.bin .Add (.var 5) (.ite (.tru (.cmp .Gt (.var 4) (.con (.int 30)))) (.con (.int 1)) (.con (.int 0)))) .nil)) .nil [])))) .nil))))))) (.cons (.ret (.tup (.cons (.var 1) (.cons (.blt .tuple (.cons (.lc [3] (.idx (.var 2) (.var 3)) (.nm 3) (.seq (.var 6)) .nil) .nil)) .nil)))) .nil)))))
abbrev mf_law_mended : MF := ⟨2, 9, m_law_mended, false⟩
def m_law_page : MSs := (.cons (.asg (.nm 2) (.call ix_law_draw (.cons (.var 0) (.cons (.ite (.tru (.cmp .Lt (.var 1) (.con (.int 5)))) (.con (.int 8)) (.con (.int 4))) .nil)) .nil [])) (.cons (.ite (.tru (.cmp .Lt (.var 2) (.con (.int 2)))) (.cons (.ret (.call ix_law_moved (.cons (.var 0) (.cons (.var 1) .nil)) .nil [])) .nil) .nil) (.cons (.ite (.tru (.cmp .Lt (.var 2) (.con (.int 4)))) (.cons (.asg (.nm 4) (.call ix_law_family (.cons (.var 0) (.cons (.var 1) .nil)) .nil [])) (.cons (.ret (.call ix_law_by_colours (.cons (.var 4) (.cons (.call ix_law_coloured (.cons (.var 0) (.cons (.idx (.var 4) (.con (.int 1))) .nil)) .nil []) .nil)) .nil [])) .nil)) .nil) (.cons (.ite (.tru (.cmp .Lt (.var 2) (.con (.int 6)))) (.cons (.ret (.call ix_law_mended (.cons (.var 0) (.cons (.var 1) .nil)) .nil [])) .nil) .nil) (.cons (.asg (.nm 3) (.blt .len (.cons (.call ix_law_fore (.cons (.var 1) .nil) .nil []) .nil))) (.cons (.ite (.tru (.cmp .Eq (.var 2) (.con (.int 6)))) (.cons (.asg (.nm 5) (.call ix_law_one (.cons (.var 0) (.cons (.tup (.cons (.con (.int 1)) (.cons (.var 1) (.cons (.bin .Add (.var 1) (.con (.int 2))) (.cons (.con (.int 20)) .nil))))) .nil)) .nil [])) (.cons (.ret (.tup (.cons (.var 1) (.cons (.blt .tuple (.cons (.lc [8] (.bin .Mult (.call ix_law_one (.cons (.var 0) (.cons (.tup (.cons (.con (.int 1)) (.cons (.neg (.con (.int 1))) .nil))) .nil)) .nil []) (.bin .Add (.con (.int 1)) (.call ix_law_draw (.cons (.var 0) (.cons (.var 5) .nil)) .nil []))) (.nm 8) (.rng (.con (.int 0)) (.var 3)) .nil) .nil)) .nil)))) .nil)) .nil) (.cons (.asg (.tp (.cons (.nm 6) (.cons (.nm 7) .nil))) (.tup (.cons (.call ix_law_moved (.cons (.var 0) (.cons (.var 1) .nil)) .nil []) (.cons (.call ix_law_draw (.cons (.var 0) (.cons (.var 3) .nil)) .nil []) .nil)))) (.cons (.ret (.tup (.cons (.var 1) (.cons (.bin .Add (.bin .Add (.slc (.idx (.var 6) (.con (.int 1))) .nil (.one (.var 7))) (.tup (.cons (.bin .Mult (.call ix_law_one (.cons (.var 0) (.cons (.tup (.cons (.con (.int 1)) (.cons (.neg (.con (.int 1))) .nil))) .nil)) .nil []) (.bin .Add (.con (.int 1)) (.call ix_law_draw (.cons (.var 0) (.cons (.bin .Add (.var 1) (.con (.int 1))) .nil)) .nil []))) .nil))) (.slc (.idx (.var 6) (.con (.int 1))) (.one (.bin .Add (.var 7) (.con (.int 1)))) .nil)) .nil)))) .nil))))))))
abbrev mf_law_page : MF := ⟨2, 9, m_law_page, false⟩
def m_law_part_chain : MSs := (.cons (.asg (.tp (.cons (.nm 3) (.cons (.nm 4) .nil))) (.tup (.cons (.tup .nil) (.cons (.bin .Mult (.tup (.cons (.con (.int 0)) .nil)) (.var 1)) .nil)))) (.cons (.for_ (.nm 2) (.rng (.con (.int 0)) (.bin .Add (.con (.int 1)) (.call ix_law_draw (.cons (.var 0) (.cons (.var 1) .nil)) .nil []))) (.cons (.for_ (.nm 5) (.rng (.con (.int 0)) (.bin .Add (.con (.int 1)) (.call ix_law_draw (.cons (.var 0) (.cons (.con (.int 2)) .nil)) .nil []))) (.cons (.asg (.nm 6) (.call ix_law_above (.cons (.var 4) .nil) .nil [])) (.cons (.asg (.nm 4) (.ite (.tru (.cmp .NotEq (.var 6) (.lst .nil))) (.call ix_law_one (.cons (.var 0) (.cons (.var 6) .nil)) .nil []) (.var 4))) .nil))) (.cons (.ite (.tru (.cmp .NotIn (.var 4) (.var 3))) (.cons (.asg (.nm 3) (.bin .Add (.var 3) (.tup (.cons (.var 4) .nil)))) .nil) .nil) .nil))) (.cons (.ret (.var 3)) .nil)))
abbrev mf_law_part_chain : MF := ⟨2, 7, m_law_part_chain, false⟩
def m_law_right : MSs := (.cons (.asg (.nm 1) (.call ix_law_one (.cons (.var 0) (.cons (.tup (.cons (.con (.int 2)) (.cons (.con (.int 3)) (.cons (.con (.int 3)) (.cons (.con (.int 4)) (.cons (.con (.int 1)) (.cons (.con (.int 4)) (.cons (.con (.int 5)) .nil)))))))) .nil)) .nil [])) (.cons (.asg (.tp (.cons (.nm 7) (.cons (.nm 8) .nil))) (.tup (.cons (.call ix_law_vectors (.cons (.var 1) .nil) .nil []) (.cons (.call ix_law_page (.cons (.var 0) (.cons (.var 1) .nil)) .nil []) .nil)))) (.cons (.ite (.or (.tru (.cmp .NotEq (.blt .repr (.cons (.call ix_vectors .nil (.cons (.var 1) .nil) [0]) .nil)) (.blt .repr (.cons (.blt .tuple (.cons (.var 7) .nil)) .nil)))) (.tru (.cmp .NotEq (.blt .repr (.cons (.call ix_forward_vectors (.cons (.var 1) .nil) .nil []) .nil)) (.blt .repr (.cons (.blt .tuple (.cons (.call ix_law_fore (.cons (.var 1) .nil) .nil []) .nil)) .nil))))) (.cons (.ret (.con (.bl false))) .nil) .nil) (.cons (.asg (.nm 2) (.tup (.cons (.var 1) (.cons (.blt .tuple (.cons (.lc [17] (.bin .Add (.bin .Mult (.call ix_law_last (.cons (.var 17) .nil) .nil []) (.idx (.var 17) (.call ix_law_last (.cons (.var 17) .nil) .nil []))) (.idx (.var 17) (.call ix_law_last (.cons (.var 17) .nil) .nil []))) (.nm 17) (.seq (.call ix_law_fore (.cons (.var 1) .nil) .nil [])) .nil) .nil)) .nil)))) (.cons (.ite (.or (.tru (.cmp .NotEq (.blt .repr (.cons (.call ix_last_thing (.cons (.var 1) .nil) .nil []) .nil)) (.blt .repr (.cons (.var 2) .nil)))) (.tru (.cmp .NotEq (.call ix_greatest (.cons (.var 8) .nil) .nil []) (.blt .max (.cons (.lc [16] (.blt .abs (.cons (.var 16) .nil)) (.nm 16) (.seq (.idx (.var 8) (.con (.int 1)))) .nil) .nil))))) (.cons (.ret (.con (.bl false))) .nil) .nil) (.cons (.ite (.tru (.cmp .NotEq (.call ix_greatest (.cons (.tup (.cons (.var 1) (.cons (.bin .Add (.tup (.cons (.neg (.con (.int 20))) .nil)) (.slc (.idx (.var 8) (.con (.int 1))) (.one (.con (.int 1))) .nil)) .nil))) .nil) .nil []) (.con (.int 20)))) (.cons (.ret (.con (.bl false))) .nil) .nil) (.cons (.asg (.nm 3) (.call ix_law_table (.cons (.var 8) .nil) .nil [])) (.cons (.for_ (.nm 4) (.rng (.con (.int 0)) (.con (.int 12))) (.cons (.asg (.tp (.cons (.nm 12) (.cons (.nm 9) .nil))) (.tup (.cons (.call ix_law_one (.cons (.var 0) (.cons (.var 7) .nil)) .nil []) (.cons (.call ix_law_one (.cons (.var 0) (.cons (.var 7) .nil)) .nil []) .nil)))) (.cons (.asg (.nm 9) (.ite (.and (.tru (.cmp .Eq (.call ix_law_draw (.cons (.var 0) (.cons (.con (.int 2)) .nil)) .nil []) (.con (.int 0)))) (.tru (.cmp .In (.con (.int 0)) (.var 12)))) (.call ix_law_one (.cons (.var 0) (.cons (.call ix_law_above (.cons (.var 12) .nil) .nil []) .nil)) .nil []) (.var 9))) (.cons (.ite (.tru (.cmp .NotEq (.blt .repr (.cons (.call ix_opposite .nil (.cons (.var 12) (.cons (.var 1) .nil)) [1, 0]) .nil)) (.blt .repr (.cons (.call ix_law_opposite (.cons (.var 12) .nil) .nil []) .nil)))) (.cons (.ret (.con (.bl false))) .nil) .nil) (.cons (.ite (.tru (.cmp .NotEq (.blt .repr (.cons (.call ix_leads (.cons (.var 1) (.cons (.var 12) (.cons (.var 9) .nil))) .nil []) .nil)) (.blt .repr (.cons (.call ix_law_leads (.cons (.var 12) (.cons (.var 9) .nil)) .nil []) .nil)))) (.cons (.ret (.con (.bl false))) .nil) .nil) (.cons (.ite (.tru (.cmp .IsNot (.call ix_leads .nil (.cons (.var 1) (.cons (.var 12) (.cons (.var 12) .nil))) [0, 2, 1]) (.con (.bl false)))) (.cons (.ret (.con (.bl false))) .nil) .nil) (.cons (.ite (.or (.tru (.cmp .NotEq (.blt .repr (.cons (.call ix_label (.cons (.var 8) (.cons (.var 12) .nil)) .nil []) .nil)) (.blt .repr (.cons (.idx (.var 3) (.var 12)) .nil)))) (.tru (.cmp .NotEq (.blt .repr (.cons (.call ix_label .nil (.cons (.var 9) (.cons (.var 8) .nil)) [1, 0]) .nil)) (.blt .repr (.cons (.idx (.var 3) (.var 9)) .nil))))) (.cons (.ret (.con (.bl false))) .nil) .nil) .nil))))))) (.cons (.asg (.tp (.cons (.nm 10) (.cons (.nm 11) .nil))) (.tup (.cons (.call ix_law_part_chain (.cons (.var 0) (.cons (.var 1) .nil)) .nil []) (.cons (.call ix_law_one (.cons (.var 0) (.cons (.var 7) .nil)) .nil []) .nil)))) (.cons (.asg (.nm 5) (.new (.lst (.cons (.var 11) (.cons (.var 10) (.cons (.var 8) (.cons (.rev (.var 10)) (.cons (.bin .Add (.var 10) (.slc (.var 10) (.one (.neg (.con (.int 1)))) .nil)) (.cons (.slc (.var 10) .nil (.one (.con (.int 1)))) (.cons (.bin .Add (.var 11) (.tup (.cons (.con (.int 0)) .nil))) (.cons (.slc (.var 11) .nil (.one (.neg (.con (.int 1))))) (.cons (.bin .Mult (.tup (.cons (.con (.int 0)) .nil)) (.var 1)) (.cons (.blt .list (.cons (.var 11) .nil)) .nil))))))))))))) (.cons (.asg (.nm 5) (.new (.bin .Add (.var 5) (.lst (.cons (.blt .tuple (.cons (.lc [16] (.bin .Mult (.con (.int 2)) (.var 16)) (.nm 16) (.seq (.var 11)) .nil) .nil)) (.cons (.blt .tuple (.cons (.lc [16] (.cmp .Eq (.var 16) (.con (.int 1))) (.nm 16) (.seq (.var 11)) .nil) .nil)) (.cons (.lc [17] (.blt .list (.cons (.var 17) .nil)) (.nm 17) (.seq (.var 10)) .nil) (.cons (.tup .nil) .nil)))))))) (.cons (.asg (.nm 5) (.new (.bin .Add (.var 5) (.lst (.cons (.tup (.cons (.var 1) (.cons (.slc (.idx (.var 8) (.con (.int 1))) .nil (.one (.neg (.con (.int 1))))) .nil))) (.cons (.tup (.cons (.var 1) (.cons (.bin .Add (.idx (.var 8) (.con (.int 1))) (.tup (.cons (.con (.int 1)) .nil))) .nil))) (.cons (.tup (.cons (.var 1) (.cons (.bin .Add (.tup (.cons (.con (.int 0)) .nil)) (.slc (.idx (.var 8) (.con (.int 1))) (.one (.con (.int 1))) .nil)) .nil))) (.cons (.tup (.cons (.con (.int 6)) (.cons (.idx (.var 8) (.con (.int 1))) .nil))) (.cons (.tup (.cons (.con (.int 0)) (.cons (.tup .nil) .nil))) .nil))))))))) (.cons (.exp (.mut .append (.var 5) (.cons (.tup (.cons (.con (.int 6)) (.cons (.bin .Mult (.tup (.cons (.con (.int 1)) .nil)) (.con (.int 364))) .nil))) .nil))) (.cons (.asg (.nm 6) (.blt .tuple (.cons (.lc [16] (.ite (.tru (.cmp .NotEq (.var 16) (.con (.int 0)))) (.var 16) (.call ix_law_one (.cons (.var 0) (.cons (.tup (.cons (.con (.int 1)) (.cons (.neg (.con (.int 1))) .nil))) .nil)) .nil [])) (.nm 16) (.seq (.idx (.var 10) (.con (.int 0)))) .nil) .nil))) (.cons (.for_ (.tp (.cons (.nm 12) (.cons (.nm 9) .nil))) (.seq (.tup (.cons (.tup (.cons (.idx (.var 10) (.con (.int 0))) (.cons (.var 6) .nil))) (.cons (.tup (.cons (.var 6) (.cons (.idx (.var 10) (.con (.int 0))) .nil))) (.cons (.tup (.cons (.idx (.var 10) (.con (.int 0))) (.cons (.idx (.var 10) (.neg (.con (.int 1)))) .nil))) (.cons (.tup (.cons (.idx (.var 10) (.con (.int 0))) (.cons (.call ix_law_opposite (.cons (.var 6) .nil) .nil []) .nil))) .nil)))))) (.cons (.ite (.tru (.cmp .NotEq (.blt .repr (.cons (.call ix_leads (.cons (.var 1) (.cons (.var 12) (.cons (.var 9) .nil))) .nil []) .nil)) (.blt .repr (.cons (.call ix_law_leads (.cons (.var 12) (.cons (.var 9) .nil)) .nil []) .nil)))) (.cons (.ret (.con (.bl false))) .nil) .nil) .nil)) (.cons (.asg (.nm 5) (.new (.bin .Add (.var 5) (.lst (.cons (.tup (.cons (.var 1) (.cons (.bin .Add (.slc (.idx (.var 8) (.con (.int 1))) .nil (.one (.neg (.con (.int 1))))) (.tup (.cons (.call ix_law_one (.cons (.var 0) (.cons (.tup (.cons (.con (.int 20)) (.cons (.con (.int 21)) (.cons (.neg (.con (.int 20))) (.cons (.neg (.con (.int 21))) .nil))))) .nil)) .nil []) .nil))) .nil))) (.cons (.blt .list (.cons (.var 8) .nil)) (.cons (.tup (.cons (.con (.bl true)) (.cons (.tup (.cons (.con (.int 1)) .nil)) .nil))) (.cons (.tup (.cons (.con (.int 1)) (.cons (.tup (.cons (.con (.int 1)) .nil)) .nil))) .nil)))))))) (.cons (.asg (.nm 5) (.new (.bin .Add (.var 5) (.lst (.cons (.tup (.cons (.var 1) (.cons (.blt .list (.cons (.idx (.var 8) (.con (.int 1))) .nil)) .nil))) (.cons (.tup (.cons (.var 1) (.cons (.bin .Add (.slc (.idx (.var 8) (.con (.int 1))) .nil (.one (.neg (.con (.int 1))))) (.tup (.cons (.con (.bl true)) .nil))) .nil))) (.cons (.bin .Add (.slc (.var 10) .nil (.one (.neg (.con (.int 1))))) (.tup (.cons (.blt .list (.cons (.idx (.var 10) (.neg (.con (.int 1)))) .nil)) .nil))) .nil))))))) (.cons (.asg (.nm 5) (.new (.bin .Add (.bin .Add (.var 5) (.lc [4] (.call ix_law_bent (.cons (.var 0) (.cons (.call ix_law_one (.cons (.var 0) (.cons (.tup (.cons (.var 11) (.cons (.var 10) (.cons (.var 8) .nil)))) .nil)) .nil []) .nil)) .nil []) (.nm 4) (.rng (.con (.int 0)) (.con (.int 9))) .nil)) (.lst (.cons (.call ix_law_odd_thing (.cons (.var 0) .nil) .nil []) .nil))))) (.cons (.for_ (.tp (.cons (.nm 13) (.cons (.nm 14) .nil))) (.enm (.var 5)) (.cons (.asg (.nm 15) (.ite (.tru (.cmp .Eq (.bin .Mod (.blt .int (.cons (.var 13) .nil)) (.con (.int 2))) (.con (.int 0)))) (.call ix_is_vector (.cons (.var 1) (.cons (.var 14) .nil)) .nil []) (.call ix_is_vector .nil (.cons (.var 14) (.cons (.var 1) .nil)) [1, 0]))) (.cons (.ite (.tru (.cmp .NotEq (.blt .repr (.cons (.var 15) .nil)) (.blt .repr (.cons (.call ix_law_is_vector (.cons (.var 1) (.cons (.var 14) .nil)) .nil []) .nil)))) (.cons (.ret (.con (.bl false))) .nil) .nil) (.cons (.ite (.tru (.cmp .NotEq (.blt .repr (.cons (.call ix_is_chain (.cons (.var 1) (.cons (.var 14) .nil)) .nil []) .nil)) (.blt .repr (.cons (.call ix_law_is_chain (.cons (.var 1) (.cons (.var 14) .nil)) .nil []) .nil)))) (.cons (.ret (.con (.bl false))) .nil) .nil) (.cons (.ite (.tru (.cmp .NotEq (.blt .repr (.cons (.call ix_is_labelling (.cons (.var 14) .nil) .nil []) .nil)) (.blt .repr (.cons (.call ix_law_is_page (.cons (.var 14) .nil) .nil []) .nil)))) (.cons (.ret (.con (.bl false))) .nil) .nil) .nil))))) (.cons (.ret (.and (.cmp .Is (.call ix_is_chain .nil (.cons (.var 10) (.cons (.var 1) .nil)) [1, 0]) (.con (.bl true))) (.cmp .Is (.call ix_is_labelling .nil (.cons (.var 8) .nil) [0]) (.con (.bl true))))) .nil))))))))))))))))))))
abbrev mf_law_right : MF := ⟨1, 18, m_law_right, false⟩
def m_law : MSs := (.cons (.ret (.blt .all (.cons (.lc [1] (.call ix_law_right (.cons (.call ix_law_well (.cons (.var 0) (.cons (.var 1) .nil)) .nil []) .nil) .nil []) (.nm 1) (.rng (.con (.int 0)) (.blt .max (.cons (.con (.int 1)) (.cons (.blt .min (.cons (.blt .len (.cons (.var 0) .nil)) (.cons (.con (.int 2)) .nil))) .nil)))) .nil) .nil))) .nil)
abbrev mf_law : MF := ⟨1, 2, m_law, false⟩
def Ds : List Df := [⟨"is_whole", ["value"], ["value"], mf_is_whole⟩,
  ⟨"is_between", ["value", "low", "high"], ["value", "low", "high"], mf_is_between⟩,
  ⟨"is_tuple_of", ["value", "many"], ["value", "many"], mf_is_tuple_of⟩,
  ⟨"all_rows", ["things"], ["things", "found", "_", "row", "number"], mf_all_rows⟩,
  ⟨"is_row_of", ["value", "things"], ["value", "things", "each"], mf_is_row_of⟩,
  ⟨"is_vector_by", ["things", "value"], ["things", "value", "each"], mf_is_vector_by⟩,
  ⟨"vectors_by", ["things"], ["things", "row", "each"], mf_vectors_by⟩,
  ⟨"first_sign", ["row"], ["row", "each"], mf_first_sign⟩,
  ⟨"forward_by", ["things"], ["things", "vector"], mf_forward_by⟩,
  ⟨"turned_about", ["vector"], ["vector", "each"], mf_turned_about⟩,
  ⟨"does_lead", ["one", "two"], ["one", "two", "here", "there"], mf_does_lead⟩,
  ⟨"is_chain_by", ["things", "value"], ["things", "value", "one", "two", "each"], mf_is_chain_by⟩,
  ⟨"is_label", ["value"], ["value"], mf_is_label⟩,
  ⟨"is_labelling_by", ["value"], ["value", "each"], mf_is_labelling_by⟩,
  ⟨"labels_by", ["labelling"], ["labelling", "found", "vector", "label"], mf_labels_by⟩,
  ⟨"last_thing_by", ["things"], ["things", "found", "vector", "index"], mf_last_thing_by⟩,
  ⟨"last_index", ["vector"], ["vector", "index", "each"], mf_last_index⟩,
  ⟨"greatest_by", ["labelling"], ["labelling", "each"], mf_greatest_by⟩,
  ⟨"check_many", ["value", "low", "high"], ["value", "low", "high"], mf_check_many⟩,
  ⟨"check_things", ["value"], ["value"], mf_check_things⟩,
  ⟨"check_vector", ["things", "value"], ["things", "value"], mf_check_vector⟩,
  ⟨"check_labelling", ["value"], ["value"], mf_check_labelling⟩,
  ⟨"vectors", ["things"], ["things"], mf_vectors⟩,
  ⟨"forward_vectors", ["things"], ["things"], mf_forward_vectors⟩,
  ⟨"is_vector", ["things", "value"], ["things", "value"], mf_is_vector⟩,
  ⟨"is_chain", ["things", "value"], ["things", "value"], mf_is_chain⟩,
  ⟨"opposite", ["things", "vector"], ["things", "vector"], mf_opposite⟩,
  ⟨"leads", ["things", "vector", "other"], ["things", "vector", "other"], mf_leads⟩,
  ⟨"is_labelling", ["value"], ["value"], mf_is_labelling⟩,
  ⟨"label", ["labelling", "vector"], ["labelling", "vector"], mf_label⟩,
  ⟨"last_thing", ["things"], ["things"], mf_last_thing⟩,
  ⟨"greatest", ["labelling"], ["labelling"], mf_greatest⟩,
  ⟨"_law_well", ["script", "lap"], ["script", "lap", "mixed", "cell", "own"], mf_law_well⟩,
  ⟨"_law_draw", ["well", "few"], ["well", "few", "mixed", "figure"], mf_law_draw⟩,
  ⟨"_law_one", ["well", "some"], ["well", "some"], mf_law_one⟩,
  ⟨"_law_mixed", ["well", "some"], ["well", "some", "left", "found"], mf_law_mixed⟩,
  ⟨"_law_is_whole", ["thing"], ["thing"], mf_law_is_whole⟩,
  ⟨"_law_odd_thing", ["well"], ["well", "some"], mf_law_odd_thing⟩,
  ⟨"_law_bent", ["well", "thing"], ["well", "thing", "turn", "way", "path", "here", "at", "whole"], mf_law_bent⟩,
  ⟨"_law_vectors", ["many"], ["many", "found", "turn", "longer", "row", "x"], mf_law_vectors⟩,
  ⟨"_law_opposite", ["row"], ["row", "x"], mf_law_opposite⟩,
  ⟨"_law_is_forward", ["row"], ["row", "x"], mf_law_is_forward⟩,
  ⟨"_law_leads", ["one", "two"], ["one", "two", "x", "y"], mf_law_leads⟩,
  ⟨"_law_fore", ["many"], ["many", "row"], mf_law_fore⟩,
  ⟨"_law_table", ["page"], ["page", "spot", "fore", "found"], mf_law_table⟩,
  ⟨"_law_above", ["row"], ["row", "found", "at", "x"], mf_law_above⟩,
  ⟨"_law_clashes", ["table"], ["table", "one", "rows", "found", "two"], mf_law_clashes⟩,
  ⟨"_law_is_vector", ["many", "thing"], ["many", "thing", "x"], mf_law_is_vector⟩,
  ⟨"_law_is_chain", ["many", "thing"], ["many", "thing", "spot", "row"], mf_law_is_chain⟩,
  ⟨"_law_is_page", ["thing"], ["thing", "x"], mf_law_is_page⟩,
  ⟨"_law_last", ["row"], ["row", "at"], mf_law_last⟩,
  ⟨"_law_moved", ["well", "many"], ["well", "many", "sizes", "row", "order", "turns", "signs", "labels", "moved", "at", "turn", "x"], mf_law_moved⟩,
  ⟨"_law_sides", ["row"], ["row", "x", "at"], mf_law_sides⟩,
  ⟨"_law_within", ["lot", "side"], ["lot", "side", "at"], mf_law_within⟩,
  ⟨"_law_alternation", ["row"], ["row", "x", "found", "last"], mf_law_alternation⟩,
  ⟨"_law_rows", ["many"], ["many"], mf_law_rows⟩,
  ⟨"_law_held", ["lots", "row"], ["lots", "row", "side", "lot"], mf_law_held⟩,
  ⟨"_law_apart", ["one", "two"], ["one", "two", "at"], mf_law_apart⟩,
  ⟨"_law_lots", ["many"], ["many", "found", "at", "lot"], mf_law_lots⟩,
  ⟨"_law_family", ["well", "many"], ["well", "many", "every", "small", "few", "lot"], mf_law_family⟩,
  ⟨"_law_coloured", ["well", "lots"], ["well", "lots", "found", "lot", "barred", "free", "other", "colour"], mf_law_coloured⟩,
  ⟨"_law_by_colours", ["family", "colours"], ["family", "colours", "most", "labels", "row", "many", "lots", "side", "least", "sides", "some", "spot"], mf_law_by_colours⟩,
  ⟨"_law_mended", ["well", "many"], ["well", "many", "labels", "row", "turn", "top", "fore", "clashes", "pair"], mf_law_mended⟩,
  ⟨"_law_page", ["well", "many"], ["well", "many", "way", "few", "family", "top", "page", "at", "turn"], mf_law_page⟩,
  ⟨"_law_part_chain", ["well", "many"], ["well", "many", "turn", "chain", "row", "step", "above"], mf_law_part_chain⟩,
  ⟨"_law_right", ["well"], ["well", "many", "plain", "table", "turn", "some", "far", "rows", "page", "two", "chain", "top", "one", "at", "thing", "told", "x", "row"], mf_law_right⟩,
  ⟨"law", ["script"], ["script", "lap"], mf_law⟩]
def bi : List Str := ["abs", "all", "any", "bool", "divmod", "enumerate", "int", "isinstance", "len", "list", "max", "min", "range", "repr", "sorted", "str", "tuple", "zip"]
def cs : List (Str × Int) := [("MOST_LABEL", 20), ("MOST_THINGS", 5)]
def lawIx : Nat := 66
def P : List MF := [mf_is_whole, mf_is_between, mf_is_tuple_of, mf_all_rows, mf_is_row_of, mf_is_vector_by, mf_vectors_by, mf_first_sign, mf_forward_by, mf_turned_about, mf_does_lead, mf_is_chain_by, mf_is_label, mf_is_labelling_by, mf_labels_by, mf_last_thing_by, mf_last_index, mf_greatest_by, mf_check_many, mf_check_things, mf_check_vector, mf_check_labelling, mf_vectors, mf_forward_vectors, mf_is_vector, mf_is_chain, mf_opposite, mf_leads, mf_is_labelling, mf_label, mf_last_thing, mf_greatest, mf_law_well, mf_law_draw, mf_law_one, mf_law_mixed, mf_law_is_whole, mf_law_odd_thing, mf_law_bent, mf_law_vectors, mf_law_opposite, mf_law_is_forward, mf_law_leads, mf_law_fore, mf_law_table, mf_law_above, mf_law_clashes, mf_law_is_vector, mf_law_is_chain, mf_law_is_page, mf_law_last, mf_law_moved, mf_law_sides, mf_law_within, mf_law_alternation, mf_law_rows, mf_law_held, mf_law_apart, mf_law_lots, mf_law_family, mf_law_coloured, mf_law_by_colours, mf_law_mended, mf_law_page, mf_law_part_chain, mf_law_right, mf_law]
theorem is_whole_int (k : Nat) (i : Int) (M : Cs) : callF P (k + 1) ix_is_whole [.int i] M = .ok (.bl true) M := by
  rw [call_eq (F := mf_is_whole) rfl rfl]
  simp [m_is_whole, isaD]
theorem is_between_int (k : Nat) (i a b : Int) (M : Cs) : callF P (k + 2) ix_is_between [.int i, .int a, .int b] M = .ok (.bl (decide (a ≤ i) && decide (i ≤ b))) M := by
  rw [call_eq (F := mf_is_between) rfl rfl]
  by_cases h : a ≤ i <;> simp [m_is_between, is_whole_int, h]
theorem is_tuple_of_tup (k : Nat) (xs : List D) (n : Int) (M : Cs) : callF P (k + 1) ix_is_tuple_of [.tup xs, .int n] M = .ok (.bl (decide ((xs.length : Int) = n))) M := by
  rw [call_eq (F := mf_is_tuple_of) rfl rfl]
  simp [m_is_tuple_of, isaD]

/-- values of any kind: no cells, no defs, no row too long -/
def ov : Nat → D → Bool
  | _, .non => true
  | _, .bl _ => true
  | _, .int _ => true
  | _, .str x => PyData.strOk x && decide (x.length ≤ 1000)
  | n + 1, .tup xs => decide (xs.length ≤ 2000) && xs.all (ov n)
  | n + 1, .lst xs => decide (xs.length ≤ 2000) && xs.all (ov n)
  | _, .dct _ ks vs => frees 0 ks && frees 0 vs
  | _, _ => false
theorem ov_mono : ∀ (n m : Nat) (d : D), n ≤ m → ov n d = true → ov m d = true := by
  intro n
  induction n with
  | zero =>
    intro m d h
    cases m with
    | zero => exact id
    | succ m => cases d <;> simp [ov]
  | succ n ih =>
    intro m d h
    cases m with
    | zero => omega
    | succ m =>
      cases d <;> simp only [ov, Bool.and_eq_true, List.all_eq_true, Bool.false_eq_true, imp_self] <;> first
        | exact id
        | exact fun ⟨a, b⟩ => ⟨a, fun x hx => ih m x (by omega) (b x hx)⟩
def isTupB : D → Bool
  | .tup _ => true
  | _ => false
theorem ov_isT {n : Nat} {d : D} (h : ov n d = true) : isaD d .tuple = some (isTupB d) := by
  cases n <;> cases d <;> simp [ov] at h <;> rfl
theorem ov_rd {n : Nat} {d : D} (h : ov n d = true) (M : Cs) : rd M d = some d := by
  cases n <;> cases d <;> simp [ov] at h <;> rfl
/-- a whole number from a to b -/
def btw (d : D) (a b : Int) : Bool := match d with
  | .int i => decide (a ≤ i) && decide (i ≤ b)
  | _ => false
def isInt : D → Bool
  | .int _ => true
  | _ => false
theorem is_whole_any (k : Nat) {n : Nat} {d : D} (h : ov n d = true) (M : Cs) : callF P (k + 1) ix_is_whole [d] M = .ok (.bl (isInt d)) M := by
  rw [call_eq (F := mf_is_whole) rfl rfl]
  cases n <;> cases d <;> simp [ov] at h <;> simp [m_is_whole, isaD, isInt]
theorem is_between_any (k : Nat) {n : Nat} {d : D} (h : ov n d = true) (a b : Int) (M : Cs) : callF P (k + 2) ix_is_between [d, .int a, .int b] M = .ok (.bl (btw d a b)) M := by
  rw [call_eq (F := mf_is_between) rfl rfl]
  have e := is_whole_any k h M
  have er := ov_rd h M
  cases d with
  | int i => by_cases hi : a ≤ i <;> simp [m_is_between, e, isInt, btw, hi]
  | _ => simp [m_is_between, e, isInt, btw]
theorem is_tuple_of_any (k : Nat) {n : Nat} {d : D} (h : ov n d = true) (m : Int) (M : Cs) : callF P (k + 1) ix_is_tuple_of [d, .int m] M = .ok (.bl (match d with
    | .tup xs => decide ((xs.length : Int) = m)
    | _ => false)) M := by
  rw [call_eq (F := mf_is_tuple_of) rfl rfl]
  cases n <;> cases d <;> simp [ov] at h <;> simp [m_is_tuple_of, isaD]
/-- ascending whole numbers -/
def ltI : D → D → Bool
  | .int a, .int b => decide (a < b)
  | _, _ => false
def ascD : List D → Bool
  | [] => true
  | [_] => true
  | x :: y :: r => ltI x y && ascD (y :: r)
def lotB (n : Int) : D → Bool
  | .tup xs => !xs.isEmpty && (xs.all (fun x => btw x 0 (n - 1)) && ascD xs)
  | _ => false
theorem btw_int {d : D} {a b : Int} (h : btw d a b = true) : ∃ i, d = .int i ∧ a ≤ i ∧ i ≤ b := by
  cases d <;> simp [btw] at h
  exact ⟨_, rfl, h.1, h.2⟩
theorem all_ints {xs : List D} {a b : Int} (h : xs.all (fun x => btw x a b) = true) : ∃ is : List Int, xs = is.map .int ∧ ∀ i ∈ is, a ≤ i ∧ i ≤ b := by
  induction xs with
  | nil => exact ⟨[], rfl, by simp⟩
  | cons x xs ih =>
    simp only [List.all_cons, Bool.and_eq_true] at h
    obtain ⟨i, rfl, hi⟩ := btw_int h.1
    obtain ⟨is, rfl, his⟩ := ih h.2
    exact ⟨i :: is, rfl, by simpa using ⟨hi, his⟩⟩
theorem asc_ints : ∀ (is : List Int), ascD (is.map .int) = decide (is.Pairwise (· < ·))
  | [] => by simp [ascD]
  | [_] => by simp [ascD]
  | x :: y :: r => by
    have ih := asc_ints (y :: r)
    simp only [List.map_cons] at ih ⊢
    rw [ascD, ltI, ih, Bool.eq_iff_iff]
    simp only [Bool.and_eq_true, decide_eq_true_eq, List.pairwise_cons, List.mem_cons, forall_eq_or_imp]
    constructor
    · rintro ⟨a, b, c⟩
      exact ⟨⟨a, fun z hz => Int.lt_trans a (b z hz)⟩, b, c⟩
    · rintro ⟨⟨a, _⟩, b, c⟩
      exact ⟨a, b, c⟩
def goodFrom (n : Int) : Option D → List D → Bool
  | _, [] => true
  | p, y :: ys => (btw y 0 (n - 1) && (match p with
    | none => true
    | some q => ltI q y)) && goodFrom n (some y) ys
theorem goodFrom_some (n : Int) : ∀ (ys : List D) (q : D), goodFrom n (some q) ys = (ys.all (fun x => btw x 0 (n - 1)) && ascD (q :: ys))
  | [], q => by simp [goodFrom, ascD]
  | y :: ys, q => by
    rw [goodFrom, goodFrom_some n ys y, ascD, List.all_cons]
    cases btw y 0 (n - 1) <;> cases ltI q y <;> simp
theorem goodFrom_none (n : Int) (ys : List D) : goodFrom n none ys = (ys.all (fun x => btw x 0 (n - 1)) && ascD ys) := by
  cases ys with
  | nil => simp [goodFrom, ascD]
  | cons y ys =>
    rw [goodFrom, goodFrom_some, List.all_cons]
    cases btw y 0 (n - 1) <;> simp
theorem cmp_eq_nilT (xs : List D) : cmpD .Eq (.tup xs) (.tup []) = some xs.isEmpty := by
  simp only [cmpD]
  split
  · cases xs with
    | nil => simp [eqD, D.py, pys, PyData.eqv, PyData.eqvAll]
    | cons x xs => simp [eqD, D.py, pys, PyData.eqv, PyData.eqvAll]
  · rfl
def lotStep (k : Nat) (n : Int) : D → En → Cs → SR := kt_evS_for_2 ⟨callF P (k + 2), k + 2⟩ (.tp (.cons (.nm 2) (.cons (.nm 3) .nil))) (.cons (.ite (.or (.not (.tru (.call ix_is_between (.cons (.var 3) (.cons (.con (.int 0)) (.cons (.bin .Sub (.var 0) (.con (.int 1))) .nil))) .nil []))) (.and (.tru (.cmp .Gt (.var 2) (.con (.int 0)))) (.tru (.cmp .GtE (.idx (.var 1) (.bin .Sub (.var 2) (.con (.int 1)))) (.var 3))))) (.cons (.ret (.lst (.cons (.var 2) .nil))) .nil) .nil) .nil)
theorem loop_lot (k : Nat) (n : Int) (xs : List D) (M : Cs) (m : Nat) (hx : ∀ x ∈ xs, ov m x = true) : ∀ (ys pre : List D) (x y : Option D), xs = pre ++ ys → pre.all (fun x => btw x 0 (n - 1)) = true →
    (goodFrom n pre.getLast? ys = true → ∃ x1 y1, forGo [] (lotStep k n) ((ys.zipIdx pre.length).map fun p => .tup [.int p.2, p.1]) [some (.int n), some (.tup xs), x, y] M = .nx [some (.int n), some (.tup xs), x1, y1] M) ∧
    (goodFrom n pre.getLast? ys = false → ∃ i : Int, forGo [] (lotStep k n) ((ys.zipIdx pre.length).map fun p => .tup [.int p.2, p.1]) [some (.int n), some (.tup xs), x, y] M = .rt (.lst [.int i]) M)
  | [], pre, x, y, _, _ => by
    refine ⟨fun _ => ⟨x, y, by simp [forGo_n]⟩, fun h => by simp [goodFrom] at h⟩
  | e :: ys, pre, x, y, hxs, hp => by
    have he := hx e (by rw [hxs]; simp)
    have hstep : lotStep k n (.tup [.int pre.length, e]) [some (.int n), some (.tup xs), x, y] M = if (btw e 0 (n - 1) && (match pre.getLast? with
        | none => true
        | some q => ltI q e)) = true then .nx [some (.int n), some (.tup xs), some (.int pre.length), some e] M else .rt (.lst [.int pre.length]) M := by
      simp [lotStep, is_between_any k he 0 (n - 1) M]
      cases hb : btw e 0 (n - 1) with
      | false => simp
      | true =>
        obtain ⟨v, rfl, _, _⟩ := btw_int hb
        rcases List.eq_nil_or_concat pre with rfl | ⟨pre', q, rfl⟩
        · simp
        · simp only [List.concat_eq_append] at hxs hp ⊢
          simp only [List.all_append, List.all_cons, List.all_nil, Bool.and_true, Bool.and_eq_true] at hp
          obtain ⟨u, rfl, _, _⟩ := btw_int hp.2
          have hidx : L2.atI xs (((pre' ++ [D.int u]).length : Int) - 1) = some (.int u) := by
            rw [show ((pre' ++ [D.int u]).length : Int) - 1 = (pre'.length : Nat) by simp]
            rw [atI_get _ _ (by rw [hxs]; simp)]
            simp [hxs]
          simp at hidx
          have hpos : (0 : Int) < pre'.length + 1 := by omega
          by_cases hlt : u < v
          · have : ¬ v ≤ u := by omega
            simp [hidx, hlt, this, ltI, hpos]
          · have : v ≤ u := by omega
            simp [hidx, hlt, this, ltI, hpos]
    have hcons : (((e :: ys).zipIdx pre.length).map fun p => D.tup [.int p.2, p.1]) = D.tup [.int pre.length, e] :: ((ys.zipIdx (pre ++ [e]).length).map fun p => D.tup [.int p.2, p.1]) := by simp
    rw [hcons, forGo_c, hstep]
    have hg : goodFrom n pre.getLast? (e :: ys) = ((btw e 0 (n - 1) && (match pre.getLast? with
        | none => true
        | some q => ltI q e)) && goodFrom n (some e) ys) := by cases pre.getLast? <;> rw [goodFrom]
    rw [hg]
    cases hc : (btw e 0 (n - 1) && (match pre.getLast? with
        | none => true
        | some q => ltI q e)) with
    | false => simp
    | true =>
      have hb : btw e 0 (n - 1) = true := by
        simp only [Bool.and_eq_true] at hc; exact hc.1
      have ih := loop_lot k n xs M m hx ys (pre ++ [e]) (some (.int pre.length)) (some e) (by rw [hxs]; simp) (by simp [hp, hb])
      simp only [List.getLast?_append, List.getLast?_singleton, Option.some_or] at ih
      simp only [if_pos, Bool.true_and]
      rw [fgK_nx _ _ _ _ _ _ (by simp)]
      exact ih
/-- a well: a cell of three ints -/
def IsBag (M : Cs) (n : Nat) : Prop := ∃ a b c : Int, rd M (.cell n) = some (.lst [.int a, .int b, .int c])
theorem draw_ok (k : Nat) (n : Nat) (many : Int) (M : Cs) (h : IsBag M n) (h1 : 1 ≤ many) (h2 : many < 1073741824) : ∃ d a b c : Int, 0 ≤ d ∧ d < many ∧ callF P (k + 1) ix_law_draw [.cell n, .int many] M = .ok (.int d) (M.set n (some (.lst [.int a, .int b, .int c]))) := by
  obtain ⟨a, b, c, e⟩ := h
  rw [call_eq (F := mf_law_draw) rfl rfl]
  have hlt := rd_lt e
  have h0 : 0 < many := by omega
  by_cases ha : 0 < a
  · refine ⟨a % many, a / many, b, c, Int.emod_nonneg _ (by omega), Int.emod_lt_of_pos _ (by omega), ?_⟩
    simp [m_law_draw, e, ha, hlt, rd_set, divmodD, h0, h2, setD, L2.atI, L2.ixN, List.take_of_length_le]
  · obtain ⟨m, hm⟩ : ∃ m, m = (b * 48271 + 13007 * (c + 1)) % 2147483587 := ⟨_, rfl⟩
    have hmul := mulI m (m % 4993 + 20021) (Or.inr (by
      have h1 := Int.emod_nonneg m (b := 4993) (by decide)
      have h2 := Int.emod_lt_of_pos m (b := 4993) (by decide)
      simp only [big]; omega))
    refine ⟨(m * (m % 4993 + 20021) + (c + 1)) % 2147483587 / 983 % many, a, (m * (m % 4993 + 20021) + (c + 1)) % 2147483587, c + 1, Int.emod_nonneg _ (by omega), Int.emod_lt_of_pos _ (by omega), ?_⟩
    simp [m_law_draw, e, ha, hlt, rd_set, h0, h2, setD, L2.atI, L2.ixN, List.take_of_length_le, mulI _ 48271 (Or.inr (by decide)), mulI 13007 _ (Or.inl (by decide)), modI _ 2147483587 (by decide), modI _ many h0, ← hm, modI m 4993 (by decide), hmul, fdivI _ 983 (by decide) (by decide)]

/-- only the bag has changed -/
def Bm (n : Nat) (M M' : Cs) : Prop := ∃ a b c : Int, M' = M.set n (some (.lst [.int a, .int b, .int c]))
theorem Bm.bag {n : Nat} {M M' : Cs} (h : Bm n M M') (hn : n < M.length) : IsBag M' n := by
  obtain ⟨a, b, c, rfl⟩ := h
  exact ⟨a, b, c, rd_set M n _ hn⟩
theorem Bm.len {n : Nat} {M M' : Cs} (h : Bm n M M') : M'.length = M.length := by
  obtain ⟨a, b, c, rfl⟩ := h
  simp
theorem Bm.tk {n : Nat} {M M' : Cs} (h : Bm n M M') : M'.take M.length = M' := by
  rw [← h.len]; simp
theorem Bm.trans {n : Nat} {M M1 M2 : Cs} (h : Bm n M M1) (h2 : Bm n M1 M2) : Bm n M M2 := by
  obtain ⟨a, b, c, rfl⟩ := h
  obtain ⟨d, e, f, rfl⟩ := h2
  exact ⟨d, e, f, by simp⟩
theorem IsBag.lt {n : Nat} {M : Cs} (h : IsBag M n) : n < M.length := by
  obtain ⟨a, b, c, e⟩ := h
  exact rd_lt e
theorem Bm.refl {n : Nat} {M : Cs} (h : IsBag M n) : Bm n M M := by
  obtain ⟨a, b, c, e⟩ := h
  refine ⟨a, b, c, ?_⟩
  have h1 := rd_at e
  have h2 := rd_lt e
  apply List.ext_getElem?
  intro i
  rw [List.getElem?_set]
  split
  · rename_i h; subst h; rw [h1]
  · rfl
theorem draw_ok' (k : Nat) (n : Nat) (many : Int) (M : Cs) (h : IsBag M n) (h1 : 1 ≤ many) (h2 : many < 1073741824) : ∃ (d : Int) (M' : Cs), 0 ≤ d ∧ d < many ∧ Bm n M M' ∧ IsBag M' n ∧ callF P (k + 1) ix_law_draw [.cell n, .int many] M = .ok (.int d) M' := by
  obtain ⟨d, a, b, c, h0, hd, e⟩ := draw_ok k n many M h h1 h2
  have hb : Bm n M (M.set n (some (.lst [.int a, .int b, .int c]))) := ⟨a, b, c, rfl⟩
  exact ⟨d, _, h0, hd, hb, hb.bag h.lt, e⟩
theorem pop_ok (xs : List D) (d : Int) (h0 : 0 ≤ d) (h : d < xs.length) (hs : xs.length ≤ 1000000) : popD (.lst xs) [.int d] = some (.lst (xs.eraseIdx d.toNat), xs[d.toNat]'(by omega)) := by
  have h1 : seqIndex? d xs.length = some d.toNat := by
    simp only [seqIndex?]
    rw [if_neg (show ¬ d < 0 by omega)]
    simp [h0, h]
  have h2 : (-(2 ^ 63) ≤ d && decide (d < 2 ^ 63)) = true := by
    simp only [Bool.and_eq_true, decide_eq_true_eq]; omega
  simp only [popD]
  rw [if_pos h2, h1]
  simp only
  rw [List.getElem?_eq_getElem (by omega)]
theorem erase_perm {α : Type} : ∀ (xs : List α) (i : Nat) (h : i < xs.length), (xs[i] :: xs.eraseIdx i).Perm xs
  | [], _, h => by simp at h
  | x :: xs, 0, _ => by simp
  | x :: xs, i + 1, h => by
    have := erase_perm xs i (by simpa using h)
    simp only [List.getElem_cons_succ, List.eraseIdx_cons_succ]
    exact (List.Perm.swap _ _ _).trans (this.cons x)
theorem rd_ap0 (M : Cs) (L : Nat) (a b : D) (h : M.length = L) : rd (M ++ [some a, some b]) (.cell L) = some a := by subst h; simp [rd]
theorem rd_ap1 (M : Cs) (L : Nat) (a b : D) (h : M.length = L) : rd (M ++ [some a, some b]) (.cell (L + 1)) = some b := by subst h; simp [rd]
theorem rd_apl (M : Cs) (n : Nat) (X : Cs) (h : n < M.length) : rd (M ++ X) (.cell n) = rd M (.cell n) := by simp [rd, List.getElem?_append_left h]
theorem set_ap0 (M : Cs) (L : Nat) (a b c : Option D) (h : M.length = L) : (M ++ [a, b]).set L c = M ++ [c, b] := by subst h; simp
theorem set_ap1 (M : Cs) (L : Nat) (a b c : Option D) (h : M.length = L) : (M ++ [a, b]).set (L + 1) c = M ++ [a, c] := by
  subst h
  rw [List.set_append_right _ _ (by omega)]
  simp
theorem set_apl (M : Cs) (n : Nat) (X : Cs) (c : Option D) (h : n < M.length) : (M ++ X).set n c = M.set n c ++ X := List.set_append_left _ _ h
theorem IsBag.ap {M : Cs} {n : Nat} (h : IsBag M n) (X : Cs) : IsBag (M ++ X) n := by
  obtain ⟨a, b, c, e⟩ := h
  exact ⟨a, b, c, by rw [rd_apl _ _ _ (rd_lt e), e]⟩

theorem one_ok (k c : Nat) (xs : List D) (M : Cs) (h : IsBag M c) (h1 : xs ≠ []) (h2 : xs.length ≤ 1000000) (hf : ∀ x ∈ xs, x.free 0 = true) :
    ∃ x M', x ∈ xs ∧ Bm c M M' ∧ IsBag M' c ∧ callF P (k + 2) ix_law_one [.cell c, .tup xs] M = .ok x M' := by
  have hpos : 0 < xs.length := List.length_pos_iff.mpr h1
  obtain ⟨d, M1, a1, b1, c1, g1, e1⟩ := draw_ok' k c xs.length M h (by omega) (by omega)
  obtain ⟨i, rfl⟩ : ∃ i : Nat, d = i := ⟨d.toNat, by omega⟩
  have hi : i < xs.length := by omega
  refine ⟨xs[i], M1, List.getElem_mem hi, c1, g1, ?_⟩
  rw [call_eq (F := mf_law_one) rfl rfl]
  simp [m_law_one, e1, atI_get xs i hi, hf _ (List.getElem_mem hi), c1.tk]
theorem one_ok_l (k c : Nat) (xs : List D) (M : Cs) (h : IsBag M c) (h1 : xs ≠ []) (h2 : xs.length ≤ 1000000) (hf : ∀ x ∈ xs, x.free 0 = true) :
    ∃ x M', x ∈ xs ∧ Bm c M M' ∧ IsBag M' c ∧ callF P (k + 2) ix_law_one [.cell c, .lst xs] M = .ok x M' := by
  have hpos : 0 < xs.length := List.length_pos_iff.mpr h1
  obtain ⟨d, M1, a1, b1, c1, g1, e1⟩ := draw_ok' k c xs.length M h (by omega) (by omega)
  obtain ⟨i, rfl⟩ : ∃ i : Nat, d = i := ⟨d.toNat, by omega⟩
  have hi : i < xs.length := by omega
  refine ⟨xs[i], M1, List.getElem_mem hi, c1, g1, ?_⟩
  rw [call_eq (F := mf_law_one) rfl rfl]
  simp [m_law_one, e1, atI_get xs i hi, hf _ (List.getElem_mem hi), c1.tk]
theorem well_ok (k : Nat) (ns : List Int) (turn : Nat) (M : Cs) : ∃ a b c : Int, callF P (k + 1) ix_law_well [.scr ns, .int turn] M = .ok (.cell M.length) (M ++ [some (.lst [.int a, .int b, .int c])]) := by
  rw [call_eq (F := mf_law_well) rfl rfl]
  simp [m_law_well, mulI 4001 _ (Or.inl (by decide)), slcD, partD, ptD, intD?]
  generalize hr : forGo _ _ _ _ _ = r
  obtain ⟨σ', rfl, s, x, rfl⟩ : ∃ σ', r = .nx σ' M ∧ ∃ s : Int, ∃ x, σ' = [some (.scr ns), some (.int turn), some (.int s), x, none] := by
    rw [← hr]
    refine forGo_fold .int (fun (_ : Unit) σ => ∃ s : Int, ∃ x, σ = [some (.scr ns), some (.int turn), some (.int s), x, none]) (fun _ _ => ()) _ () _ ?_ ⟨_, none, rfl⟩
    rintro e he _ σ ⟨s, x, rfl⟩
    refine ⟨[some (.scr ns), some (.int turn), some (.int ((s * 40127 + e % 2147483587 * 11 + 17) % 2147483587)), some (.int e), none], ?_, _, _, rfl⟩
    simp [mulI s 40127 (Or.inr (by decide)), modI e 2147483587 (by decide), mulI _ 11 (Or.inr (by decide)), modI _ 2147483587 (by decide)]
  by_cases ht : turn < ns.length
  · simp [ht, idxD, atI_get ns turn ht, mulI s 97 (Or.inr (by decide)), modI (ns[turn]) 2147483587 (by decide), mulI _ 20021 (Or.inr (by decide)), modI _ 2147483587 (by decide)]
    have hpow : binD .Pow (.int 10) (.int 15) = some (.int 1000000000000000) := by simp [binD]
    by_cases h1 : ns[turn] < 0
    · simp [h1, absD, hpow]
    · by_cases h2 : 1000000000000000 ≤ ns[turn]
      · simp [h1, h2, absD, hpow]
      · simp [h1, h2, hpow]
  · have hpow : binD .Pow (.int 10) (.int 15) = some (.int 1000000000000000) := by simp [binD]
    simp [ht, hpow, mulI s 97 (Or.inr (by decide)), modI 0 2147483587 (by decide), mulI _ 20021 (Or.inr (by decide)), modI _ 2147483587 (by decide)]
theorem whl_step (test : En → Cs → Res Bool) (step : En → Cs → SR) (n : Nat) (σ σ1 : En) (M M1 M2 : Cs) (h : test σ M = .ok true M1) (h2 : step σ M1 = .nx σ1 M2) : whlGo test step (n + 1) σ M = whlGo test step n σ1 M2 := by
  rw [whlGo, h]; simp only; rw [h2]
theorem whl_end (test : En → Cs → Res Bool) (step : En → Cs → SR) (n : Nat) (σ : En) (M M1 : Cs) (h : test σ M = .ok false M1) : whlGo test step (n + 1) σ M = .nx σ M1 := by
  rw [whlGo, h]
theorem cmp_ne_nil (n : Nat) (xs : List D) (h : xs.all (clean n) = true) (hn : n ≤ 50) : cmpD .NotEq (.lst xs) (.lst []) = some (!xs.isEmpty) := by
  rw [cmp_ne_c (n + 1) (by simpa using h) (by simp) (by omega)]
  cases xs <;> simp
theorem mixed_sd (k : Nat) (n : Nat) (sd : D) (xs : List D) (hsd : listD [sd] = some (.lst xs)) (hrd : ∀ M, rd M sd = some sd) (M : Cs) (h : IsBag M n) (hf : frees 0 xs = true) (hs : xs.length < k + 1) (hk : k ≤ 100000) (j : Nat) (hj : j ≤ 50) (hcl : xs.all (clean j) = true) : ∃ (ys : List D) (M' : Cs), ys.Perm xs ∧ Bm n M M' ∧ callF P (k + 2) ix_law_mixed [.cell n, sd] M = .ok (.lst ys) M' := by
  rw [call_eq (F := mf_law_mixed) rfl rfl]
  have e0 : M ++ [some (D.lst xs)] ++ [some (.lst [])] = M ++ [some (.lst xs), some (.lst [])] := by simp
  simp [m_law_mixed, hsd, hrd, hf, e0]
  generalize hr : whlGo _ _ _ _ _ = r
  obtain ⟨σ', M', rfl, ys, hp, M1, hM, rfl, rfl⟩ : ∃ σ' M', r = .nx σ' M' ∧ ∃ ys : List D, ys.Perm xs ∧ ∃ M1, Bm n M M1 ∧ M' = M1 ++ [some (.lst []), some (.lst ys)] ∧ σ' = [some (.cell n), some sd, some (.cell M.length), some (.cell (M.length + 1))] := by
    rw [← hr]
    have main : ∀ (fuel : Nat) (lf ys : List D) (M1 : Cs), lf.length < fuel → (ys ++ lf).Perm xs → Bm n M M1 → ∃ M' ys', whlGo (evB ⟨callF P (k + 1), k + 1⟩ (.tru (.cmp .NotEq (.var 2) (.lst .nil)))) (evSs ⟨callF P (k + 1), k + 1⟩ (.cons (.exp (.mut .append (.var 3) (.cons (.mut .pop (.var 2) (.cons (.call ix_law_draw (.cons (.var 0) (.cons (.blt .len (.cons (.var 2) .nil)) .nil)) .nil []) .nil)) .nil))) .nil)) fuel [some (.cell n), some sd, some (.cell M.length), some (.cell (M.length + 1))] (M1 ++ [some (.lst lf), some (.lst ys)]) = .nx [some (.cell n), some sd, some (.cell M.length), some (.cell (M.length + 1))] (M' ++ [some (.lst []), some (.lst ys')]) ∧ ys'.Perm xs ∧ Bm n M M' := fun fuel => by
      induction fuel with
      | zero => intro lf ys M1 hl; omega
      | succ fuel ih =>
        intro lf ys M1 hl hp hM
        have hl1 := hM.len
        have hlen := hp.length_eq
        simp only [List.length_append] at hlen
        cases lf with
        | nil =>
          rw [List.append_nil] at hp
          refine ⟨M1, ys, ?_, hp, hM⟩
          refine whl_end _ _ _ _ _ _ ?_
          simp [rd_ap0 _ _ _ _ hl1, cmp_ne_nil 0 [] (by simp) (by omega)]
        | cons y lf' =>
          obtain ⟨lf, hlf⟩ : ∃ lf, lf = y :: lf' := ⟨_, rfl⟩
          rw [← hlf] at hl hp hlen ⊢
          have hne : lf.length ≠ 0 := by rw [hlf]; simp
          have hcl2 : lf.all (clean j) = true := by
            rw [List.all_eq_true] at hcl ⊢
            exact fun x hx => hcl x (hp.mem_iff.mp (List.mem_append_right _ hx))
          have hb1 : IsBag M1 n := hM.bag h.lt
          obtain ⟨v, M2, hv0, hv1, hM2, hb2, e2⟩ := draw_ok' k n (lf.length : Int) (M1 ++ [some (.lst lf), some (.lst ys)]) (hb1.ap _) (by omega) (by omega)
          obtain ⟨a, b, c, rfl⟩ := hM2
          have hn1 : n < M1.length := hb1.lt
          rw [set_apl _ _ _ _ hn1] at e2
          have hl2 : M.length = (M1.set n (some (D.lst [.int a, .int b, .int c]))).length := by simp [hl1]
          have hvl : v.toNat < lf.length := by omega
          have hfv : (lf[v.toNat]).free 0 = true := frees_mem hf _ (hp.mem_iff.mp (List.mem_append_right _ (List.getElem_mem _)))
          have hy : ys.length < sizeLine := by show _ < 16777216; omega
          obtain ⟨M', ys', e3, p3, b3⟩ := ih (lf.eraseIdx v.toNat) (ys ++ [lf[v.toNat]]) (M1.set n (some (.lst [.int a, .int b, .int c]))) (by rw [List.length_eraseIdx]; simp [hvl]; omega) (by
            refine List.Perm.trans ?_ hp
            rw [List.append_assoc]
            exact List.Perm.append_left _ (erase_perm lf v.toNat hvl)) (hM.trans ⟨a, b, c, rfl⟩)
          refine ⟨M', ys', ?_, p3, b3⟩
          rw [← e3]
          refine whl_step _ _ _ _ _ _ (M1 ++ [some (.lst lf), some (.lst ys)]) _ ?_ ?_
          · have : lf.isEmpty = false := by rw [hlf]; rfl
            simp [rd_ap0 _ _ _ _ hl1, cmp_ne_nil j _ hcl2 hj, this]
          · simp [rd_ap0 _ _ _ _ hl1, rd_ap1 _ _ _ _ hl1, okL, e2]
            rw [rd_ap0 _ _ _ _ hl2.symm]
            simp [mutD, pop_ok lf v hv0 hv1 (by omega), set_ap0 _ _ _ _ _ hl2.symm, set_ap1 _ _ _ _ _ hl2.symm, hfv, appendD, rd_ap1 _ _ _ _ hl2.symm, hy]
    obtain ⟨M', ys', e, p, b⟩ := main (k + 1) xs [] M (by omega) (by simp) (Bm.refl h)
    exact ⟨_, _, e, ys', p, M', b, rfl, rfl⟩
  refine ⟨ys, hp, M1, hM, ?_⟩
  have hl1 := hM.len
  have hfy : frees 0 ys = true := frees_of fun y hy => frees_mem hf y (hp.mem_iff.mp hy)
  simp [rd_ap1 _ _ _ _ hl1, set_ap1 _ _ _ _ _ hl1, hfy]
  rw [← hl1]
  simp
theorem mixed_ok (k : Nat) (n : Nat) (xs : List D) (M : Cs) (h : IsBag M n) (hf : frees 0 xs = true) (hs : xs.length < k + 1) (hk : k ≤ 100000) (j : Nat) (hj : j ≤ 50) (hcl : xs.all (clean j) = true) : ∃ (ys : List D) (M' : Cs), ys.Perm xs ∧ Bm n M M' ∧ callF P (k + 2) ix_law_mixed [.cell n, .lst xs] M = .ok (.lst ys) M' :=
  mixed_sd k n (.lst xs) xs rfl (fun _ => rfl) M h hf hs hk j hj hcl
theorem mixed_tup (k : Nat) (n : Nat) (xs : List D) (M : Cs) (h : IsBag M n) (hf : frees 0 xs = true) (hs : xs.length < k + 1) (hk : k ≤ 100000) (j : Nat) (hj : j ≤ 50) (hcl : xs.all (clean j) = true) : ∃ (ys : List D) (M' : Cs), ys.Perm xs ∧ Bm n M M' ∧ callF P (k + 2) ix_law_mixed [.cell n, .tup xs] M = .ok (.lst ys) M' :=
  mixed_sd k n (.tup xs) xs rfl (fun _ => rfl) M h hf hs hk j hj hcl

/-- a comprehension that draws at each turn -/
theorem lcGo_bag {α : Type} {step : D → Cs → Res (List D)} (g : α → D) (Q : D → Prop) (c : Nat) (xs : List α) (M : Cs) (hb : IsBag M c) (h : ∀ a ∈ xs, ∀ M, IsBag M c → ∃ v M', Q v ∧ Bm c M M' ∧ step (g a) M = .ok [v] M') (hl : xs.length ≤ sizeLine) :
    ∃ vs M', vs.length = xs.length ∧ (∀ v ∈ vs, Q v) ∧ Bm c M M' ∧ IsBag M' c ∧ lcGo [] step (xs.map g) [] M = .ok vs M' := by
  have key : ∀ (xs : List α) (acc : List D) (M : Cs), IsBag M c → (∀ a ∈ xs, ∀ M, IsBag M c → ∃ v M', Q v ∧ Bm c M M' ∧ step (g a) M = .ok [v] M') → acc.length + xs.length ≤ sizeLine →
      ∃ vs M', vs.length = xs.length ∧ (∀ v ∈ vs, Q v) ∧ Bm c M M' ∧ lcGo [] step (xs.map g) acc M = .ok (acc ++ vs) M' := fun xs => by
    induction xs with
    | nil => intro acc M hb _ _; exact ⟨[], M, rfl, by simp, Bm.refl hb, by rw [List.map_nil, lcGo]; simp⟩
    | cons x xs ih =>
      intro acc M hb h hl
      simp only [List.length_cons] at hl
      obtain ⟨v, M1, q, b1, e1⟩ := h x List.mem_cons_self M hb
      obtain ⟨vs, M2, l2, q2, b2, e2⟩ := ih (acc ++ [v]) M1 (b1.bag hb.lt) (fun a ha => h a (List.mem_cons_of_mem _ ha)) (by simp; omega)
      refine ⟨v :: vs, M2, by simp [l2], ?_, b1.trans b2, ?_⟩
      · intro w hw
        rw [List.mem_cons] at hw
        rcases hw with rfl | hw
        · exact q
        · exact q2 w hw
      · rw [List.map_cons, lcGo, e1]
        simp only
        rw [if_pos (by simp; omega), e2]
        simp
  obtain ⟨vs, M', a, b, d, e⟩ := key xs [] M hb h (by simpa using hl)
  exact ⟨vs, M', a, b, d, d.bag hb.lt, by simpa using e⟩
@[simp] theorem intsD_len (n : Nat) : (intsD n).length = n := by simp [intsD]
theorem ints_of {vs : List D} {p : Int → Prop} (h : ∀ v ∈ vs, ∃ i : Int, v = .int i ∧ p i) : ∃ is : List Int, vs = is.map .int ∧ ∀ i ∈ is, p i := by
  induction vs with
  | nil => exact ⟨[], rfl, by simp⟩
  | cons v vs ih =>
    obtain ⟨i, rfl, hp⟩ := h v List.mem_cons_self
    obtain ⟨is, rfl, hps⟩ := ih fun w hw => h w (List.mem_cons_of_mem _ hw)
    refine ⟨i :: is, rfl, fun j hj => ?_⟩
    rw [List.mem_cons] at hj
    rcases hj with rfl | hj
    · exact hp
    · exact hps j hj
def pm1 (i : Int) : Prop := i = 1 ∨ i = -1
/-- n drawn signs -/
theorem signs_ok (k c n : Nat) (M : Cs) (h : IsBag M c) (hn : n ≤ 1000) (σ : En) (hσ : σ[0]? = some (some (.cell c))) (ix : Nat) (hix : ix ≠ 0) : ∃ (is : List Int) (M' : Cs), is.length = n ∧ (∀ i ∈ is, pm1 i) ∧ Bm c M M' ∧ IsBag M' c ∧
    lcGo [] (kt_evE_lc_2 ⟨callF P (k + 2), k + 2⟩ [ix] (.call ix_law_one (.cons (.var 0) (.cons (.tup (.cons (.con (.int 1)) (.cons (.con (.int 1)) (.cons (.neg (.con (.int 1))) .nil)))) .nil)) .nil []) (.nm ix) .nil σ) (intsD n) [] M = .ok (is.map .int) M' := by
  obtain ⟨vs, M', l, q, b, g, e⟩ := lcGo_bag (fun i : Nat => .int (i : Int)) (fun v => ∃ i : Int, v = .int i ∧ pm1 i) c (List.range n) M h (step := kt_evE_lc_2 ⟨callF P (k + 2), k + 2⟩ [ix] (.call ix_law_one (.cons (.var 0) (.cons (.tup (.cons (.con (.int 1)) (.cons (.con (.int 1)) (.cons (.neg (.con (.int 1))) .nil)))) .nil)) .nil []) (.nm ix) .nil σ) (by
    intro a _ M hb
    obtain ⟨v, M1, hv, b1, g1, e1⟩ := one_ok k c [.int 1, .int 1, .int (-1)] M hb (by simp) (by simp) (by simp)
    refine ⟨v, M1, ?_, b1, ?_⟩
    · simp only [List.mem_cons, List.not_mem_nil, or_false] at hv
      rcases hv with rfl | rfl | rfl
      · exact ⟨1, rfl, Or.inl rfl⟩
      · exact ⟨1, rfl, Or.inl rfl⟩
      · exact ⟨-1, rfl, Or.inr rfl⟩
    · have h0 : (List.set σ ix (some (.int (a : Int))))[0]? = some (some (.cell c)) := by rw [List.getElem?_set_ne hix, hσ]
      simp [h0, e1]) (by rw [List.length_range]; exact small (by omega))
  obtain ⟨is, rfl, hp⟩ := ints_of q
  exact ⟨is, M', by simpa using l, hp, b, g, e⟩

theorem ov_free : ∀ (n : Nat) (d : D), ov n d = true → d.free 0 = true := by
  intro n
  induction n with
  | zero =>
    intro d h
    cases d <;> simp [ov] at h <;> simp [D.free, h]
  | succ n ih =>
    intro d h
    cases d <;> simp only [ov, Bool.and_eq_true, List.all_eq_true, Bool.false_eq_true] at h <;> simp only [D.free]
    · exact frees_of fun x hx => ih x (h.2 x hx)
    · exact frees_of fun x hx => ih x (h.2 x hx)
    · simp [h]
@[simp] theorem cut_toN {α : Type} (xs : List α) (a : Nat) : cut xs none (some (a : Int)) = xs.take a := by
  rw [cut_to _ _ (by omega)]; simp
@[simp] theorem cut_fromN {α : Type} (xs : List α) (a : Nat) : cut xs (some (a : Int)) none = xs.drop a := cut_from xs a
@[simp] theorem cut_fromS {α : Type} (xs : List α) (a : Nat) : cut xs (some ((a : Int) + 1)) none = xs.drop (a + 1) := by
  have := cut_from xs (a + 1)
  rw [← this]; simp
@[simp] theorem cut_mid {α : Type} (xs : List α) (a : Nat) : cut xs (some (a : Int)) (some ((a : Int) + 1)) = (xs.drop a).take 1 := by
  simp only [cut, HT.sIx]
  rw [if_neg (by omega), if_neg (by omega)]
  by_cases h : a < xs.length
  · rw [show min (a : Int).toNat xs.length = a by omega, show min ((a : Int) + 1).toNat xs.length - a = 1 by omega]
  · rw [show min (a : Int).toNat xs.length = xs.length by omega, show min ((a : Int) + 1).toNat xs.length - xs.length = 0 by omega]
    simp
    omega
theorem slc_tup (xs : List D) (lo hi : Option Int) : slcD (.tup xs) (ptD lo) (ptD hi) .non = some (.tup (cut xs lo hi)) := by
  cases lo <;> cases hi <;> rfl
theorem slc_lst (xs : List D) (lo hi : Option Int) : slcD (.lst xs) (ptD lo) (ptD hi) .non = some (.lst (cut xs lo hi)) := by
  cases lo <;> cases hi <;> rfl
theorem add_tup (a b : List D) (h : a.length + b.length ≤ sizeLine) : binD .Add (.tup a) (.tup b) = some (.tup (a ++ b)) := by
  simp only [binD]
  rw [if_pos h]
theorem ov_int (n : Nat) (i : Int) : ov n (.int i) = true := by cases n <;> simp [ov]
theorem ov_bl (n : Nat) (i : Bool) : ov n (.bl i) = true := by cases n <;> simp [ov]
theorem ov_non (n : Nat) : ov n .non = true := by cases n <;> simp [ov]
theorem ov_tup_iff (n : Nat) (xs : List D) : ov (n + 1) (.tup xs) = (decide (xs.length ≤ 2000) && xs.all (ov n)) := by rw [ov]
theorem ov_lst_iff (n : Nat) (xs : List D) : ov (n + 1) (.lst xs) = (decide (xs.length ≤ 2000) && xs.all (ov n)) := by rw [ov]
theorem ov_T (n : Nat) (xs : List Int) (h : xs.length ≤ 2000) : ov (n + 1) (T xs) = true := by
  rw [T, ov_tup_iff]
  simp [h, ov_int]
theorem ov_two {m : Nat} {a b : List D} (h1 : ∀ x ∈ a, ov m x = true) (h2 : ∀ x ∈ b, ov m x = true) (hl : a.length + b.length ≤ 2000) : ov (m + 1) (.tup (a ++ b)) = true := by
  rw [ov_tup_iff]
  simp only [List.length_append, Bool.and_eq_true, decide_eq_true_eq, List.all_eq_true, List.mem_append]
  exact ⟨hl, fun x hx => hx.elim (h1 x) (h2 x)⟩

/-- all rows of signs of one length -/
def rowsZ : Nat → List (List Int)
  | 0 => [[]]
  | n + 1 => (rowsZ n).flatMap fun r => [r ++ [-1], r ++ [0], r ++ [1]]
theorem rowsZ_len : ∀ n, (rowsZ n).length = 3 ^ n
  | 0 => rfl
  | n + 1 => by
    rw [rowsZ, flat3 _ _ 3 (fun _ _ => rfl), rowsZ_len n, Nat.pow_succ]
theorem rowsZ_mem : ∀ n r, r ∈ rowsZ n → r.length = n ∧ ∀ x ∈ r, x = -1 ∨ x = 0 ∨ x = 1
  | 0, r, h => by simp [rowsZ] at h; subst h; simp
  | n + 1, r, h => by
    rw [rowsZ, List.mem_flatMap] at h
    obtain ⟨s, hs, h⟩ := h
    obtain ⟨a, b⟩ := rowsZ_mem n s hs
    simp at h
    rcases h with rfl | rfl | rfl <;> refine ⟨by simp [a], fun x hx => ?_⟩ <;> rw [List.mem_append] at hx <;> rcases hx with hx | hx <;> first | exact b x hx | simp_all
theorem pow3_le {n m : Nat} (h : n ≤ m) : 3 ^ n ≤ 3 ^ m := Nat.pow_le_pow_right (by omega) h
theorem all_rows_ok (k : Nat) (n : Nat) (M : Cs) (hn : n ≤ 12) : callF P (k + 1) ix_all_rows [.int n] M = .ok (.lst ((rowsZ n).map T)) M := by
  rw [call_eq (F := mf_all_rows) rfl rfl]
  simp [m_all_rows, rng0 n (by omega)]
  generalize hr : forGo _ _ _ _ _ = r
  obtain ⟨σ', rfl, x, rfl⟩ : ∃ σ', r = .nx σ' M ∧ ∃ x, σ' = [some (.int n), some (.lst ((rowsZ n).map T)), x, none, none] := by
    rw [← hr]
    refine forGo_ints (fun i σ => ∃ x, σ = [some (.int n), some (.lst ((rowsZ i).map T)), x, none, none]) n _ ?_ ⟨none, rfl⟩
    rintro i hi σ ⟨x, rfl⟩
    refine ⟨[some (.int n), some (.lst ((rowsZ (i + 1)).map T)), some (.int i), none, none], ?_, _, rfl⟩
    have hb : (rowsZ i).length ≤ 3 ^ 11 := by rw [rowsZ_len]; exact pow3_le (by omega)
    simp
    rw [lcGo_map T (fun r => [T (r ++ [-1]), T (r ++ [0]), T (r ++ [1])])]
    · simp [rowsZ, List.map_flatMap]
    · intro r hr
      have h1 := (rowsZ_mem _ _ hr).1
      simp [lcGo, same_self, T, small (n := r.length + 1) (by omega)]
    · rw [flat3 _ _ 3 (fun _ _ => rfl)]
      exact small (by omega)
  simp

def sideOf (row : List Int) (s : Int) : List Int := (row.zipIdx.filter fun p => decide (p.1 = s)).map fun p => (p.2 : Int)
def within (lot side : List Int) : Bool := lot.all fun x => decide (x ∈ side)
def hasLot (lots : List (List Int)) (side : List Int) : Bool := lots.any fun l => within l side
def turnF (p : Int × Int) (e : Int) : Int × Int := if e = 0 ∨ e = p.2 then p else (p.1 + 1, e)
def turns (row : List Int) : Int := (row.foldl turnF (0, 0)).1
def told (row : List Int) : List Int := row.filter fun x => !decide (x = 0)
def sidesZ : Nat → List (List Int)
  | 0 => [[]]
  | n + 1 => sidesZ n ++ (sidesZ n).map (· ++ [(n : Int)])
def Fm (n : Nat) (lots : List (List Int)) : D := .tup [.int n, .tup (lots.map T)]
@[simp] theorem rd_Fm (M : Cs) (n : Nat) (lots : List (List Int)) : rd M (Fm n lots) = some (Fm n lots) := id rfl
@[simp] theorem idx_Fm0 (n : Nat) (lots : List (List Int)) : idxD (Fm n lots) (.int 0) = some (.int n) := by simp [Fm]
@[simp] theorem idx_Fm1 (n : Nat) (lots : List (List Int)) : idxD (Fm n lots) (.int 1) = some (.tup (lots.map T)) := by simp [Fm]
def bare (lots : List (List Int)) (row : List Int) (s : Int) : Bool := !hasLot lots (sideOf row s)
def gRow (rows : List (List Int)) : List Int := (rows.filter fun r => decide (turns r = mostI (rows.map turns))).headD []
def freeR (n : Nat) (lots : List (List Int)) : List (List Int) := (rowsZ n).filter fun r => bare lots r 1 && bare lots r (-1)
def halfR (n : Nat) (lots : List (List Int)) : List (List Int) := (rowsZ n).filter fun r => bare lots r 1 || bare lots r (-1)
theorem sideOf_len (row : List Int) (s : Int) : (sideOf row s).length ≤ row.length := by
  rw [sideOf, List.length_map]
  exact Nat.le_trans (List.length_filter_le _ _) (by simp)
theorem sidesZ_len : ∀ n, (sidesZ n).length = 2 ^ n
  | 0 => rfl
  | n + 1 => by
    rw [sidesZ, List.length_append, List.length_map, sidesZ_len n, Nat.pow_succ]
    omega
theorem sidesZ_mem : ∀ n s, s ∈ sidesZ n → s.length ≤ n
  | 0, r, h => by simp [sidesZ] at h; subst h; simp
  | n + 1, r, h => by
    simp only [sidesZ, List.mem_append, List.mem_map] at h
    rcases h with h | ⟨s, hs, rfl⟩
    · exact Nat.le_succ_of_le (sidesZ_mem n r h)
    · have := sidesZ_mem n s hs
      simp
      omega
theorem sideOf_snoc (r : List Int) (x s : Int) : sideOf (r ++ [x]) s = sideOf r s ++ (if x = s then [(r.length : Int)] else []) := by
  simp only [sideOf, List.zipIdx_append, List.filter_append, List.map_append]
  congr 1
  by_cases h : x = s <;> simp [h]
theorem sideOf_mem (s : Int) : ∀ (n : Nat) (r : List Int), r ∈ rowsZ n → sideOf r s ∈ sidesZ n
  | 0, r, h => by
    simp [rowsZ] at h
    subst h
    simp [sideOf, sidesZ]
  | n + 1, r, h => by
    rw [rowsZ, List.mem_flatMap] at h
    obtain ⟨q, hq, h⟩ := h
    have hl := (rowsZ_mem n q hq).1
    have ih := sideOf_mem s n q hq
    have key : ∀ x : Int, sideOf (q ++ [x]) s ∈ sidesZ (n + 1) := fun x => by
      rw [sideOf_snoc, sidesZ, List.mem_append]
      by_cases e : x = s
      · refine Or.inr ?_
        rw [if_pos e, hl]
        exact List.mem_map_of_mem ih
      · refine Or.inl ?_
        rw [if_neg e, List.append_nil]
        exact ih
    simp at h
    rcases h with rfl | rfl | rfl <;> exact key _
theorem law_is_whole_any (k : Nat) {n : Nat} {d : D} (h : ov n d = true) (M : Cs) : callF P (k + 1) ix_law_is_whole [d] M = .ok (.bl (isInt d)) M := by
  rw [call_eq (F := mf_law_is_whole) rfl rfl]
  cases n <;> cases d <;> simp [ov] at h <;> simp [m_law_is_whole, isaD, isInt]
theorem ov_tup {m : Nat} {xs : List D} (h : ov m (.tup xs) = true) : xs.length ≤ 2000 ∧ ∀ x ∈ xs, ov m x = true := by
  cases m with
  | zero => simp [ov] at h
  | succ m =>
    simp only [ov, Bool.and_eq_true, List.all_eq_true, decide_eq_true_eq] at h
    exact ⟨h.1, fun x hx => ov_mono m (m + 1) x (by omega) (h.2 x hx)⟩
/-- two beside one another, all through -/
def beside (f : D → D → Bool) (xs : List D) : Bool := (xs.zip xs.tail).all fun p => f p.1 p.2
theorem beside_asc : ∀ (xs : List D), beside ltI xs = ascD xs
  | [] => rfl
  | [_] => rfl
  | x :: y :: r => by
    have ih := beside_asc (y :: r)
    simp only [beside, List.tail_cons] at ih ⊢
    rw [List.zip_cons_cons, List.all_cons, ascD, ih]
theorem beside_range (f : D → D → Bool) (xs : List D) : ((List.range (xs.length - 1)).all fun k => f (xs.getD k .non) (xs.getD (k + 1) .non)) = beside f xs := by
  rw [Bool.eq_iff_iff]
  simp only [beside, List.all_eq_true, List.mem_range]
  constructor
  · rintro h ⟨a, b⟩ hm
    obtain ⟨i, hi, e⟩ := List.getElem_of_mem hm
    simp only [List.length_zip, List.length_tail] at hi
    simp only [List.getElem_zip, List.getElem_tail, Prod.mk.injEq] at e
    have := h i (by omega)
    rw [List.getD_eq_getElem?_getD, List.getD_eq_getElem?_getD, List.getElem?_eq_getElem (by omega), List.getElem?_eq_getElem (by omega)] at this
    simpa [e.1, e.2] using this
  · intro h i hi
    have := h (xs[i]'(by omega), xs[i + 1]'(by omega)) (by
      rw [List.mem_iff_getElem]
      exact ⟨i, by simp; omega, by simp⟩)
    rw [List.getD_eq_getElem?_getD, List.getD_eq_getElem?_getD, List.getElem?_eq_getElem (by omega), List.getElem?_eq_getElem (by omega)]
    simpa using this
/-- a family, whatever it is -/
def famB : D → Bool
  | .tup [.int n, .tup lots] => (decide (1 ≤ n) && decide (n ≤ 7)) && ((decide (1 ≤ lots.length) && decide (lots.length ≤ 35)) && (lots.all (lotB n) && beside ltD lots))
  | _ => false
theorem lots_T {n : Int} {lots : List D} (h : lots.all (lotB n) = true) : ∃ ls : List (List Int), lots = ls.map T := by
  induction lots with
  | nil => exact ⟨[], rfl⟩
  | cons x xs ih =>
    simp only [List.all_cons, Bool.and_eq_true] at h
    obtain ⟨ls, rfl⟩ := ih h.2
    cases x <;> simp only [lotB, Bool.false_eq_true, Bool.and_eq_true] at h <;> try exact h.1.elim
    obtain ⟨is, rfl, _⟩ := all_ints h.1.2.1
    exact ⟨is :: ls, rfl⟩
theorem cmp_lt_T' (a b : List Int) : cmpD .Lt (T a) (T b) = some (ltD (T a) (T b)) := by
  rw [cmp_lt_T, ltD, ltD_T]

def rowB (n : Int) : D → Bool
  | .tup xs => decide ((xs.length : Int) = n) && xs.all (fun x => btw x (-1) 1)
  | _ => false
theorem is_row_of_any (k : Nat) (n : Int) (v : D) (m : Nat) (hv : ov m v = true) (M : Cs) : callF P (k + 3) ix_is_row_of [v, .int n] M = .ok (.bl (rowB n v)) M := by
  rw [call_eq (F := mf_is_row_of) rfl rfl]
  have er := ov_rd hv M
  have e2 := is_tuple_of_any (k + 1) hv n M
  by_cases ht : isTupB v = true
  · obtain ⟨xs, rfl⟩ : ∃ xs, v = .tup xs := by cases v <;> simp [isTupB] at ht; exact ⟨_, rfl⟩
    obtain ⟨hl, hm⟩ := ov_tup hv
    simp only at e2
    by_cases h2 : (xs.length : Int) = n
    · rw [decide_eq_true h2] at e2
      simp [m_is_row_of, e2]
      have hmap := lcGo_one (ws := []) (step := kt_evE_lc_2 ⟨callF P (k + 2), k + 2⟩ [2] (.call ix_is_between (.cons (.var 2) (.cons (.neg (.con (.int 1))) (.cons (.con (.int 1)) .nil))) .nil []) (.nm 2) .nil [some (.tup xs), some (.int n), none]) (M := M) id (fun x => .bl (btw x (-1) 1)) xs (by
        intro x hx
        simp [is_between_any k (hm x hx) (-1) 1 M]) (small (by omega))
      rw [List.map_id] at hmap
      rw [hmap]
      have ha := all_map (fun x => btw x (-1) 1) xs
      simp [ha, -all_map, rowB, h2]
    · rw [decide_eq_false h2] at e2
      simp [m_is_row_of, e2, rowB, h2]
  · have ht' : isTupB v = false := by simpa using ht
    have hb : rowB n v = false := by cases v <;> simp [isTupB] at ht' <;> simp [rowB]
    have e2' : callF P (k + 2) ix_is_tuple_of [v, .int n] M = .ok (.bl false) M := by
      rw [show k + 2 = k + 1 + 1 from rfl, e2]; cases v <;> simp [isTupB] at ht' <;> rfl
    simp [m_is_row_of, e2', hb]

def nzB (x : Int) : Bool := !decide (x = 0)
def vecZ (n : Nat) : List (List Int) := (rowsZ n).filter fun r => r.any nzB
def toldR (row : List Int) : List Int := row.filter nzB
def fsgn (row : List Int) : Int := (toldR row).headD 0
def fwdZ (n : Nat) : List (List Int) := (vecZ n).filter fun r => decide (fsgn r = 1)
def negR (row : List Int) : List Int := row.map fun x => -x
def leadB (a b : List Int) : Bool := !decide (a = b) && (a.zip b).all fun p => decide (p.1 = 0) || decide (p.1 = p.2)
theorem vecZ_mem {n : Nat} {r : List Int} (h : r ∈ vecZ n) : r ∈ rowsZ n ∧ r.any nzB = true := List.mem_filter.mp h
theorem rowsZ_small5 {n : Nat} (hn : n ≤ 12) : (rowsZ n).length ≤ sizeLine := by
  have hb : (rowsZ n).length ≤ 3 ^ 12 := by rw [rowsZ_len]; exact pow3_le (by omega)
  exact small (by omega)
theorem vectors_by_ok (k n : Nat) (M : Cs) (hn : n ≤ 12) : callF P (k + 2) ix_vectors_by [.int n] M = .ok (.tup ((vecZ n).map T)) M := by
  rw [call_eq (F := mf_vectors_by) rfl rfl]
  simp [m_vectors_by, all_rows_ok k n M hn]
  rw [lcGo_if T (fun r => r.any nzB) T]
  · simp [vecZ, tupleD]
  · intro r hr
    have h1 := (rowsZ_mem _ _ hr).1
    simp
    rw [lcGo_one .int (fun x => .bl (nzB x))]
    · have ha := any_map nzB r
      cases hb : r.any nzB <;> rw [hb] at ha <;> simp [ha, -any_map] <;> simpa using hb
    · intro x hx
      simp [nzB]
    · exact small (by omega)
  · exact rowsZ_small5 hn
theorem first_sign_ok (k : Nat) (row : List Int) (M : Cs) (h : row.length ≤ 1000) (h2 : row.any nzB = true) : callF P (k + 1) ix_first_sign [T row] M = .ok (.int (fsgn row)) M := by
  rw [call_eq (F := mf_first_sign) rfl rfl]
  simp [m_first_sign]
  rw [lcGo_if .int nzB .int]
  · have hne : toldR row ≠ [] := by
      rw [List.any_eq_true] at h2
      obtain ⟨x, hx, hb⟩ := h2
      exact List.ne_nil_of_mem (List.mem_filter.mpr ⟨hx, hb⟩)
    have e : (row.filter nzB) = toldR row := rfl
    rw [e, fsgn]
    cases ht : toldR row with
    | nil => exact (hne ht).elim
    | cons x xs => simp
  · intro x hx
    by_cases e : x = 0 <;> simp [nzB, e]
  · exact small (by omega)
theorem vecZ_small {n : Nat} (hn : n ≤ 12) : (vecZ n).length ≤ sizeLine := Nat.le_trans (List.length_filter_le _ _) (rowsZ_small5 hn)
theorem forward_by_ok (k n : Nat) (M : Cs) (hn : n ≤ 12) : callF P (k + 3) ix_forward_by [.int n] M = .ok (.tup ((fwdZ n).map T)) M := by
  rw [call_eq (F := mf_forward_by) rfl rfl]
  simp [m_forward_by, vectors_by_ok k n M hn]
  rw [lcGo_if T (fun r => decide (fsgn r = 1)) T]
  · simp [fwdZ, tupleD]
  · intro r hr
    obtain ⟨h1, h2⟩ := vecZ_mem hr
    have h3 := (rowsZ_mem _ _ h1).1
    by_cases e : fsgn r = 1 <;> simp [first_sign_ok _ r M (by omega) h2, e]
  · exact vecZ_small hn
theorem turned_about_ok (k : Nat) (row : List Int) (M : Cs) (h : row.length ≤ 1000) : callF P (k + 1) ix_turned_about [T row] M = .ok (T (negR row)) M := by
  rw [call_eq (F := mf_turned_about) rfl rfl]
  simp [m_turned_about]
  rw [lcGo_one .int (fun x => .int (-x))]
  · simp [tupleD, T, negR, Function.comp_def]
  · intro x hx
    simp
  · exact small (by omega)
theorem zipD_T (a b : List Int) : zipD (a.map .int) (b.map .int) = (a.zip b).map fun p => .tup [.int p.1, .int p.2] := zipD_map .int .int a b
theorem bothD_T (a b : List Int) : bothD (some (T a)) (some (T b)) = true := rfl
theorem does_lead_ok (k : Nat) (a b : List Int) (M : Cs) (h : a.length ≤ 1000) : callF P (k + 1) ix_does_lead [T a, T b] M = .ok (.bl (leadB a b)) M := by
  rw [call_eq (F := mf_does_lead) rfl rfl]
  by_cases e : a = b
  · simp [m_does_lead, e, leadB]
  · simp [m_does_lead, e, bothD_T, zipD_T]
    rw [lcGo_one _ (fun p : Int × Int => .bl (decide (p.1 = 0) || decide (p.1 = p.2)))]
    · have ha := all_map (fun p : Int × Int => decide (p.1 = 0) || decide (p.1 = p.2)) (a.zip b)
      simp only [ok_bind]
      simp [ha, leadB, e, -all_map]
    · rintro ⟨x, y⟩ hx
      simp
    · have : (a.zip b).length ≤ 1000 := by rw [List.length_zip]; omega
      exact small (by omega)

def nz (d : D) : Bool := match d with
  | .int i => nzB i
  | _ => true
/-- a vector, whatever it is -/
def vecB (n : Int) : D → Bool
  | .tup xs => rowB n (.tup xs) && xs.any nz
  | _ => false
theorem rowB_ints {n : Int} {xs : List D} (h : rowB n (.tup xs) = true) : ∃ is : List Int, xs = is.map .int ∧ (is.length : Int) = n ∧ ∀ i ∈ is, -1 ≤ i ∧ i ≤ 1 := by
  simp only [rowB, Bool.and_eq_true, decide_eq_true_eq] at h
  obtain ⟨is, rfl, hi⟩ := all_ints h.2
  exact ⟨is, rfl, by simpa using h.1, hi⟩
theorem any_nz (is : List Int) : (is.map D.int).any nz = is.any nzB := by
  rw [List.any_map]; rfl
theorem is_vector_any (k : Nat) (n : Int) (v : D) (m : Nat) (hv : ov m v = true) (M : Cs) : callF P (k + 4) ix_is_vector_by [.int n, v] M = .ok (.bl (vecB n v)) M := by
  rw [call_eq (F := mf_is_vector_by) rfl rfl]
  have er := ov_rd hv M
  have e1 := is_row_of_any k n v m hv M
  cases hr : rowB n v with
  | false =>
    rw [hr] at e1
    have hb : vecB n v = false := by cases v <;> simp [vecB, hr]
    simp [m_is_vector_by, e1, hb]
  | true =>
    rw [hr] at e1
    obtain ⟨xs, rfl⟩ : ∃ xs, v = .tup xs := by cases v <;> simp [rowB] at hr; exact ⟨_, rfl⟩
    obtain ⟨hl, _⟩ := ov_tup hv
    obtain ⟨is, rfl, _, _⟩ := rowB_ints hr
    rw [List.length_map] at hl
    have hb : vecB n (.tup (is.map .int)) = is.any nzB := by rw [vecB, hr, any_nz, Bool.true_and]
    rw [hb]
    simp [m_is_vector_by, e1]
    rw [lcGo_one .int (fun x => .bl (nzB x))]
    · have ha := any_map nzB is
      simp [ha, -any_map]
    · intro x hx
      simp [nzB]
    · exact small (by omega)
theorem vecB_T {n : Int} {v : D} (h : vecB n v = true) : ∃ is : List Int, v = T is ∧ (is.length : Int) = n ∧ (∀ i ∈ is, -1 ≤ i ∧ i ≤ 1) ∧ is.any nzB = true := by
  cases v <;> simp only [vecB, Bool.false_eq_true, Bool.and_eq_true] at h
  obtain ⟨is, rfl, h1, h2⟩ := rowB_ints h.1
  exact ⟨is, rfl, h1, h2, by rw [← any_nz]; exact h.2⟩
def leadD : D → D → Bool
  | .tup a, .tup b => match ints? a, ints? b with
    | some x, some y => leadB x y
    | _, _ => false
  | _, _ => false
theorem ints_map : ∀ is : List Int, ints? (is.map .int) = some is
  | [] => rfl
  | i :: is => by rw [List.map_cons, ints?, ints_map is]; rfl
theorem leadD_T (a b : List Int) : leadD (T a) (T b) = leadB a b := by
  simp only [T, leadD, ints_map]
/-- a chain, whatever it is -/
def chainB (n : Int) : D → Bool
  | .tup xs => !xs.isEmpty && (xs.all (vecB n) && beside leadD xs)
  | _ => false
theorem vecs_T {n : Int} {xs : List D} (h : xs.all (vecB n) = true) : ∃ rs : List (List Int), xs = rs.map T ∧ ∀ r ∈ rs, (r.length : Int) = n ∧ (∀ i ∈ r, -1 ≤ i ∧ i ≤ 1) ∧ r.any nzB = true := by
  induction xs with
  | nil => exact ⟨[], rfl, by simp⟩
  | cons x xs ih =>
    simp only [List.all_cons, Bool.and_eq_true] at h
    obtain ⟨rs, rfl, hr⟩ := ih h.2
    obtain ⟨is, rfl, h1, h2, h3⟩ := vecB_T h.1
    refine ⟨is :: rs, rfl, ?_⟩
    intro r hm
    rw [List.mem_cons] at hm
    rcases hm with rfl | hm
    · exact ⟨h1, h2, h3⟩
    · exact hr r hm
theorem is_chain_any (k : Nat) (n : Nat) (hn : n ≤ 100) (v : D) (m : Nat) (hv : ov m v = true) (M : Cs) : callF P (k + 5) ix_is_chain_by [.int n, v] M = .ok (.bl (chainB n v)) M := by
  rw [call_eq (F := mf_is_chain_by) rfl rfl]
  have er := ov_rd hv M
  have et := ov_isT hv
  by_cases ht : isTupB v = true
  · obtain ⟨xs, rfl⟩ : ∃ xs, v = .tup xs := by cases v <;> simp [isTupB] at ht; exact ⟨_, rfl⟩
    obtain ⟨hl, hm⟩ := ov_tup hv
    by_cases h0 : xs = []
    · subst h0
      simp [m_is_chain_by, et, isTupB, cmp_eq_nilT, chainB]
    · have hi : xs.isEmpty = false := by cases xs <;> simp at h0 ⊢
      simp [m_is_chain_by, et, isTupB, cmp_eq_nilT, hi]
      have hmap := lcGo_one (ws := []) (step := kt_evE_lc_2 ⟨callF P (k + 4), k + 4⟩ [4] (.call ix_is_vector_by (.cons (.var 0) (.cons (.var 4) .nil)) .nil []) (.nm 4) .nil [some (.int n), some (.tup xs), none, none, none]) (M := M) id (fun x => .bl (vecB n x)) xs (by
        intro x hx
        simp [is_vector_any k n x m (hm x hx) M]) (small (by omega))
      rw [List.map_id] at hmap
      rw [hmap]
      have ha := all_map (vecB n) xs
      have hc : chainB n (.tup xs) = (xs.all (vecB n) && beside leadD xs) := by rw [chainB, hi]; rfl
      cases hg : xs.all (vecB n) with
      | false =>
        rw [hg] at ha
        rw [hc, hg]
        simp [ha, -all_map]
      | true =>
        rw [hg] at ha
        rw [hc, hg]
        obtain ⟨rs, rfl, hr⟩ := vecs_T hg
        simp [ha, -all_map, -List.map_map, slcD, partD, ptD, cut_1, bothD, intD?]
        rw [← List.map_tail, zipD_map, lcGo_one _ (fun p : List Int × List Int => .bl (leadB p.1 p.2))]
        · have hb2 : beside leadD (rs.map T) = (rs.zip rs.tail).all (fun p => leadB p.1 p.2) := by
            rw [beside, ← List.map_tail, List.zip_map, List.all_map]
            congr 1
            funext p
            exact leadD_T p.1 p.2
          have := all_map (fun p : List Int × List Int => leadB p.1 p.2) (rs.zip rs.tail)
          rw [hb2]
          simp [this, -all_map]
        · rintro ⟨p, q⟩ hp
          have hp1 := (hr p (List.of_mem_zip hp).1).1
          simp [does_lead_ok _ p q M (by omega)]
        · have : (rs.zip rs.tail).length ≤ 2000 := by rw [List.length_map] at hl; rw [List.length_zip]; omega
          exact small (by omega)
  · have ht' : isTupB v = false := by simpa using ht
    have hb : chainB n v = false := by cases v <;> simp [isTupB] at ht' <;> simp [chainB]
    simp [m_is_chain_by, er, et, ht', hb]
def isLabB (d : D) : Bool := btw d (-20) 20 && nz d
theorem is_label_any (k : Nat) (v : D) (m : Nat) (hv : ov m v = true) (M : Cs) : callF P (k + 3) ix_is_label [v] M = .ok (.bl (isLabB v)) M := by
  rw [call_eq (F := mf_is_label) rfl rfl]
  have er := ov_rd hv M
  have e1 := is_between_any k hv (-20) 20 M
  cases hb : btw v (-20) 20 with
  | false =>
    rw [hb] at e1
    simp [m_is_label, e1, isLabB, hb]
  | true =>
    rw [hb] at e1
    obtain ⟨i, rfl, _, _⟩ := btw_int hb
    simp [m_is_label, e1, isLabB, hb, nz, nzB]
/-- a labelling, whatever it is -/
def pageB : D → Bool
  | .tup [.int n, .tup ls] => (decide (1 ≤ n) && decide (n ≤ 5)) && (decide (ls.length = (fwdZ n.toNat).length) && ls.all isLabB)
  | _ => false
theorem pageB_two {xs : List D} (h : ¬ xs.length = 2) : pageB (.tup xs) = false := by
  unfold pageB
  split
  · rename_i e
    cases e
    simp at h
  · rfl
theorem pageB_ab (a b : D) : pageB (.tup [a, b]) = (btw a 1 5 && (isTupB b && (match a, b with
    | .int n, .tup ls => decide (ls.length = (fwdZ n.toNat).length) && ls.all isLabB
    | _, _ => false))) := by
  cases a <;> simp [pageB, btw]
  cases b <;> simp [pageB, isTupB]
theorem is_labelling_any (k : Nat) (v : D) (m : Nat) (hv : ov m v = true) (M : Cs) : callF P (k + 4) ix_is_labelling_by [v] M = .ok (.bl (pageB v)) M := by
  rw [call_eq (F := mf_is_labelling_by) rfl rfl]
  have er := ov_rd hv M
  have e2 := is_tuple_of_any (k + 2) hv 2 M
  by_cases ht : isTupB v = true
  · obtain ⟨xs, rfl⟩ : ∃ xs, v = .tup xs := by cases v <;> simp [isTupB] at ht; exact ⟨_, rfl⟩
    obtain ⟨hl, hm⟩ := ov_tup hv
    by_cases h2 : xs.length = 2
    · obtain ⟨a, b, rfl⟩ : ∃ a b, xs = [a, b] := by
        match xs, h2 with
        | [a, b], _ => exact ⟨a, b, rfl⟩
      have ha := hm a (by simp)
      have hb := hm b (by simp)
      have e3 := is_between_any (k + 1) ha 1 5 M
      have e4 := ov_isT hb
      have e5 := ov_rd hb M
      have e6 := ov_rd ha M
      rw [pageB_ab]
      cases h3 : btw a 1 5 with
      | false =>
        rw [h3] at e3
        simp [m_is_labelling_by, e2, e3]
      | true =>
        rw [h3] at e3
        obtain ⟨n, rfl, n1, n2⟩ := btw_int h3
        obtain ⟨j, rfl⟩ : ∃ j : Nat, n = j := ⟨n.toNat, by omega⟩
        have e7 := forward_by_ok k j M (by omega)
        have e8 := is_tuple_of_any (k + 2) hb ((fwdZ j).length : Int) M
        cases h4 : isTupB b with
        | false =>
          have e8' : callF P (k + 3) ix_is_tuple_of [b, .int ((fwdZ j).length : Int)] M = .ok (.bl false) M := by
            rw [show k + 3 = k + 2 + 1 from rfl, e8]; cases b <;> simp [isTupB] at h4 <;> rfl
          simp [m_is_labelling_by, e2, e3, e5, e7, e8']
        | true =>
          obtain ⟨ls, rfl⟩ : ∃ xs, b = .tup xs := by cases b <;> simp [isTupB] at h4; exact ⟨_, rfl⟩
          obtain ⟨hl2, hm2⟩ := ov_tup hb
          by_cases h5 : ls.length = (fwdZ j).length
          · have e8' : callF P (k + 3) ix_is_tuple_of [.tup ls, .int ((fwdZ j).length : Int)] M = .ok (.bl true) M := by
              rw [show k + 3 = k + 2 + 1 from rfl, e8]; simp [h5]
            simp [m_is_labelling_by, e2, e3, e7, e8']
            have hmap := lcGo_one (ws := []) (step := kt_evE_lc_2 ⟨callF P (k + 3), k + 3⟩ [1] (.call ix_is_label (.cons (.var 1) .nil) .nil []) (.nm 1) .nil [some (.tup [.int j, .tup ls]), none]) (M := M) id (fun x => .bl (isLabB x)) ls (by
              intro x hx
              simp [is_label_any k x m (hm2 x hx) M]) (small (by omega))
            rw [List.map_id] at hmap
            rw [hmap]
            have ha := all_map isLabB ls
            simp [ha, -all_map, h5]
          · have e8' : callF P (k + 3) ix_is_tuple_of [.tup ls, .int ((fwdZ j).length : Int)] M = .ok (.bl false) M := by
              have : ¬ ((ls.length : Int) = (fwdZ j).length) := by omega
              rw [show k + 3 = k + 2 + 1 from rfl, e8]; simp [this]
            simp [m_is_labelling_by, e2, e3, e7, e8', h5]
    · have h2' : ¬ ((xs.length : Int) = 2) := by omega
      simp [h2'] at e2
      simp [m_is_labelling_by, e2, pageB_two h2]
  · have ht' : isTupB v = false := by simpa using ht
    have hb : pageB v = false := by cases v <;> simp [isTupB] at ht' <;> simp [pageB]
    have e2' : callF P (k + 3) ix_is_tuple_of [v, .int 2] M = .ok (.bl false) M := by
      rw [show k + 3 = k + 2 + 1 from rfl, e2]; cases v <;> simp [isTupB] at ht' <;> rfl
    simp [m_is_labelling_by, e2', hb]

theorem zeros_mul (n : Nat) (h1 : 1 ≤ n) (h2 : n ≤ 1000) : binD .Mult (.tup [.int 0]) (.int n) = some (T (List.replicate n 0)) := by
  simp only [binD]
  have hc : ((1 : Int) ≤ n && decide ((n : Int) ≤ 1000) && decide (([D.int 0] : List D).length ≤ 1000) && !([D.int 0] : List D).isEmpty) = true := by
    simp; omega
  rw [if_pos hc, T]
  simp
theorem nz_zero {n : Nat} {r : List Int} (h : r.length = n) : r.any nzB = !decide (r = List.replicate n 0) := by
  rw [Bool.eq_iff_iff]
  simp only [List.any_eq_true, Bool.not_eq_true', decide_eq_false_iff_not]
  constructor
  · rintro ⟨x, hx, hb⟩ e
    rw [e] at hx
    have := List.eq_of_mem_replicate hx
    simp [nzB, this] at hb
  · intro hne
    apply Classical.byContradiction
    intro hall
    refine hne (List.eq_replicate_iff.mpr ⟨h, fun x hx => ?_⟩)
    apply Classical.byContradiction
    intro hx0
    exact hall ⟨x, hx, by simp [nzB, hx0]⟩
def ext3' (r : List Int) : List (List Int) := [r ++ [-1], r ++ [0], r ++ [1]]
theorem rowsZ_ext' (n : Nat) : rowsZ (n + 1) = (rowsZ n).flatMap ext3' := rfl
theorem add_T1' (a : List Int) (x : Int) (h : a.length ≤ 1000000) : binD .Add (T a) (.tup [.int x]) = some (T (a ++ [x])) := by
  have : a.length + 1 ≤ sizeLine := small (by omega)
  simp [T, binD, this]
theorem add_lst' (a b : List D) (h : a.length + b.length ≤ sizeLine) : binD .Add (.lst a) (.lst b) = some (.lst (a ++ b)) := by
  simp only [binD]
  rw [if_pos h]
theorem law_vectors_ok (k n : Nat) (M : Cs) (h1 : 1 ≤ n) (hn : n ≤ 5) : callF P (k + 1) ix_law_vectors [.int n] M = .ok (.lst ((vecZ n).map T)) M := by
  rw [call_eq (F := mf_law_vectors) rfl rfl]
  simp [m_law_vectors, rng0 n (by omega)]
  generalize hr : forGo _ _ _ _ _ = r
  obtain ⟨σ', rfl, x, y, z, rfl⟩ : ∃ σ', r = .nx σ' M ∧ ∃ x y z, σ' = [some (.int n), some (.lst ((rowsZ n).map T)), x, y, z, none] := by
    rw [← hr]
    refine forGo_ints (fun i σ => ∃ x y z, σ = [some (.int n), some (.lst ((rowsZ i).map T)), x, y, z, none]) n _ ?_ ⟨none, none, none, rfl⟩
    rintro i hi σ ⟨x, y, z, rfl⟩
    have hb : (rowsZ i).length ≤ 3 ^ 4 := by rw [rowsZ_len]; exact pow3_le (by omega)
    simp
    generalize hr2 : forGo _ _ _ _ _ = r2
    obtain ⟨σ2, rfl, z2, rfl⟩ : ∃ σ', r2 = .nx σ' M ∧ ∃ z, σ' = [some (.int n), some (.lst ((rowsZ i).map T)), some (.int i), some (.lst (((rowsZ i).flatMap ext3').map T)), z, none] := by
      rw [← hr2]
      refine forGo_split T (rowsZ i) (fun don σ => ∃ z, σ = [some (.int n), some (.lst ((rowsZ i).map T)), some (.int i), some (.lst ((don.flatMap ext3').map T)), z, none]) _ ?_ ⟨z, rfl⟩
      rintro don a todo σ e ⟨z, rfl⟩
      refine ⟨[some (.int n), some (.lst ((rowsZ i).map T)), some (.int i), some (.lst (((don ++ [a]).flatMap ext3').map T)), some (T a), none], ?_, _, rfl⟩
      have hd : don.length + 1 ≤ 3 ^ 4 := by
        have := congrArg List.length e
        simp at this
        omega
      have ha : a.length = i := (rowsZ_mem _ _ (by rw [e]; simp)).1
      have hfl : ((don.flatMap ext3').map T).length + 3 ≤ sizeLine := by
        rw [List.length_map, flat3 _ _ 3 (fun _ _ => rfl)]
        exact small (by omega)
      simp [lcGo_c, lcGo_n, add_T1' a _ (by omega : a.length ≤ 1000000)]
      rw [add_lst' _ [T (a ++ [-1]), T (a ++ [0]), T (a ++ [1])] hfl]
      simp [ext3']
    simp [rowsZ_ext']
  simp [zeros_mul n h1 (by omega)]
  rw [lcGo_if T (fun r => r.any nzB) T]
  · simp [vecZ]
  · intro r hr
    have h3 := (rowsZ_mem _ _ hr).1
    rw [nz_zero h3]
    by_cases e : r = List.replicate n 0 <;> simp [zeros_mul n h1 (by omega), e]
  · exact rowsZ_small5 (by omega)
theorem law_opposite_ok (k : Nat) (row : List Int) (M : Cs) (h : row.length ≤ 1000) : callF P (k + 1) ix_law_opposite [T row] M = .ok (T (negR row)) M := by
  rw [call_eq (F := mf_law_opposite) rfl rfl]
  simp [m_law_opposite]
  rw [lcGo_one .int (fun x => .int (-x))]
  · simp [tupleD, T, negR, Function.comp_def]
  · intro x hx
    simp
  · exact small (by omega)
theorem law_is_forward_ok (k : Nat) (row : List Int) (M : Cs) (h : row.length ≤ 1000) (h2 : row.any nzB = true) : callF P (k + 1) ix_law_is_forward [T row] M = .ok (.bl (decide (fsgn row = 1))) M := by
  rw [call_eq (F := mf_law_is_forward) rfl rfl]
  simp [m_law_is_forward]
  rw [lcGo_if .int nzB .int]
  · have hne : toldR row ≠ [] := by
      rw [List.any_eq_true] at h2
      obtain ⟨x, hx, hb⟩ := h2
      exact List.ne_nil_of_mem (List.mem_filter.mpr ⟨hx, hb⟩)
    have e : (row.filter nzB) = toldR row := rfl
    rw [e, fsgn]
    cases ht : toldR row with
    | nil => exact (hne ht).elim
    | cons x xs => simp
  · intro x hx
    by_cases e : x = 0 <;> simp [nzB, e]
  · exact small (by omega)
theorem law_leads_ok (k : Nat) (a b : List Int) (M : Cs) (h : a.length ≤ 1000) : callF P (k + 1) ix_law_leads [T a, T b] M = .ok (.bl (leadB a b)) M := by
  rw [call_eq (F := mf_law_leads) rfl rfl]
  by_cases e : a = b
  · simp [m_law_leads, e, leadB]
  · simp [m_law_leads, e, bothD_T, zipD_T]
    rw [lcGo_one _ (fun p : Int × Int => .bl (decide (p.1 = 0) || decide (p.1 = p.2)))]
    · have ha := all_map (fun p : Int × Int => decide (p.1 = 0) || decide (p.1 = p.2)) (a.zip b)
      simp only [ok_bind]
      simp [ha, leadB, e, -all_map]
    · rintro ⟨x, y⟩ hx
      by_cases hx0 : x = 0 <;> simp [hx0]
    · have : (a.zip b).length ≤ 1000 := by rw [List.length_zip]; omega
      exact small (by omega)
theorem law_fore_ok (k n : Nat) (M : Cs) (h1 : 1 ≤ n) (hn : n ≤ 5) : callF P (k + 2) ix_law_fore [.int n] M = .ok (.lst ((fwdZ n).map T)) M := by
  rw [call_eq (F := mf_law_fore) rfl rfl]
  simp [m_law_fore, law_vectors_ok k n M h1 hn]
  rw [lcGo_if T (fun r => decide (fsgn r = 1)) T]
  · simp [fwdZ]
  · intro r hr
    obtain ⟨h1, h2⟩ := vecZ_mem hr
    have h3 := (rowsZ_mem _ _ h1).1
    by_cases e : fsgn r = 1 <;> simp [law_is_forward_ok k r M (by omega) h2, e]
  · exact vecZ_small (by omega)

/-- what a table tells, the last pair that fits -/
def tabF (f : List Int → Option Int) (p : List Int × Int) : List Int → Option Int := fun x => if x = negR p.1 then some (-p.2) else if x = p.1 then some p.2 else f x
def tab (ps : List (List Int × Int)) : List Int → Option Int := ps.foldl tabF (fun _ => none)
/-- a labelling as it ought to be -/
structure GoodPage (n : Nat) (ls : List Int) : Prop where
  n1 : 1 ≤ n
  n5 : n ≤ 5
  ln : ls.length = (fwdZ n).length
  rg : ∀ x ∈ ls, -20 ≤ x ∧ x ≤ 20 ∧ x ≠ 0
def Pg (n : Nat) (ls : List Int) : D := .tup [.int n, T ls]
@[simp] theorem rd_Pg (M : Cs) (n : Nat) (ls : List Int) : rd M (Pg n ls) = some (Pg n ls) := id rfl
@[simp] theorem idx_Pg0 (n : Nat) (ls : List Int) : idxD (Pg n ls) (.int 0) = some (.int n) := by simp [Pg]
@[simp] theorem idx_Pg1 (n : Nat) (ls : List Int) : idxD (Pg n ls) (.int 1) = some (T ls) := by simp [Pg]
theorem fwdZ_mem {n : Nat} {r : List Int} (h : r ∈ fwdZ n) : r.length = n ∧ (∀ x ∈ r, x = -1 ∨ x = 0 ∨ x = 1) ∧ r.any nzB = true := by
  have h1 := (List.mem_filter.mp h).1
  obtain ⟨h2, h3⟩ := vecZ_mem h1
  exact ⟨(rowsZ_mem _ _ h2).1, (rowsZ_mem _ _ h2).2, h3⟩
theorem fwdZ_len (n : Nat) : (fwdZ n).length ≤ 3 ^ n := by
  have h1 : (fwdZ n).length ≤ (vecZ n).length := List.length_filter_le _ _
  have h2 : (vecZ n).length ≤ (rowsZ n).length := List.length_filter_le _ _
  rw [rowsZ_len] at h2
  omega
/-- the dict at a cell tells what the table tells -/
def IsTab (M : Cs) (r : Nat) (f : List Int → Option Int) (b : Nat) : Prop := ∃ ks vs : List D, rd M (.cell r) = some (.dct true ks vs) ∧ ks.length = vs.length ∧ ks.length ≤ b ∧ (frees 0 ks = true ∧ frees 0 vs = true ∧ ∀ d ∈ ks, ∃ r : List Int, d = T r) ∧ ∀ x : List Int, lookD (T x) ks vs = (f x).map .int
theorem putD_len_le (k v : D) (ks vs : List D) : (putD k v ks vs).1.length ≤ ks.length + 1 := by
  rw [putD]; split <;> simp
theorem frees_mem' {n : Nat} : ∀ {xs : List D}, frees n xs = true → ∀ x ∈ xs, x.free n = true
  | [], _, _, h => by simp at h
  | y :: ys, h, x, hx => by
    simp only [frees, Bool.and_eq_true] at h
    rw [List.mem_cons] at hx
    rcases hx with rfl | hx
    · exact h.1
    · exact frees_mem' h.2 x hx
theorem frees_of' {n : Nat} : ∀ {xs : List D}, (∀ x ∈ xs, x.free n = true) → frees n xs = true
  | [], _ => by simp
  | y :: ys, h => by
    simp only [frees, Bool.and_eq_true]
    exact ⟨h y List.mem_cons_self, frees_of' fun x hx => h x (List.mem_cons_of_mem _ hx)⟩
theorem putD_free {k v : D} {ks vs : List D} (hk : k.free 0 = true) (hv : v.free 0 = true) (h1 : frees 0 ks = true) (h2 : frees 0 vs = true) : frees 0 (putD k v ks vs).1 = true ∧ frees 0 (putD k v ks vs).2 = true := by
  rw [putD]
  split
  · refine ⟨h1, frees_of' fun x hx => ?_⟩
    rw [List.mem_map] at hx
    obtain ⟨⟨a, b⟩, hm, rfl⟩ := hx
    simp only
    split
    · exact hv
    · exact frees_mem' h2 _ (List.of_mem_zip hm).2
  · constructor <;> refine frees_of' fun x hx => ?_ <;> rw [List.mem_append, List.mem_singleton] at hx <;> rcases hx with hx | rfl
    · exact frees_mem' h1 x hx
    · exact hk
    · exact frees_mem' h2 x hx
    · exact hv
theorem IsTab.put {M : Cs} {r : Nat} {f : List Int → Option Int} {b : Nat} (h : IsTab M r f b) (hb : b < 1000000) (x : List Int) (v : Int) :
    ∃ d, (rd M (.cell r)).bind (fun y => setD y (T x) (.int v)) = some d ∧ IsTab (M.set r (some d)) r (fun y => if y = x then some v else f y) (b + 1) := by
  obtain ⟨ks, vs, e, h1, h2, hf, h3⟩ := h
  have hsz : ks.length < sizeLine := by show _ < 16777216; omega
  refine ⟨.dct true (putD (T x) (.int v) ks vs).1 (putD (T x) (.int v) ks vs).2, by rw [e]; simp [setD, hsz], ?_⟩
  refine ⟨_, _, rd_set _ _ _ (rd_lt e), putD_len h1, Nat.le_trans (putD_len_le _ _ _ _) (by omega), ⟨(putD_free (by simp) (by simp) hf.1 hf.2.1).1, (putD_free (by simp) (by simp) hf.1 hf.2.1).2, fun d hd => ((putD_mem d).mp hd).elim (fun e => ⟨x, e⟩) (hf.2.2 d)⟩, fun y => ?_⟩
  rw [putD_look h1, h3 y]
  by_cases hy : y = x
  · simp [hy]
  · simp [hy]
theorem IsTab.set {M : Cs} {r s : Nat} {f : List Int → Option Int} {b : Nat} (h : IsTab M r f b) (ne : s ≠ r) (d : Option D) : IsTab (M.set s d) r f b := by
  obtain ⟨ks, vs, e, h1, h2, hf, h3⟩ := h
  exact ⟨ks, vs, by rw [rd_set_ne _ _ _ _ ne]; exact e, h1, h2, hf, h3⟩
theorem set_set' (M : Cs) (n : Nat) (a b : Option D) : (M.set n a).set n b = M.set n b := by simp
theorem labels_by_ok (k n : Nat) (ls : List Int) (M : Cs) (g : GoodPage n ls) :
    ∃ ks vs : List D, callF P (k + 4) ix_labels_by [Pg n ls] M = .ok (.dct true ks vs) M ∧ ∀ x : List Int, lookD (T x) ks vs = (tab ((fwdZ n).zip ls) x).map .int := by
  have n5 := g.n5
  have hF := forward_by_ok k n M (by omega)
  have hF2 := forward_by_ok k n (M ++ [some (.dct true [] [])]) (by omega)
  have hlen := fwdZ_len n
  have hp : 3 ^ n ≤ 3 ^ 5 := pow3_le n5
  rw [call_eq (F := mf_labels_by) rfl rfl]
  have hz : zipD ((fwdZ n).map T) (ls.map .int) = ((fwdZ n).zip ls).map fun p => .tup [T p.1, .int p.2] := zipD_map T .int _ _
  have hbo : bothD (some (.tup ((fwdZ n).map T))) (some (T ls)) = true := rfl
  simp [m_labels_by, putsD, hF2, hbo, hz]
  generalize hr : forGo _ _ _ _ _ = r
  obtain ⟨σ', M', rfl, ⟨ks, vs, hks, hkl, _, hfr, hlook⟩, hM', x2, x3, rfl⟩ : ∃ σ' M', r = .nx σ' M' ∧ IsTab M' M.length (tab ((fwdZ n).zip ls)) 1000 ∧ (∃ d, M' = M ++ [some d]) ∧ ∃ x2 x3, σ' = [some (Pg n ls), some (.cell M.length), x2, x3] := by
    obtain ⟨σ', M', e, i⟩ := forGo_ind (ws := []) (step := kt_evS_for_2 ⟨callF P (k + 3), k + 3⟩ (.tp (.cons (.nm 2) (.cons (.nm 3) .nil))) (.cons (.asg (.sub (.var 1) (.var 2)) (.var 3)) (.cons (.asg (.sub (.var 1) (.call ix_turned_about (.cons (.var 2) .nil) .nil [])) (.neg (.var 3))) .nil)))
      (I := fun ds σ M' => ∃ don todo : List (List Int × Int), (fwdZ n).zip ls = don ++ todo ∧ ds = todo.map (fun p => .tup [T p.1, .int p.2]) ∧ IsTab M' M.length (tab don) (2 * don.length) ∧ (∃ d, M' = M ++ [some d]) ∧ ∃ x2 x3, σ = [some (Pg n ls), some (.cell M.length), x2, x3]) (by
        rintro d ds σ M1 ⟨don, todo, hdt, hds, ht, ⟨d1, rfl⟩, x2, x3, rfl⟩
        cases todo with
        | nil => simp at hds
        | cons p todo =>
          simp only [List.map_cons, List.cons.injEq] at hds
          obtain ⟨rfl, rfl⟩ := hds
          have hpm : p ∈ (fwdZ n).zip ls := by rw [hdt]; simp
          have hp1 := (fwdZ_mem (List.of_mem_zip (a := p.1) (b := p.2) hpm).1).1
          have hdl : don.length ≤ 3 ^ 5 := by
            have := congrArg List.length hdt
            rw [List.length_zip, List.length_append] at this
            omega
          obtain ⟨d2, e2, t2⟩ := ht.put (by omega) p.1 p.2
          rw [set_sg] at t2
          obtain ⟨d3, e3, t3⟩ := t2.put (by omega) (negR p.1) (-p.2)
          rw [set_sg] at t3
          have h1 := turned_about_ok (k + 2) p.1 (M ++ [some d2]) (by omega)
          refine ⟨[some (Pg n ls), some (.cell M.length), some (T p.1), some (.int p.2)], M ++ [some d3], Or.inl ?_, by simp, don ++ [p], todo, by rw [hdt]; simp, rfl, ?_, ⟨d3, rfl⟩, _, _, rfl⟩
          · simp at e2 e3
            simp [e2, e3, h1]
          · have ef : (fun y => if y = negR p.1 then some (-p.2) else if y = p.1 then some p.2 else tab don y) = tab (don ++ [p]) := by
              show _ = (don ++ [p]).foldl tabF _
              rw [List.foldl_append]; rfl
            rw [ef] at t3
            obtain ⟨a, b, c, d, e, f⟩ := t3
            exact ⟨a, b, c, d, by simp only [List.length_append, List.length_singleton]; omega, f⟩) (((fwdZ n).zip ls).map fun p => D.tup [T p.1, .int p.2]) [some (Pg n ls), some (.cell M.length), none, none] (M ++ [some (.dct true [] [])])
      ⟨[], (fwdZ n).zip ls, rfl, rfl, ⟨[], [], rd_sg _ _, rfl, by simp, ⟨by simp, by simp, by simp⟩, fun x => by simp [lookD, tab]⟩, ⟨_, rfl⟩, none, none, rfl⟩
    obtain ⟨don, todo, hdt, hds, ht, hM, x2, x3, rfl⟩ := i
    have : todo = [] := by simpa using hds.symm
    subst this
    rw [List.append_nil] at hdt
    rw [← hdt] at ht
    obtain ⟨a, b, c, d, e', f⟩ := ht
    refine ⟨_, _, hr ▸ e, ⟨a, b, c, d, ?_, f⟩, hM, x2, x3, rfl⟩
    have : ((fwdZ n).zip ls).length ≤ 3 ^ 5 := by rw [List.length_zip]; omega
    omega
  obtain ⟨d, rfl⟩ := hM'
  rw [rd_sg] at hks
  cases hks
  refine ⟨ks, vs, ?_, hlook⟩
  have hff : (D.dct true ks vs).free 0 = true := by simp [D.free, hfr.1, hfr.2.1]
  simp [hff]

def absI (i : Int) : Int := if i < 0 then -i else i
@[simp] theorem abs_int (i : Int) : absD [.int i] = some (.int (absI i)) := id rfl
def lastsI (row : List Int) : List Int := (row.zipIdx.filter fun p => nzB p.1).map fun p => (p.2 : Int)
def lastI (row : List Int) : Nat := (((row.zipIdx.filter fun p => nzB p.1).map fun p => p.2).getLastD 0)
theorem atI_last' {α : Type} (xs : List α) (h : xs ≠ []) (d : α) : L2.atI xs (-1) = some (xs.getLastD d) := by
  obtain ⟨ys, y, rfl⟩ : ∃ ys y, xs = ys ++ [y] := ⟨_, _, (List.dropLast_concat_getLast h).symm⟩
  have e : (ys ++ [y]).getLastD d = y := by simp
  rw [e]
  simp [L2.atI, L2.ixN]
  rw [if_pos (by omega)]
  simp
  have : (-1 + ((ys.length : Int) + 1)).toNat = ys.length := by omega
  rw [this]
  simp
theorem nz_zip {row : List Int} (h : row.any nzB = true) : (row.zipIdx.filter fun p => nzB p.1) ≠ [] := by
  rw [List.any_eq_true] at h
  obtain ⟨x, hx, hb⟩ := h
  obtain ⟨i, hi, rfl⟩ := List.getElem_of_mem hx
  refine List.ne_nil_of_mem (a := (row[i], i)) (List.mem_filter.mpr ⟨?_, hb⟩)
  rw [List.mem_zipIdx_iff_getElem?]
  exact List.getElem?_eq_getElem hi
theorem last_index_ok (k : Nat) (row : List Int) (M : Cs) (h : row.length ≤ 1000) (h2 : row.any nzB = true) : callF P (k + 1) ix_last_index [T row] M = .ok (.int (lastI row)) M := by
  rw [call_eq (F := mf_last_index) rfl rfl]
  simp [m_last_index]
  rw [enumD_map, lcGo_if _ (fun p : Int × Nat => nzB p.1) (fun p => .int p.2)]
  · have hne := nz_zip h2
    have := atI_last' ((row.zipIdx.filter fun p => nzB p.1).map fun p : Int × Nat => D.int p.2) (by simpa using hne) (.int (0 : Nat))
    have e : ((row.zipIdx.filter fun p => nzB p.1).map fun p : Int × Nat => D.int p.2).getLastD (.int (0 : Nat)) = .int (lastI row) := by
      rw [lastI]
      have : ∀ (xs : List (Int × Nat)) (d : Nat), (xs.map fun p : Int × Nat => D.int p.2).getLastD (.int d) = .int (((xs.map fun p : Int × Nat => p.2).getLastD d : Nat) : Int) := by
        intro xs
        induction xs with
        | nil => intro d; rfl
        | cons x xs ih => intro d; simp only [List.map_cons, List.getLastD_cons]; exact ih _
      exact this _ 0
    rw [e] at this
    simp [this]
  · rintro ⟨x, i⟩ hx
    by_cases e : x = 0 <;> simp [nzB, e]
  · simp; exact small (by omega)
theorem lastI_lt {row : List Int} (h2 : row.any nzB = true) : ∃ h : lastI row < row.length, nzB (row[lastI row]) = true := by
  have hne := nz_zip h2
  have hm : (((row.zipIdx.filter fun p => nzB p.1).map fun p => p.2).getLastD 0) ∈ ((row.zipIdx.filter fun p => nzB p.1).map fun p => p.2) := by
    have hne2 : ((row.zipIdx.filter fun p => nzB p.1).map fun p : Int × Nat => p.2) ≠ [] := by simpa using hne
    rw [List.getLastD_eq_getLast?, List.getLast?_eq_some_getLast hne2]
    exact List.getLast_mem hne2
  rw [List.mem_map] at hm
  obtain ⟨⟨x, i⟩, hx, e⟩ := hm
  rw [List.mem_filter, List.mem_zipIdx_iff_getElem?] at hx
  obtain ⟨hi, hx1⟩ := List.getElem?_eq_some_iff.mp hx.1
  have e2 : lastI row = i := e.symm
  simp only at hi hx1
  exact ⟨by rw [e2]; exact hi, by simp only [e2, hx1]; exact hx.2⟩
def lastT (row : List Int) : Int := row.getD (lastI row) 0 * ((lastI row : Int) + 1)
theorem last_thing_by_ok (k n : Nat) (M : Cs) (hn : n ≤ 5) : callF P (k + 4) ix_last_thing_by [.int n] M = .ok (Pg n ((fwdZ n).map lastT)) M := by
  have hlen := fwdZ_len n
  have hp : 3 ^ n ≤ 3 ^ 5 := pow3_le hn
  have hF2 := forward_by_ok k n (M ++ [some (.lst [])]) (by omega)
  rw [call_eq (F := mf_last_thing_by) rfl rfl]
  simp [m_last_thing_by, hF2]
  generalize hr : forGo _ _ _ _ _ = r
  obtain ⟨σ', M', rfl, rfl, x2, x3, rfl⟩ : ∃ σ' M', r = .nx σ' M' ∧ M' = M ++ [some (.lst (((fwdZ n).map lastT).map .int))] ∧ ∃ x2 x3, σ' = [some (.int n), some (.cell M.length), x2, x3] := by
    obtain ⟨σ', M', e, i⟩ := forGo_ind (ws := []) (step := kt_evS_for_2 ⟨callF P (k + 3), k + 3⟩ (.nm 2) (.cons (.asg (.nm 3) (.call ix_last_index (.cons (.var 2) .nil) .nil [])) (.cons (.exp (.mut .append (.var 1) (.cons (.bin .Mult (.idx (.var 2) (.var 3)) (.bin .Add (.var 3) (.con (.int 1)))) .nil))) .nil)))
      (I := fun ds σ M' => ∃ don todo : List (List Int), fwdZ n = don ++ todo ∧ ds = todo.map T ∧ M' = M ++ [some (.lst ((don.map lastT).map .int))] ∧ ∃ x2 x3, σ = [some (.int n), some (.cell M.length), x2, x3]) (by
        rintro d ds σ M1 ⟨don, todo, hdt, hds, rfl, x2, x3, rfl⟩
        cases todo with
        | nil => simp at hds
        | cons r todo =>
          simp only [List.map_cons, List.cons.injEq] at hds
          obtain ⟨rfl, rfl⟩ := hds
          obtain ⟨hr1, hr2, hr3⟩ := fwdZ_mem (n := n) (r := r) (by rw [hdt]; simp)
          obtain ⟨hlt, hnz⟩ := lastI_lt hr3
          have hsz : don.length < sizeLine := by
            have := congrArg List.length hdt
            rw [List.length_append] at this
            show _ < 16777216
            omega
          have h1 := last_index_ok (k + 2) r (M ++ [some (.lst ((don.map lastT).map .int))]) (by omega) hr3
          have hv := hr2 _ (List.getElem_mem hlt)
          have hm := mulI (r[lastI r]) ((lastI r : Int) + 1) (Or.inl (by simp only [big]; omega))
          have hg : r.getD (lastI r) 0 = r[lastI r] := by rw [List.getD_eq_getElem?_getD, List.getElem?_eq_getElem hlt]; rfl
          refine ⟨[some (.int n), some (.cell M.length), some (T r), some (.int (lastI r))], _, Or.inl ?_, by simp, don ++ [r], todo, by rw [hdt]; simp, rfl, rfl, _, _, rfl⟩
          simp only [List.map_map] at h1
          simp [h1, atI_get r (lastI r) hlt, hm, hsz, lastT, List.getElem?_eq_getElem hlt]) ((fwdZ n).map T) [some (.int n), some (.cell M.length), none, none] (M ++ [some (.lst [])])
      ⟨[], fwdZ n, rfl, rfl, rfl, none, none, rfl⟩
    obtain ⟨don, todo, hdt, hds, rfl, x2, x3, rfl⟩ := i
    have : todo = [] := by simpa using hds.symm
    subst this
    rw [List.append_nil] at hdt
    rw [← hdt] at e
    exact ⟨_, _, hr ▸ e, rfl, x2, x3, rfl⟩
  have ht : ∀ xs : List D, tupleD [.lst xs] = some (.tup xs) := fun _ => rfl
  simp [ht, Pg, T]
theorem greatest_by_ok (k n : Nat) (ls : List Int) (M : Cs) (h : ls.length ≤ 1000) (h0 : ls ≠ []) : callF P (k + 1) ix_greatest_by [Pg n ls] M = .ok (.int (mostI (ls.map absI))) M := by
  rw [call_eq (F := mf_greatest_by) rfl rfl]
  simp [m_greatest_by]
  rw [lcGo_one .int (fun x => .int (absI x))]
  · simp [max_map absI ls h0]
  · intro x hx
    simp
  · exact small (by omega)

section
variable (k n : Nat) (M : Cs) (n1 : 1 ≤ n) (n5 : n ≤ 5)
include n1 n5
theorem check_things_ok : callF P (k + 4) ix_check_things [.int n] M = .ok .non M := by
  have h1 : (1 : Int) ≤ n := by omega
  have h2 : (n : Int) ≤ 5 := by omega
  have e1 := is_between_int k (n : Int) 1 5 M
  have e2 : callF P (k + 3) ix_check_many [.int n, .int 1, .int 5] M = .ok .non M := by
    rw [call_eq (F := mf_check_many) rfl rfl]
    simp [m_check_many, e1, h1, h2, finF]
  rw [call_eq (F := mf_check_things) rfl rfl]
  simp [m_check_things, e2, finF]
theorem vectors_ok : callF P (k + 5) ix_vectors [.int n] M = .ok (.tup ((vecZ n).map T)) M := by
  have e1 := check_things_ok k n M n1 n5
  have e2 := vectors_by_ok (k + 2) n M (by omega)
  rw [call_eq (F := mf_vectors) rfl rfl]
  simp [m_vectors, e1, e2]
theorem forward_vectors_ok : callF P (k + 5) ix_forward_vectors [.int n] M = .ok (.tup ((fwdZ n).map T)) M := by
  have e1 := check_things_ok k n M n1 n5
  have e2 := forward_by_ok (k + 1) n M (by omega)
  rw [call_eq (F := mf_forward_vectors) rfl rfl]
  simp [m_forward_vectors, e1, e2]
theorem is_vector_ok (v : D) (m : Nat) (hv : ov m v = true) : callF P (k + 5) ix_is_vector [.int n, v] M = .ok (.bl (vecB n v)) M := by
  have e1 := check_things_ok k n M n1 n5
  have e2 := is_vector_any k n v m hv M
  rw [call_eq (F := mf_is_vector) rfl rfl]
  simp [m_is_vector, e1, e2]
theorem is_chain_ok (v : D) (m : Nat) (hv : ov m v = true) : callF P (k + 6) ix_is_chain [.int n, v] M = .ok (.bl (chainB n v)) M := by
  have e1 := check_things_ok (k + 1) n M n1 n5
  have e2 := is_chain_any k n (by omega) v m hv M
  rw [call_eq (F := mf_is_chain) rfl rfl]
  simp [m_is_chain, e1, e2]
theorem last_thing_ok : callF P (k + 5) ix_last_thing [.int n] M = .ok (Pg n ((fwdZ n).map lastT)) M := by
  have e1 := check_things_ok k n M n1 n5
  have e2 := last_thing_by_ok k n M n5
  rw [call_eq (F := mf_last_thing) rfl rfl]
  simp [m_last_thing, e1, e2, Pg]
end
/-- a vector -/
def isVec (n : Nat) (r : List Int) : Prop := r.length = n ∧ (∀ x ∈ r, -1 ≤ x ∧ x ≤ 1) ∧ r.any nzB = true
theorem isVec.B {n : Nat} {r : List Int} (h : isVec n r) : vecB n (T r) = true := by
  obtain ⟨h1, h2, h3⟩ := h
  rw [T, vecB, any_nz, h3, Bool.and_true, rowB]
  simp only [List.length_map, h1, List.all_map, decide_true, Bool.true_and, List.all_eq_true, Function.comp_apply, btw, Bool.and_eq_true, decide_eq_true_eq]
  exact h2
theorem check_vector_ok (k n : Nat) (r : List Int) (M : Cs) (hn : n ≤ 1000) (h : isVec n r) : callF P (k + 5) ix_check_vector [.int n, T r] M = .ok .non M := by
  have e1 := is_vector_any k n (T r) 1 (ov_T 0 r (by have := h.1; omega)) M
  rw [h.B] at e1
  rw [call_eq (F := mf_check_vector) rfl rfl]
  simp [m_check_vector, e1, finF]
theorem opposite_ok (k n : Nat) (r : List Int) (M : Cs) (n1 : 1 ≤ n) (n5 : n ≤ 5) (h : isVec n r) : callF P (k + 6) ix_opposite [.int n, T r] M = .ok (T (negR r)) M := by
  have e1 := check_things_ok (k + 1) n M n1 n5
  have e2 := check_vector_ok k n r M (by omega) h
  have e3 := turned_about_ok (k + 4) r M (by have := h.1; omega)
  rw [call_eq (F := mf_opposite) rfl rfl]
  simp [m_opposite, e1, e2, e3]
theorem leads_ok (k n : Nat) (r s : List Int) (M : Cs) (n1 : 1 ≤ n) (n5 : n ≤ 5) (h : isVec n r) (h2 : isVec n s) : callF P (k + 6) ix_leads [.int n, T r, T s] M = .ok (.bl (leadB r s)) M := by
  have e1 := check_things_ok (k + 1) n M n1 n5
  have e2 := check_vector_ok k n r M (by omega) h
  have e3 := check_vector_ok k n s M (by omega) h2
  have e4 := does_lead_ok (k + 4) r s M (by have := h.1; omega)
  rw [call_eq (F := mf_leads) rfl rfl]
  simp [m_leads, e1, e2, e3, e4]
theorem Pg_ov {n : Nat} {ls : List Int} (h : ls.length ≤ 2000) (j : Nat) : ov (j + 2) (Pg n ls) = true := by
  rw [Pg, ov_tup_iff]
  simp [ov_int, ov_T j ls h]
theorem GoodPage.small {n : Nat} {ls : List Int} (g : GoodPage n ls) : ls.length ≤ 243 := by
  have := fwdZ_len n
  have hp : 3 ^ n ≤ 3 ^ 5 := pow3_le g.n5
  have := g.ln
  omega
theorem GoodPage.B {n : Nat} {ls : List Int} (g : GoodPage n ls) : pageB (Pg n ls) = true := by
  have h1 : (1 : Int) ≤ n := by have := g.n1; omega
  have h2 : (n : Int) ≤ 5 := by have := g.n5; omega
  simp only [Pg, T, pageB, h1, h2, List.length_map, g.ln, Int.toNat_natCast, decide_true, Bool.true_and, List.all_map, List.all_eq_true, Function.comp_apply, isLabB, btw, nz, nzB, Bool.and_eq_true, decide_eq_true_eq, Bool.not_eq_true', decide_eq_false_iff_not]
  intro x hx
  have := g.rg x hx
  exact ⟨⟨this.1, this.2.1⟩, this.2.2⟩
theorem is_labelling_ok (k : Nat) (v : D) (m : Nat) (hv : ov m v = true) (M : Cs) : callF P (k + 5) ix_is_labelling [v] M = .ok (.bl (pageB v)) M := by
  have e := is_labelling_any k v m hv M
  rw [call_eq (F := mf_is_labelling) rfl rfl]
  simp [m_is_labelling, e]
theorem check_labelling_ok (k n : Nat) (ls : List Int) (M : Cs) (g : GoodPage n ls) : callF P (k + 5) ix_check_labelling [Pg n ls] M = .ok .non M := by
  have e := is_labelling_any k (Pg n ls) 2 (Pg_ov (by have := g.small; omega) 0) M
  rw [g.B] at e
  rw [call_eq (F := mf_check_labelling) rfl rfl]
  simp [m_check_labelling, e, finF]
theorem label_ok (k n : Nat) (ls r : List Int) (M : Cs) (g : GoodPage n ls) (h : isVec n r) (x : Int) (hx : tab ((fwdZ n).zip ls) r = some x) : callF P (k + 6) ix_label [Pg n ls, T r] M = .ok (.int x) M := by
  have e1 := check_labelling_ok k n ls M g
  have e2 := check_vector_ok k n r M (by have := g.n5; omega) h
  obtain ⟨ks, vs, e3, e4⟩ := labels_by_ok (k + 1) n ls M g
  have e5 := e4 r
  rw [hx] at e5
  rw [call_eq (F := mf_label) rfl rfl]
  simp [m_label, e1, e2, e3, idx_dct, e5]
theorem greatest_ok (k n : Nat) (ls : List Int) (M : Cs) (g : GoodPage n ls) (h0 : ls ≠ []) : callF P (k + 6) ix_greatest [Pg n ls] M = .ok (.int (mostI (ls.map absI))) M := by
  have e1 := check_labelling_ok k n ls M g
  have e2 := greatest_by_ok (k + 4) n ls M (by have := g.small; omega) h0
  rw [call_eq (F := mf_greatest) rfl rfl]
  simp [m_greatest, e1, e2]

theorem law_table_ok (k n : Nat) (ls : List Int) (M : Cs) (g : GoodPage n ls) :
    ∃ ks vs : List D, callF P (k + 3) ix_law_table [Pg n ls] M = .ok (.dct true ks vs) M ∧ (∀ x : List Int, lookD (T x) ks vs = (tab ((fwdZ n).zip ls) x).map .int) ∧ ks.length = vs.length ∧ ks.length ≤ 1000 ∧ frees 0 ks = true ∧ frees 0 vs = true ∧ ∀ d ∈ ks, ∃ r : List Int, d = T r := by
  have n5 := g.n5
  have ln := g.ln
  have hlen := fwdZ_len n
  have hp : 3 ^ n ≤ 3 ^ 5 := pow3_le n5
  have hF := law_fore_ok k n M g.n1 n5
  rw [call_eq (F := mf_law_table) rfl rfl]
  have hrn := rng0 (fwdZ n).length (by omega)
  simp [m_law_table, hF, putsD, hrn]
  generalize hr : forGo _ _ _ _ _ = r
  obtain ⟨σ', M', rfl, ⟨ks, vs, hks, hkl, hkb, hfr, hlook⟩, hM', x1, rfl⟩ : ∃ σ' M', r = .nx σ' M' ∧ IsTab M' M.length (tab ((fwdZ n).zip ls)) 1000 ∧ (∃ d, M' = M ++ [some d]) ∧ ∃ x1, σ' = [some (Pg n ls), x1, some (.lst ((fwdZ n).map T)), some (.cell M.length)] := by
    obtain ⟨σ', M', e, i⟩ := forGo_ind (ws := []) (step := kt_evS_for_2 ⟨callF P (k + 2), k + 2⟩ (.nm 1) (.cons (.asg (.sub (.var 3) (.idx (.var 2) (.var 1))) (.idx (.idx (.var 0) (.con (.int 1))) (.var 1))) (.cons (.asg (.sub (.var 3) (.call ix_law_opposite (.cons (.idx (.var 2) (.var 1)) .nil) .nil [])) (.bin .Sub (.con (.int 0)) (.idx (.idx (.var 0) (.con (.int 1))) (.var 1)))) .nil)))
      (I := fun ds σ M' => ∃ j : Nat, j ≤ (fwdZ n).length ∧ ds = (List.range' j ((fwdZ n).length - j)).map (fun i : Nat => .int (i : Int)) ∧ IsTab M' M.length (tab (((fwdZ n).zip ls).take j)) (2 * j) ∧ (∃ d, M' = M ++ [some d]) ∧ ∃ x1, σ = [some (Pg n ls), x1, some (.lst ((fwdZ n).map T)), some (.cell M.length)]) (by
        rintro d ds σ M1 ⟨j, hj, hds, ht, ⟨d1, rfl⟩, x1, rfl⟩
        by_cases hjl : j = (fwdZ n).length
        · subst hjl; simp at hds
        · have hj2 : j < (fwdZ n).length := by omega
          rw [show (fwdZ n).length - j = ((fwdZ n).length - (j + 1)) + 1 by omega, List.range'_succ, List.map_cons, List.cons.injEq] at hds
          obtain ⟨rfl, rfl⟩ := hds
          have hp1 := (fwdZ_mem (List.getElem_mem hj2)).1
          obtain ⟨d2, e2, t2⟩ := ht.put (by omega) ((fwdZ n)[j]) (ls[j]'(by omega))
          rw [set_sg] at t2
          obtain ⟨d3, e3, t3⟩ := t2.put (by omega) (negR ((fwdZ n)[j])) (-(ls[j]'(by omega)))
          rw [set_sg] at t3
          have h1 := law_opposite_ok (k + 1) ((fwdZ n)[j]) (M ++ [some d2]) (by omega)
          have a1 := atI_get ((fwdZ n).map T) j (by simpa using hj2)
          have a2 := atI_get ls j (by omega)
          refine ⟨[some (Pg n ls), some (.int j), some (.lst ((fwdZ n).map T)), some (.cell M.length)], M ++ [some d3], Or.inl ?_, by simp, j + 1, by omega, rfl, ?_, ⟨d3, rfl⟩, _, rfl⟩
          · simp at e2 e3 a1
            simp [e2, e3, h1, a1, a2]
          · have ef : (fun y => if y = negR ((fwdZ n)[j]) then some (-(ls[j]'(by omega))) else if y = (fwdZ n)[j] then some (ls[j]'(by omega)) else tab (((fwdZ n).zip ls).take j) y) = tab (((fwdZ n).zip ls).take (j + 1)) := by
              have hz : j < ((fwdZ n).zip ls).length := by rw [List.length_zip]; omega
              show _ = (((fwdZ n).zip ls).take (j + 1)).foldl tabF _
              rw [List.take_succ_eq_append_getElem hz, List.foldl_append]
              simp only [List.foldl_cons, List.foldl_nil, List.getElem_zip]
              rfl
            rw [ef] at t3
            obtain ⟨a, b, c, d, e, f⟩ := t3
            exact ⟨a, b, c, d, by omega, f⟩) (intsD (fwdZ n).length) [some (Pg n ls), none, some (.lst ((fwdZ n).map T)), some (.cell M.length)] (M ++ [some (.dct true [] [])])
      ⟨0, by omega, by rw [intsD, List.range_eq_range']; rfl, ⟨[], [], rd_sg _ _, rfl, by simp, ⟨by simp, by simp, by simp⟩, fun x => by simp [lookD, tab]⟩, ⟨_, rfl⟩, none, rfl⟩
    obtain ⟨j, hj, hds, ht, hM, x1, rfl⟩ := i
    have hjl : j = (fwdZ n).length := by
      have := congrArg List.length hds
      simp at this
      omega
    subst hjl
    rw [List.take_of_length_le (by rw [List.length_zip]; omega)] at ht
    obtain ⟨a, b, c, d, e', f⟩ := ht
    exact ⟨_, _, hr ▸ e, ⟨a, b, c, d, by omega, f⟩, hM, x1, rfl⟩
  obtain ⟨d, rfl⟩ := hM'
  rw [rd_sg] at hks
  cases hks
  refine ⟨ks, vs, ?_, hlook, hkl, hkb, hfr.1, hfr.2.1, hfr.2.2⟩
  have hff : (D.dct true ks vs).free 0 = true := by simp [D.free, hfr.1, hfr.2.1]
  simp [hff]
/-- a vector with one thing more -/
def aboveZ (r : List Int) : List (List Int) := (List.range r.length).flatMap fun i => if r.getD i 0 = 0 then [r.take i ++ [-1] ++ r.drop (i + 1), r.take i ++ [1] ++ r.drop (i + 1)] else []
theorem add_TT (a b : List Int) (h : a.length + b.length ≤ 1000000) : binD .Add (T a) (T b) = some (T (a ++ b)) := by
  have : a.length + b.length ≤ sizeLine := small (by omega)
  simp [T, binD, this]
theorem slc_T (xs : List Int) (lo hi : Option Int) : slcD (T xs) (ptD lo) (ptD hi) .non = some (T (cut xs lo hi)) := by
  rw [T, slc_tup, T]
  congr 2
  simp only [cut, List.length_map, List.map_take, List.map_drop]
theorem law_above_ok (k : Nat) (r : List Int) (M : Cs) (h : r.length ≤ 100) : callF P (k + 1) ix_law_above [T r] M = .ok (.lst ((aboveZ r).map T)) M := by
  rw [call_eq (F := mf_law_above) rfl rfl]
  simp [m_law_above, rng0 r.length (by omega)]
  generalize hr : forGo _ _ _ _ _ = rr
  obtain ⟨f, hf⟩ : ∃ f : Nat → List (List Int), f = fun i => if r.getD i 0 = 0 then [r.take i ++ [-1] ++ r.drop (i + 1), r.take i ++ [1] ++ r.drop (i + 1)] else [] := ⟨_, rfl⟩
  have hfl : ∀ i, (f i).length ≤ 2 := fun i => by rw [hf]; dsimp only; split <;> simp
  have hfm : ∀ n, ((List.range n).flatMap f).length ≤ n * 2 := fun n => by
    induction n with
    | zero => simp
    | succ n ih =>
      have e : [n].flatMap f = f n := by simp
      rw [List.range_succ, List.flatMap_append, List.length_append, e]
      have := hfl n
      omega
  obtain ⟨σ', rfl, x, y, rfl⟩ : ∃ σ', rr = .nx σ' M ∧ ∃ x y, σ' = [some (T r), some (.lst (((List.range r.length).flatMap f).map T)), x, y] := by
    rw [← hr]
    refine forGo_ints (fun i σ => ∃ x y, σ = [some (T r), some (.lst (((List.range i).flatMap f).map T)), x, y]) r.length _ ?_ ⟨none, none, rfl⟩
    rintro i hi σ ⟨x, y, rfl⟩
    have a1 := atI_get r i hi
    have hg : r[i]?.getD 0 = r[i] := by rw [List.getElem?_eq_getElem hi]; rfl
    have z1 : slcD (T r) (ptD none) (ptD (some (i : Int))) .non = some (T (r.take i)) := by rw [slc_T, cut_toN]
    have z2 : slcD (T r) (ptD (some ((i : Int) + 1))) (ptD none) .non = some (T (r.drop (i + 1))) := by rw [slc_T, cut_fromS]
    refine ⟨[some (T r), some (.lst (((List.range (i + 1)).flatMap f).map T)), some (.int i), y], ?_, _, _, rfl⟩
    rw [List.range_succ, List.flatMap_append]
    by_cases e : r[i] = 0
    · have hfi : f i = [r.take i ++ [-1] ++ r.drop (i + 1), r.take i ++ [1] ++ r.drop (i + 1)] := by rw [hf]; dsimp only; rw [List.getD_eq_getElem?_getD, hg, if_pos e]
      have l1 : (r.take i).length ≤ 1000000 := by rw [List.length_take]; omega
      have t1 := add_TT (r.take i ++ [-1]) (r.drop (i + 1)) (by simp only [List.length_append, List.length_take, List.length_drop, List.length_singleton]; omega)
      have t2 := add_TT (r.take i ++ [1]) (r.drop (i + 1)) (by simp only [List.length_append, List.length_take, List.length_drop, List.length_singleton]; omega)
      have t3 := add_lst' (((List.range i).flatMap f).map T) [T (r.take i ++ [-1] ++ r.drop (i + 1)), T (r.take i ++ [1] ++ r.drop (i + 1))] (small (by rw [List.length_map]; have := hfm i; simp only [List.length_cons, List.length_nil]; omega))
      obtain ⟨u, hu⟩ : ∃ u, u = r.take i ++ [-1] ++ r.drop (i + 1) := ⟨_, rfl⟩
      obtain ⟨w, hw⟩ : ∃ u, u = r.take i ++ [1] ++ r.drop (i + 1) := ⟨_, rfl⟩
      rw [← hu] at t1 t3 hfi
      rw [← hw] at t2 t3 hfi
      simp [a1, e, lcGo_c, lcGo_n, intD?, z1, z2, add_T1' _ _ l1, t1, t2]
      rw [t3]
      simp [hfi]
    · have hfi : f i = [] := by rw [hf]; dsimp only; rw [List.getD_eq_getElem?_getD, hg, if_neg e]
      simp [a1, e, hfi]
  have : aboveZ r = (List.range r.length).flatMap f := by rw [aboveZ, hf]
  rw [this]
  simp

theorem law_is_vector_any (k : Nat) (n : Nat) (v : D) (m : Nat) (hv : ov m v = true) (M : Cs) : callF P (k + 2) ix_law_is_vector [.int n, v] M = .ok (.bl (vecB n v)) M := by
  rw [call_eq (F := mf_law_is_vector) rfl rfl]
  have er := ov_rd hv M
  have et := ov_isT hv
  by_cases ht : isTupB v = true
  · rw [ht] at et
    obtain ⟨xs, rfl⟩ : ∃ xs, v = .tup xs := by cases v <;> simp [isTupB] at ht; exact ⟨_, rfl⟩
    obtain ⟨hl, hm⟩ := ov_tup hv
    by_cases h2 : xs.length = n
    · simp [m_law_is_vector, et, h2]
      have hmap := lcGo_one (ws := []) (step := kt_evE_lc_2 ⟨callF P (k + 1), k + 1⟩ [2] (.and (.call ix_law_is_whole (.cons (.var 2) .nil) .nil []) (.chain .LtE .LtE (.neg (.con (.int 1))) (.var 2) (.con (.int 1)))) (.nm 2) .nil [some (.int n), some (.tup xs), none]) (M := M) id (fun x => .bl (btw x (-1) 1)) xs (by
        intro x hx
        have e1 := law_is_whole_any k (hm x hx) M
        have e2 := ov_rd (hm x hx) M
        cases x with
        | int i => by_cases hi : -1 ≤ i <;> simp [e1, isInt, btw, hi]
        | _ => simp [e1, isInt, btw]) (small (by omega))
      rw [List.map_id] at hmap
      rw [hmap]
      have ha := all_map (fun x => btw x (-1) 1) xs
      have hrow : rowB n (.tup xs) = xs.all (fun x => btw x (-1) 1) := by simp [rowB, h2]
      cases hg : xs.all (fun x => btw x (-1) 1) with
      | false =>
        rw [hg] at ha
        have hb : vecB n (.tup xs) = false := by rw [vecB, hrow, hg, Bool.false_and]
        simp [ha, hb, -all_map]
      | true =>
        rw [hg] at ha
        obtain ⟨is, rfl, _⟩ := all_ints hg
        have hb : vecB n (.tup (is.map .int)) = is.any nzB := by rw [vecB, hrow, hg, any_nz, Bool.true_and]
        rw [List.length_map] at hl
        rw [hb]
        simp [ha, -all_map, -List.map_map]
        rw [lcGo_one .int (fun x => .bl (nzB x))]
        · have hy := any_map nzB is
          simp [hy, -any_map]
        · intro x hx
          simp [nzB]
        · exact small (by omega)
    · have h2' : ¬ ((xs.length : Int) = n) := by omega
      have hb : vecB n (.tup xs) = false := by simp [vecB, rowB, h2']
      simp [m_law_is_vector, et, h2, h2', hb]
  · have ht' : isTupB v = false := by simpa using ht
    have hb : vecB n v = false := by cases v <;> simp [isTupB] at ht' <;> simp [vecB]
    rw [ht'] at et
    simp [m_law_is_vector, er, et, hb]
theorem law_is_chain_any (k : Nat) (n : Nat) (hn : n ≤ 100) (v : D) (m : Nat) (hv : ov m v = true) (M : Cs) : callF P (k + 3) ix_law_is_chain [.int n, v] M = .ok (.bl (chainB n v)) M := by
  rw [call_eq (F := mf_law_is_chain) rfl rfl]
  have er := ov_rd hv M
  have et := ov_isT hv
  by_cases ht : isTupB v = true
  · obtain ⟨xs, rfl⟩ : ∃ xs, v = .tup xs := by cases v <;> simp [isTupB] at ht; exact ⟨_, rfl⟩
    obtain ⟨hl, hm⟩ := ov_tup hv
    by_cases h0 : xs = []
    · subst h0
      simp [m_law_is_chain, et, isTupB, cmp_eq_nilT, chainB]
    · have hi : xs.isEmpty = false := by cases xs <;> simp at h0 ⊢
      simp [m_law_is_chain, et, isTupB, cmp_eq_nilT, hi]
      have hmap := lcGo_one (ws := []) (step := kt_evE_lc_2 ⟨callF P (k + 2), k + 2⟩ [3] (.call ix_law_is_vector (.cons (.var 0) (.cons (.var 3) .nil)) .nil []) (.nm 3) .nil [some (.int n), some (.tup xs), none, none]) (M := M) id (fun x => .bl (vecB n x)) xs (by
        intro x hx
        simp [law_is_vector_any k n x m (hm x hx) M]) (small (by omega))
      rw [List.map_id] at hmap
      rw [hmap]
      have ha := all_map (vecB n) xs
      have hc : chainB n (.tup xs) = (xs.all (vecB n) && beside leadD xs) := by rw [chainB, hi]; rfl
      cases hg : xs.all (vecB n) with
      | false =>
        rw [hg] at ha
        rw [hc, hg]
        simp [ha, -all_map]
      | true =>
        rw [hg] at ha
        rw [hc, hg]
        obtain ⟨rs, rfl, hr⟩ := vecs_T hg
        rw [List.length_map] at hl
        have hne : rs ≠ [] := by simpa using h0
        have hpos : 0 < rs.length := List.length_pos_iff.mpr hne
        have hrng := rng0 (rs.length - 1) (by omega)
        have hcast : ((rs.length - 1 : Nat) : Int) = (rs.length : Int) - 1 := by omega
        rw [hcast] at hrng
        simp [ha, -all_map, -List.map_map, hrng]
        obtain ⟨f, hf⟩ : ∃ f : Nat → Bool, f = fun i => leadD ((rs.map T).getD i .non) ((rs.map T).getD (i + 1) .non) := ⟨_, rfl⟩
        have hF : beside leadD (rs.map T) = (List.range (rs.length - 1)).all f := by
          rw [← beside_range, List.length_map, hf]
        rw [hF, intsD, lcGo_one (fun i : Nat => .int (i : Int)) (fun i => .bl (f i))]
        · have ha2 := all_map f (List.range (rs.length - 1))
          simp [ha2, -all_map]
        · intro i hi'
          rw [List.mem_range] at hi'
          have a1 := atI_get (rs.map T) i (by simp; omega)
          have a2 := atI_get (rs.map T) (i + 1) (by simp; omega)
          rw [show ((i + 1 : Nat) : Int) = (i : Int) + 1 by omega] at a2
          have hri := (hr _ (List.getElem_mem (show i < rs.length by omega))).1
          have hl1 := law_leads_ok (k + 1) (rs[i]'(by omega)) (rs[i + 1]'(by omega)) M (by omega)
          rw [hf]
          simp only [List.getD_eq_getElem?_getD]
          rw [List.getElem?_eq_getElem (by simp; omega), List.getElem?_eq_getElem (by simp; omega)]
          simp [a1, a2, hl1, leadD_T]
        · rw [List.length_range]; exact small (by omega)
  · have ht' : isTupB v = false := by simpa using ht
    have hb : chainB n v = false := by cases v <;> simp [isTupB] at ht' <;> simp [chainB]
    simp [m_law_is_chain, er, et, ht', hb]
theorem fwd_cnt : ∀ n < 6, 1 ≤ n → (fwdZ n).length = [1, 4, 13, 40, 121].getD (n - 1) 0 := by decide +kernel
theorem law_is_page_any (k : Nat) (v : D) (m : Nat) (hv : ov m v = true) (M : Cs) : callF P (k + 2) ix_law_is_page [v] M = .ok (.bl (pageB v)) M := by
  rw [call_eq (F := mf_law_is_page) rfl rfl]
  have er := ov_rd hv M
  have et := ov_isT hv
  by_cases ht : isTupB v = true
  · rw [ht] at et
    obtain ⟨xs, rfl⟩ : ∃ xs, v = .tup xs := by cases v <;> simp [isTupB] at ht; exact ⟨_, rfl⟩
    obtain ⟨hl, hm⟩ := ov_tup hv
    by_cases h2 : xs.length = 2
    · obtain ⟨a, b, rfl⟩ : ∃ a b, xs = [a, b] := by
        match xs, h2 with
        | [a, b], _ => exact ⟨a, b, rfl⟩
      have ha := hm a (by simp)
      have hb := hm b (by simp)
      have e3 := law_is_whole_any k ha M
      have e4 := ov_isT hb
      have e5 := ov_rd hb M
      have e6 := ov_rd ha M
      rw [pageB_ab]
      cases h3 : isInt a with
      | false =>
        rw [h3] at e3
        have hb1 : btw a 1 5 = false := by cases a <;> simp [isInt] at h3 <;> rfl
        simp [m_law_is_page, et, e3, hb1]
      | true =>
        rw [h3] at e3
        obtain ⟨n, rfl⟩ : ∃ n, a = .int n := by cases a <;> simp [isInt] at h3; exact ⟨_, rfl⟩
        by_cases n1 : 1 ≤ n
        · by_cases n5 : n ≤ 5
          · have hb1 : btw (.int n) 1 5 = true := by simp [btw, n1, n5]
            obtain ⟨j, rfl⟩ : ∃ j : Nat, n = j := ⟨n.toNat, by omega⟩
            have hcnt := fwd_cnt j (by omega) (by omega)
            have hidx : L2.atI [D.int 1, .int 4, .int 13, .int 40, .int 121] ((j : Int) - 1) = some (.int ((fwdZ j).length : Int)) := by
              rw [hcnt]
              have : j = 1 ∨ j = 2 ∨ j = 3 ∨ j = 4 ∨ j = 5 := by omega
              rcases this with rfl | rfl | rfl | rfl | rfl <;> rfl
            cases h4 : isTupB b with
            | false =>
              rw [h4] at e4
              simp [m_law_is_page, et, e3, n1, n5, hb1, e4, e5]
            | true =>
              rw [h4] at e4
              obtain ⟨ls, rfl⟩ : ∃ xs, b = .tup xs := by cases b <;> simp [isTupB] at h4; exact ⟨_, rfl⟩
              obtain ⟨hl2, hm2⟩ := ov_tup hb
              by_cases h5 : ls.length = (fwdZ j).length
              · simp [m_law_is_page, et, e3, n1, n5, hb1, e4, hidx, h5]
                have hmap := lcGo_one (ws := []) (step := kt_evE_lc_2 ⟨callF P (k + 1), k + 1⟩ [1] (.and (.call ix_law_is_whole (.cons (.var 1) .nil) .nil []) (.and (.chain .LtE .LtE (.neg (.con (.int 20))) (.var 1) (.con (.int 20))) (.cmp .NotEq (.var 1) (.con (.int 0))))) (.nm 1) .nil [some (.tup [.int j, .tup ls]), none]) (M := M) id (fun x => .bl (isLabB x)) ls (by
                  intro x hx
                  have f1 := law_is_whole_any k (hm2 x hx) M
                  have f2 := ov_rd (hm2 x hx) M
                  cases x with
                  | int i =>
                    by_cases hi : -20 ≤ i
                    · by_cases hj : i ≤ 20 <;> simp [f1, isInt, isLabB, btw, nz, nzB, hi, hj]
                    · simp [f1, isInt, isLabB, btw, hi]
                  | _ => simp [f1, isInt, isLabB, btw]) (small (by omega))
                rw [List.map_id] at hmap
                rw [hmap]
                have ha := all_map isLabB ls
                simp [ha, -all_map]
              · have h5' : ¬ ((ls.length : Int) = (fwdZ j).length) := by omega
                simp [m_law_is_page, et, e3, n1, n5, hb1, e4, hidx, h5, h5']
          · have hb1 : btw (.int n) 1 5 = false := by simp [btw, n5]
            simp [m_law_is_page, et, e3, n1, n5, hb1]
        · have hb1 : btw (.int n) 1 5 = false := by simp [btw, n1]
          simp [m_law_is_page, et, e3, n1, hb1]
    · have h2' : ¬ ((xs.length : Int) = 2) := by omega
      simp [m_law_is_page, et, h2', pageB_two h2]
  · have ht' : isTupB v = false := by simpa using ht
    have hb : pageB v = false := by cases v <;> simp [isTupB] at ht' <;> simp [pageB]
    rw [ht'] at et
    simp [m_law_is_page, er, et, hb]
theorem law_last_ok (k : Nat) (row : List Int) (M : Cs) (h : row.length ≤ 1000) (h2 : row.any nzB = true) : callF P (k + 1) ix_law_last [T row] M = .ok (.int (lastI row)) M := by
  rw [call_eq (F := mf_law_last) rfl rfl]
  simp [m_law_last, rng0 row.length (by omega)]
  rw [intsD, lcGo_if (fun i : Nat => .int (i : Int)) (fun i => nzB (row.getD i 0)) (fun i : Nat => .int (i : Int))]
  · have e : ((List.range row.length).filter fun i => nzB (row.getD i 0)) = (row.zipIdx.filter fun p => nzB p.1).map fun p => p.2 := by
      have hz : row.zipIdx = (List.range row.length).map fun i => (row.getD i 0, i) := by
        apply List.ext_getElem
        · simp
        · intro i h1 h2
          simp only [List.length_zipIdx] at h1
          simp
          rw [List.getElem?_eq_getElem h1]; rfl
      rw [hz, List.filter_map, List.map_map]
      simp [Function.comp_def]
    rw [e]
    have hne : ((row.zipIdx.filter fun p => nzB p.1).map fun p : Int × Nat => p.2) ≠ [] := by simpa using nz_zip h2
    have h3 := atI_last' (((row.zipIdx.filter fun p => nzB p.1).map fun p : Int × Nat => p.2).map fun i : Nat => D.int (i : Int)) (by simpa using hne) (.int (0 : Nat))
    have h4 : ∀ (xs : List Nat) (d : Nat), (xs.map fun i : Nat => D.int (i : Int)).getLastD (.int d) = .int ((xs.getLastD d : Nat) : Int) := by
      intro xs
      induction xs with
      | nil => intro d; rfl
      | cons x xs ih => intro d; simp only [List.map_cons, List.getLastD_cons]; exact ih _
    rw [h4] at h3
    simp [h3, lastI, -List.map_map]
  · intro i hi
    rw [List.mem_range] at hi
    have hg : row[i]?.getD 0 = row[i] := by rw [List.getElem?_eq_getElem hi]; rfl
    simp [atI_get row i hi, List.getD_eq_getElem?_getD, hg, nzB]
    by_cases e : row[i] = 0 <;> simp [e]
  · simp; exact small (by omega)

theorem perm_map' {α β : Type} (f : α → β) : ∀ {l ys : List β}, l.Perm ys → ∀ xs : List α, l = xs.map f → ∃ zs : List α, xs.Perm zs ∧ ys = zs.map f := by
  intro l ys h
  induction h with
  | nil => intro xs e; exact ⟨xs, .refl _, e⟩
  | cons x _ ih =>
    intro xs e
    cases xs with
    | nil => simp at e
    | cons a as =>
      simp only [List.map_cons, List.cons.injEq] at e
      obtain ⟨zs, p, e2⟩ := ih as e.2
      exact ⟨a :: zs, p.cons a, by simp [e.1, e2]⟩
  | swap x y l =>
    intro xs e
    match xs, e with
    | a :: b :: as, e =>
      simp only [List.map_cons, List.cons.injEq] at e
      exact ⟨b :: a :: as, .swap _ _ _, by simp [e.1, e.2.1, e.2.2]⟩
  | trans _ _ ih1 ih2 =>
    intro xs e
    obtain ⟨zs, p, e2⟩ := ih1 xs e
    obtain ⟨ws, q, e3⟩ := ih2 zs e2
    exact ⟨ws, p.trans q, e3⟩
/-- a mixed row of whole numbers -/
theorem mixed_ints (k c : Nat) (is : List Int) (M : Cs) (h : IsBag M c) (hs : is.length < k + 1) (hk : k ≤ 100000) : ∃ (js : List Int) (M' : Cs), js.Perm is ∧ Bm c M M' ∧ IsBag M' c ∧ callF P (k + 2) ix_law_mixed [.cell c, .lst (is.map .int)] M = .ok (.lst (js.map .int)) M' := by
  obtain ⟨ys, M', hp, hb, e⟩ := mixed_ok k c (is.map .int) M h (by simp) (by simpa using hs) hk 0 (by omega) (by simp)
  obtain ⟨zs, p, rfl⟩ := perm_map' D.int hp.symm is rfl
  exact ⟨zs, M', p.symm, hb, hb.bag h.lt, e⟩
theorem law_last_lst (k : Nat) (row : List Int) (M : Cs) (h : row.length ≤ 1000) (h2 : row.any nzB = true) : callF P (k + 1) ix_law_last [.lst (row.map .int)] M = .ok (.int (lastI row)) M := by
  rw [call_eq (F := mf_law_last) rfl rfl]
  simp [m_law_last, rng0 row.length (by omega)]
  rw [intsD, lcGo_if (fun i : Nat => .int (i : Int)) (fun i => nzB (row.getD i 0)) (fun i : Nat => .int (i : Int))]
  · have e : ((List.range row.length).filter fun i => nzB (row.getD i 0)) = (row.zipIdx.filter fun p => nzB p.1).map fun p => p.2 := by
      have hz : row.zipIdx = (List.range row.length).map fun i => (row.getD i 0, i) := by
        apply List.ext_getElem
        · simp
        · intro i h1 h2
          simp only [List.length_zipIdx] at h1
          simp
          rw [List.getElem?_eq_getElem h1]; rfl
      rw [hz, List.filter_map, List.map_map]
      simp [Function.comp_def]
    rw [e]
    have hne : ((row.zipIdx.filter fun p => nzB p.1).map fun p : Int × Nat => p.2) ≠ [] := by simpa using nz_zip h2
    have h3 := atI_last' (((row.zipIdx.filter fun p => nzB p.1).map fun p : Int × Nat => p.2).map fun i : Nat => D.int (i : Int)) (by simpa using hne) (.int (0 : Nat))
    have h4 : ∀ (xs : List Nat) (d : Nat), (xs.map fun i : Nat => D.int (i : Int)).getLastD (.int d) = .int ((xs.getLastD d : Nat) : Int) := by
      intro xs
      induction xs with
      | nil => intro d; rfl
      | cons x xs ih => intro d; simp only [List.map_cons, List.getLastD_cons]; exact ih _
    rw [h4] at h3
    simp [h3, lastI, -List.map_map]
  · intro i hi
    rw [List.mem_range] at hi
    have hg : row[i]?.getD 0 = row[i] := by rw [List.getElem?_eq_getElem hi]; rfl
    simp [atI_get (row.map D.int) i (by simpa using hi), List.getD_eq_getElem?_getD, hg, nzB]
    by_cases e : row[i] = 0 <;> simp [e]
  · simp; exact small (by omega)
/-- the sizes as they may be drawn -/
def szOk (i : Int) : Prop := 1 ≤ i ∧ i ≤ 19
/-- labels by last things in an order -/
theorem moved_loop (k c n : Nat) (M : Cs) (ord : List Nat) (tu sz sg : List Int) (h1 : 1 ≤ n) (h5 : n ≤ 5) (ho : ord.Perm (List.range n)) (ht : tu.length = n) (htp : ∀ i ∈ tu, pm1 i) (hz : sz.length = n) (hzp : ∀ i ∈ sz, szOk i) (hs : sg.length = n) (hsp : ∀ i ∈ sg, pm1 i) (x3 x8 x9 x10 x11 : Option D) :
    ∃ (y3 y8 y9 : Option D) (ls : List Int), GoodPage n ls ∧ forGo [] (kt_evS_for_2 ⟨callF P (k + 3), k + 3⟩ (.nm 3) (.cons (.asg (.nm 8) (.lc [9] (.bin .Mult (.idx (.var 3) (.idx (.var 4) (.var 9))) (.idx (.var 5) (.var 9))) (.nm 9) (.rng (.con (.int 0)) (.var 1)) .nil)) (.cons (.asg (.nm 9) (.call ix_law_last (.cons (.var 8) .nil) .nil [])) (.cons (.exp (.mut .append (.var 7) (.cons (.bin .Mult (.bin .Mult (.idx (.var 2) (.var 9)) (.idx (.var 6) (.var 9))) (.idx (.var 8) (.var 9))) .nil))) .nil))))
      ((fwdZ n).map T) [some (.cell c), some (.int n), some (.lst (sz.map .int)), x3, some (.lst (ord.map fun i : Nat => .int (i : Int))), some (.lst (tu.map .int)), some (.lst (sg.map .int)), some (.cell M.length), x8, x9, x10, x11] (M ++ [some (.lst [])])
      = .nx [some (.cell c), some (.int n), some (.lst (sz.map .int)), y3, some (.lst (ord.map fun i : Nat => .int (i : Int))), some (.lst (tu.map .int)), some (.lst (sg.map .int)), some (.cell M.length), y8, y9, x10, x11] (M ++ [some (.lst (ls.map .int))]) := by
  have hlen := fwdZ_len n
  have hp : 3 ^ n ≤ 3 ^ 5 := pow3_le h5
  have hol := ho.length_eq
  rw [List.length_range] at hol
  obtain ⟨σ', M', e, i⟩ := forGo_ind (ws := []) (step := kt_evS_for_2 ⟨callF P (k + 3), k + 3⟩ (.nm 3) (.cons (.asg (.nm 8) (.lc [9] (.bin .Mult (.idx (.var 3) (.idx (.var 4) (.var 9))) (.idx (.var 5) (.var 9))) (.nm 9) (.rng (.con (.int 0)) (.var 1)) .nil)) (.cons (.asg (.nm 9) (.call ix_law_last (.cons (.var 8) .nil) .nil [])) (.cons (.exp (.mut .append (.var 7) (.cons (.bin .Mult (.bin .Mult (.idx (.var 2) (.var 9)) (.idx (.var 6) (.var 9))) (.idx (.var 8) (.var 9))) .nil))) .nil))))
    (I := fun ds σ M' => ∃ todo : List (List Int), ∃ ls : List Int, ds = todo.map T ∧ (∀ r ∈ todo, r ∈ fwdZ n) ∧ ls.length + todo.length = (fwdZ n).length ∧ (∀ x ∈ ls, -20 ≤ x ∧ x ≤ 20 ∧ x ≠ 0) ∧ M' = M ++ [some (.lst (ls.map .int))] ∧
      ∃ y3 y8 y9, σ = [some (.cell c), some (.int n), some (.lst (sz.map .int)), y3, some (.lst (ord.map fun i : Nat => .int (i : Int))), some (.lst (tu.map .int)), some (.lst (sg.map .int)), some (.cell M.length), y8, y9, x10, x11]) (by
      rintro d ds σ M1 ⟨todo, ls, hds, hmem, hcnt, hgood, rfl, y3, y8, y9, rfl⟩
      cases todo with
      | nil => simp at hds
      | cons r todo =>
        simp only [List.map_cons, List.cons.injEq] at hds
        obtain ⟨rfl, rfl⟩ := hds
        obtain ⟨hr1, hr2, hr3⟩ := fwdZ_mem (hmem r List.mem_cons_self)
        obtain ⟨mv, hmv⟩ : ∃ mv : List Int, mv = (List.range n).map fun i => r.getD (ord.getD i 0) 0 * tu.getD i 0 := ⟨_, rfl⟩
        have hmvl : mv.length = n := by rw [hmv]; simp
        have hordlt : ∀ i (hi : i < n), ord.getD i 0 < n := fun i hi => by
          rw [List.getD_eq_getElem?_getD, List.getElem?_eq_getElem (by omega)]
          have : ord[i]'(by omega) ∈ List.range n := ho.mem_iff.mp (List.getElem_mem _)
          simpa using this
        have htuv : ∀ i (hi : i < n), pm1 (tu.getD i 0) := fun i hi => by
          rw [List.getD_eq_getElem?_getD, List.getElem?_eq_getElem (by omega)]
          exact htp _ (List.getElem_mem _)
        have hmvv : ∀ x ∈ mv, -1 ≤ x ∧ x ≤ 1 := by
          intro x hx
          rw [hmv, List.mem_map] at hx
          obtain ⟨i, hi, rfl⟩ := hx
          rw [List.mem_range] at hi
          have h1 : r.getD (ord.getD i 0) 0 = -1 ∨ r.getD (ord.getD i 0) 0 = 0 ∨ r.getD (ord.getD i 0) 0 = 1 := by
            have hlt := hordlt i hi
            rw [List.getD_eq_getElem?_getD, List.getElem?_eq_getElem (by omega)]
            exact hr2 _ (List.getElem_mem _)
          rcases h1 with h | h | h <;> rcases htuv i hi with h' | h' <;> rw [h, h'] <;> omega
        have hmvn : mv.any nzB = true := by
          rw [List.any_eq_true] at hr3 ⊢
          obtain ⟨x, hx, hb⟩ := hr3
          obtain ⟨j, hj, rfl⟩ := List.getElem_of_mem hx
          have hjm : j ∈ ord := ho.mem_iff.mpr (by simpa using by omega)
          obtain ⟨i, hi, hij⟩ := List.getElem_of_mem hjm
          refine ⟨r[j] * tu.getD i 0, ?_, ?_⟩
          · rw [hmv, List.mem_map]
            refine ⟨i, by simp; omega, ?_⟩
            rw [show ord.getD i 0 = j by rw [List.getD_eq_getElem?_getD, List.getElem?_eq_getElem hi, hij]; rfl]
            rw [show r.getD j 0 = r[j] by rw [List.getD_eq_getElem?_getD, List.getElem?_eq_getElem hj]; rfl]
          · rcases htuv i (by omega) with h' | h' <;> rw [h'] <;> simp [nzB] at hb ⊢ <;> omega
        obtain ⟨hlt, hnz⟩ := lastI_lt hmvn
        have hlt2 : lastI mv < n := by omega
        have hlc : ∀ y8 : Option D, lcGo [] (kt_evE_lc_2 ⟨callF P (k + 3), k + 3⟩ [9] (.bin .Mult (.idx (.var 3) (.idx (.var 4) (.var 9))) (.idx (.var 5) (.var 9))) (.nm 9) .nil [some (.cell c), some (.int n), some (.lst (sz.map .int)), some (T r), some (.lst (ord.map fun i : Nat => .int (i : Int))), some (.lst (tu.map .int)), some (.lst (sg.map .int)), some (.cell M.length), y8, y9, x10, x11]) (intsD n) [] (M ++ [some (.lst (ls.map .int))]) = .ok (mv.map .int) (M ++ [some (.lst (ls.map .int))]) := by
          intro y8
          rw [intsD, lcGo_one (fun i : Nat => .int (i : Int)) (fun i => .int (r.getD (ord.getD i 0) 0 * tu.getD i 0))]
          · rw [hmv]; simp
          · intro i hi
            rw [List.mem_range] at hi
            have a1 := atI_get (ord.map fun i : Nat => D.int (i : Int)) i (by simp; omega)
            have a2 := atI_get (tu.map D.int) i (by simp; omega)
            have hlt3 := hordlt i hi
            have o1 : ord.getD i 0 = ord[i]'(by omega) := by rw [List.getD_eq_getElem?_getD, List.getElem?_eq_getElem (by omega)]; rfl
            rw [o1] at hlt3
            have a3 := atI_get r (ord[i]'(by omega)) (by omega)
            have htv := htuv i hi
            have t1 : tu.getD i 0 = tu[i]'(by omega) := by rw [List.getD_eq_getElem?_getD, List.getElem?_eq_getElem (by omega)]; rfl
            rw [t1] at htv ⊢
            rw [o1]
            have r1 : r.getD (ord[i]'(by omega)) 0 = r[ord[i]'(by omega)]'(by omega) := by rw [List.getD_eq_getElem?_getD, List.getElem?_eq_getElem (by omega)]; rfl
            rw [r1]
            have hm := mulI (r[ord[i]'(by omega)]'(by omega)) (tu[i]'(by omega)) (Or.inr (by simp only [big]; rcases htv with h | h <;> rw [h] <;> omega))
            simp at a1 a2
            simp [a1, a2, a3, hm]
          · rw [List.length_range]; exact small (by omega)
        have hll := law_last_lst (k + 2) mv (M ++ [some (.lst (ls.map .int))]) (by omega) hmvn
        have b1 := atI_get (sz.map D.int) (lastI mv) (by simp; omega)
        have b2 := atI_get (sg.map D.int) (lastI mv) (by simp; omega)
        have b3 := atI_get (mv.map D.int) (lastI mv) (by simp; omega)
        simp only [List.getElem_map] at b1 b2 b3
        have zz := hzp _ (List.getElem_mem (show lastI mv < sz.length by omega))
        have ss := hsp _ (List.getElem_mem (show lastI mv < sg.length by omega))
        have vv := hmvv _ (List.getElem_mem hlt)
        have m1 := mulI (sz[lastI mv]'(by omega)) (sg[lastI mv]'(by omega)) (Or.inl (by simp only [big]; have := zz; simp only [szOk] at this; omega))
        have m2 := mulI ((sz[lastI mv]'(by omega)) * (sg[lastI mv]'(by omega))) (mv[lastI mv]) (Or.inr (by simp only [big]; omega))
        have hsz : ls.length < sizeLine := by show _ < 16777216; omega
        have hnz2 : ¬ mv[lastI mv] = 0 := by simpa [nzB] using hnz
        refine ⟨[some (.cell c), some (.int n), some (.lst (sz.map .int)), some (T r), some (.lst (ord.map fun i : Nat => .int (i : Int))), some (.lst (tu.map .int)), some (.lst (sg.map .int)), some (.cell M.length), some (.lst (mv.map .int)), some (.int (lastI mv)), x10, x11], M ++ [some (.lst ((ls ++ [(sz[lastI mv]'(by omega)) * (sg[lastI mv]'(by omega)) * mv[lastI mv]]).map .int))], Or.inl ?_, by simp, todo, _, rfl, fun r hr => hmem r (List.mem_cons_of_mem _ hr), by simp only [List.length_append, List.length_singleton]; simp only [List.length_cons] at hcnt; omega, ?_, rfl, _, _, _, rfl⟩
        · simp [rng0 n (by omega), hlc, hll, b1, b2, b3, m1, m2, hsz]
        · intro x hx
          rw [List.mem_append, List.mem_singleton] at hx
          rcases hx with hx | rfl
          · exact hgood x hx
          · have hv3 : mv[lastI mv] = 1 ∨ mv[lastI mv] = -1 := by omega
            simp only [szOk] at zz
            rcases ss with h | h <;> rcases hv3 with h' | h' <;> rw [h, h'] <;> omega) ((fwdZ n).map T) _ (M ++ [some (.lst [])])
    ⟨fwdZ n, [], rfl, fun r hr => hr, by simp, by simp, rfl, x3, x8, x9, rfl⟩
  obtain ⟨todo, ls, hds, _, hcnt, hgood, rfl, y3, y8, y9, rfl⟩ := i
  have : todo = [] := by simpa using hds.symm
  subst this
  exact ⟨y3, y8, y9, ls, ⟨h1, h5, by simpa using hcnt, hgood⟩, e⟩

theorem rng_any (a b : Int) (h : -(2 ^ 62) ≤ a ∧ a < 2 ^ 62 ∧ -(2 ^ 62) ≤ b ∧ b < 2 ^ 62) : rngD (.int a) (.int b) = some (((List.range (b - a).toNat).map fun i : Nat => a + (i : Int)).map .int) := by
  simp only [rngD]
  rw [if_pos (by simp only [Bool.and_eq_true, decide_eq_true_eq]; omega)]
  simp
theorem moved_ok (k c n : Nat) (M : Cs) (h : IsBag M c) (h1 : 1 ≤ n) (h5 : n ≤ 5) (hk : 10 ≤ k) (hk2 : k ≤ 90000) : ∃ (ls : List Int) (M' : Cs), GoodPage n ls ∧ Bm c M M' ∧ IsBag M' c ∧ callF P (k + 4) ix_law_moved [.cell c, .int n] M = .ok (Pg n ls) M' := by
  -- the order
  obtain ⟨js, M1, pj, c1, g1, e1⟩ := mixed_ints (k + 1) c ((List.range n).map fun i : Nat => (i : Int)) M h (by simp; omega) (by omega)
  obtain ⟨ord, pord, rfl⟩ := perm_map' (fun i : Nat => (i : Int)) pj.symm (List.range n) rfl
  have hin : ((List.range n).map fun i : Nat => (i : Int)).map D.int = intsD n := by rw [intsD, List.map_map]; rfl
  rw [hin] at e1
  have hord : (ord.map fun i : Nat => (i : Int)).map D.int = ord.map fun i : Nat => D.int (i : Int) := by rw [List.map_map]; rfl
  rw [hord] at e1
  obtain ⟨tu, M2, lt, ptu, c2, g2, e2⟩ := signs_ok (k + 1) c n M1 g1 (by omega) [some (.cell c), some (.int n), none, none, none, none, none, none, none, none, none, none] rfl 10 (by omega)
  obtain ⟨d1, M3, a3, b3, c3, g3, e3⟩ := draw_ok' (k + 2) c 2 M2 g2 (by omega) (by omega)
  -- the sizes
  have hsz : ∃ (sz : List Int) (M4 : Cs), sz.length = n ∧ (∀ i ∈ sz, 1 ≤ i ∧ i ≤ 7) ∧ Bm c M3 M4 ∧ IsBag M4 c ∧ ∀ (v2 v3 v6 v7 v8 v9 v10 v11 : Option D),
      evE ⟨callF P (k + 3), k + 3⟩ (.ite (.tru (.cmp .Eq (.call ix_law_draw (.cons (.var 0) (.cons (.con (.int 2)) .nil)) .nil []) (.con (.int 0)))) (.slc (.call ix_law_mixed (.cons (.var 0) (.cons (.lrng (.con (.int 1)) (.con (.int 8))) .nil)) .nil []) .nil (.one (.var 1))) (.lrng (.con (.int 1)) (.bin .Add (.var 1) (.con (.int 1))))) [some (.cell c), some (.int n), v2, v3, some (.lst (ord.map fun i : Nat => .int (i : Int))), some (.lst (tu.map .int)), v6, v7, v8, v9, v10, v11] M2 = .ok (.lst (sz.map .int)) M4 := by
    by_cases hd : d1 = 0
    · obtain ⟨zs, M4, pz, c4, g4, e4⟩ := mixed_ints (k + 1) c ((List.range 7).map fun i : Nat => 1 + (i : Int)) M3 g3 (by simp; omega) (by omega)
      have hr8 : rngD (.int 1) (.int 8) = some (((List.range 7).map fun i : Nat => 1 + (i : Int)).map .int) := rng_any 1 8 (by omega)
      obtain ⟨zz, hzz⟩ : ∃ zz, zz = ((List.range 7).map fun i : Nat => 1 + (i : Int)).map D.int := ⟨_, rfl⟩
      have hzl : zz.length = 7 := by rw [hzz]; rfl
      rw [← hzz] at e4 hr8
      have hls : zz.length ≤ sizeLine := small (by omega)
      refine ⟨zs.take n, M4, ?_, ?_, c4, g4, ?_⟩
      · have := pz.length_eq
        rw [List.length_map, List.length_range] at this
        rw [List.length_take]; omega
      · intro i hi
        have hm := pz.mem_iff.mp (List.mem_of_mem_take hi)
        rw [List.mem_map] at hm
        obtain ⟨j, hj, rfl⟩ := hm
        rw [List.mem_range] at hj
        omega
      · intro v2 v3 v6 v7 v8 v9 v10 v11
        have hz2 : slcD (.lst (zs.map .int)) (ptD none) (ptD (some (n : Int))) .non = some (.lst ((zs.take n).map .int)) := by rw [slc_lst, cut_toN, List.map_take]
        simp [e3, hd, hr8, hls, e4, intD?, hz2]
    · refine ⟨(List.range n).map fun i : Nat => 1 + (i : Int), M3, by simp, ?_, Bm.refl g3, g3, ?_⟩
      · intro i hi
        rw [List.mem_map] at hi
        obtain ⟨j, hj, rfl⟩ := hi
        rw [List.mem_range] at hj
        omega
      · intro v2 v3 v6 v7 v8 v9 v10 v11
        have hr := rng_any 1 ((n : Int) + 1) (by omega)
        rw [show ((n : Int) + 1 - 1).toNat = n by omega] at hr
        have hls : n ≤ sizeLine := small (by omega)
        simp [e3, hd, hr, hls]
  obtain ⟨sz, M4, lz, pz, c4, g4, e4⟩ := hsz
  obtain ⟨d5, M5, a5, b5, c5, g5, e5⟩ := draw_ok' (k + 2) c 9 M4 g4 (by omega) (by omega)
  have hsz2 : ∃ sz2 : List Int, sz2.length = n ∧ (∀ i ∈ sz2, szOk i) ∧ ∀ (v3 v6 v7 v8 v9 v10 v11 : Option D),
      evE ⟨callF P (k + 3), k + 3⟩ (.ite (.tru (.cmp .Eq (.call ix_law_draw (.cons (.var 0) (.cons (.con (.int 9)) .nil)) .nil []) (.con (.int 0)))) (.lc [11] (.bin .Sub (.con (.int 20)) (.var 11)) (.nm 11) (.seq (.var 2)) .nil) (.var 2)) [some (.cell c), some (.int n), some (.lst (sz.map .int)), v3, some (.lst (ord.map fun i : Nat => .int (i : Int))), some (.lst (tu.map .int)), v6, v7, v8, v9, v10, v11] M4 = .ok (.lst (sz2.map .int)) M5 := by
    by_cases hd : d5 = 0
    · refine ⟨sz.map fun x => 20 - x, by simpa using lz, ?_, ?_⟩
      · intro i hi
        rw [List.mem_map] at hi
        obtain ⟨x, hx, rfl⟩ := hi
        have := pz x hx
        simp only [szOk]; omega
      · intro v3 v6 v7 v8 v9 v10 v11
        simp [e5, hd]
        rw [lcGo_one .int (fun x => .int (20 - x))]
        · simp [Function.comp_def]
        · intro x hx
          simp
        · exact small (by omega)
    · refine ⟨sz, lz, fun i hi => by have := pz i hi; simp only [szOk]; omega, ?_⟩
      intro v3 v6 v7 v8 v9 v10 v11
      simp [e5, hd]
  obtain ⟨sz2, lz2, pz2, e6⟩ := hsz2
  obtain ⟨sg, M7, ls7, psg, c7, g7, e7⟩ := signs_ok (k + 1) c n M5 g5 (by omega) [some (.cell c), some (.int n), some (.lst (sz2.map .int)), none, some (.lst (ord.map fun i : Nat => .int (i : Int))), some (.lst (tu.map .int)), none, none, none, none, none, none] rfl 10 (by omega)
  obtain ⟨y3, y8, y9, ls, gp, e8⟩ := moved_loop k c n M7 ord tu sz2 sg h1 h5 pord.symm lt ptu lz2 pz2 ls7 psg none none none none none
  have mm := ((c1.trans c2).trans (c3.trans c4)).trans (c5.trans c7)
  have hF := law_fore_ok (k + 1) n (M7 ++ [some (.lst [])]) h1 h5
  have hls : n ≤ sizeLine := small (by omega)
  refine ⟨ls, M7, gp, mm, g7, ?_⟩
  rw [call_eq (F := mf_law_moved) rfl rfl]
  have htu : ∀ xs : List D, tupleD [.lst xs] = some (.tup xs) := fun _ => rfl
  simp [m_law_moved, rng0 n (by omega), hls, e1, e2, e4, e6, e7, hF, -evE_ite]
  rw [e8]
  simp [htu, Pg, T]
  rw [mm.len.symm]
  simp

theorem ne_len {L : List Nat} (h : L.Nodup) (b : Int) : L.length ≤ (L.filter fun i : Nat => !decide ((i : Int) = b)).length + 1 := by
  induction L with
  | nil => simp
  | cons x xs ih =>
    rw [List.nodup_cons] at h
    by_cases e : (x : Int) = b
    · have hx : xs.filter (fun i : Nat => !decide ((i : Int) = b)) = xs := by
        rw [List.filter_eq_self]
        intro y hy
        have : ¬ ((y : Int) = b) := fun e2 => h.1 ((show y = x by omega) ▸ hy)
        simp [this]
      rw [List.filter_cons, if_neg (by simp [e]), hx]
      simp
    · rw [List.filter_cons, if_pos (by simp [e])]
      have := ih h.2
      simp only [List.length_cons]
      omega
theorem free_len (m : Nat) : ∀ bs : List Int, m ≤ ((List.range m).filter fun i : Nat => !decide ((i : Int) ∈ bs)).length + bs.length
  | [] => by
    rw [List.filter_eq_self.mpr (fun i _ => by simp)]
    simp
  | b :: bs => by
    have ih := free_len m bs
    have e : ((List.range m).filter fun i : Nat => !decide ((i : Int) ∈ b :: bs)) = ((List.range m).filter fun i : Nat => !decide ((i : Int) ∈ bs)).filter fun i : Nat => !decide ((i : Int) = b) := by
      rw [List.filter_filter]
      congr 1
      funext i
      by_cases h1 : (i : Int) = b <;> by_cases h2 : (i : Int) ∈ bs <;> simp [h1, h2]
    have hn : ((List.range m).filter fun i : Nat => !decide ((i : Int) ∈ bs)).Nodup := List.nodup_range.filter _
    have := ne_len hn b
    rw [e, List.length_cons]
    omega
theorem look_some {k : D} : ∀ {ks vs : List D}, ks.length = vs.length → k ∈ ks → ∃ v, lookD k ks vs = some v
  | [], _, _, h => by simp at h
  | _ :: _, [], hl, _ => by simp at hl
  | a :: ks, v :: vs, hl, h => by
    by_cases e : a = k
    · exact ⟨v, by rw [lookD, if_pos e]⟩
    · rw [List.mem_cons] at h
      obtain ⟨w, hw⟩ := look_some (ks := ks) (vs := vs) (by simpa using hl) (h.resolve_left fun e2 => e e2.symm)
      exact ⟨w, by rw [lookD, if_neg e, hw]⟩
theorem law_apart_ok (k : Nat) (a b : List Int) (M : Cs) (h : a.length ≤ 1000) : callF P (k + 1) ix_law_apart [T a, T b] M = .ok (.bl (a.all fun x => !decide (x ∈ b))) M := by
  rw [call_eq (F := mf_law_apart) rfl rfl]
  simp [m_law_apart]
  rw [lcGo_one .int (fun x => .bl (!decide (x ∈ b)))]
  · have ha := all_map (fun x => !decide (x ∈ b)) a
    simp only [ok_bind]
    simp [ha, -all_map]
  · intro x hx
    simp
  · exact small (by omega)
theorem IsTab.ap {M1 M2 : Cs} {r : Nat} {f : List Int → Option Int} {b : Nat} (h : IsTab M1 r f b) (e : rd M2 (.cell r) = rd M1 (.cell r)) : IsTab M2 r f b := by
  obtain ⟨ks, vs, e1, h1⟩ := h
  exact ⟨ks, vs, e ▸ e1, h1⟩
theorem coloured_ok (k c : Nat) (lots : List (List Int)) (M : Cs) (h : IsBag M c) (h1 : 1 ≤ lots.length) (h10 : lots.length ≤ 10) (hl : ∀ l ∈ lots, l.length ≤ 100) (hk : 40 ≤ k) (hk2 : k ≤ 90000) :
    ∃ (cols : List Int) (M' : Cs), cols.length = lots.length ∧ (∀ x ∈ cols, 0 ≤ x ∧ x ≤ 11) ∧ Bm c M M' ∧ IsBag M' c ∧ callF P (k + 3) ix_law_coloured [.cell c, .tup (lots.map T)] M = .ok (T cols) M' := by
  obtain ⟨ys, M1, py, c1, e1⟩ := mixed_tup k c (lots.map T) (M ++ [some (.dct true [] [])]) (h.ap _) (by simp) (by simp; omega) (by omega) 1 (by omega) (by simp)
  obtain ⟨js, pj, rfl⟩ := perm_map' T py.symm lots rfl
  have hcl := h.lt
  obtain ⟨a0, b0, c0, rfl⟩ := c1
  rw [set_apl _ _ _ _ hcl] at e1
  have hB0 : Bm c M (M.set c (some (.lst [.int a0, .int b0, .int c0]))) := ⟨a0, b0, c0, rfl⟩
  obtain ⟨M0, hM0⟩ : ∃ M0, M0 = M.set c (some (.lst [.int a0, .int b0, .int c0])) := ⟨_, rfl⟩
  rw [← hM0] at e1 hB0
  have hL0 : M0.length = M.length := hB0.len
  rw [call_eq (F := mf_law_coloured) rfl rfl]
  simp [m_law_coloured, putsD, e1]
  generalize hr : forGo _ _ _ _ _ = r
  obtain ⟨σ', M', rfl, ⟨f, ht, hf⟩, M2, d2, hB2, rfl, x3, x4, x5, rfl⟩ : ∃ σ' M', r = .nx σ' M' ∧ (∃ f, IsTab M' M.length f 100 ∧ ∀ l ∈ js, ∃ x, f l = some x ∧ 0 ≤ x ∧ x ≤ 11) ∧ ∃ M2 d2, Bm c M M2 ∧ M' = M2 ++ [some d2] ∧ ∃ x3 x4 x5, σ' = [some (.cell c), some (.tup (lots.map T)), some (.cell M.length), x3, x4, x5, none, none] := by
    obtain ⟨σ', M', e, i⟩ := forGo_ind (ws := []) (step := kt_evS_for_2 ⟨callF P (k + 2), k + 2⟩ (.nm 3) (.cons (.asg (.nm 4) (.lc [6] (.idx (.var 2) (.var 6)) (.nm 6) (.seq (.blt .list (.cons (.var 2) .nil))) (.one (.tru (.call ix_law_apart (.cons (.var 3) (.cons (.var 6) .nil)) .nil []))))) (.cons (.asg (.nm 5) (.lc [7] (.var 7) (.nm 7) (.rng (.con (.int 0)) (.bin .Add (.blt .len (.cons (.var 1) .nil)) (.con (.int 2)))) (.one (.tru (.cmp .NotIn (.var 7) (.var 4)))))) (.cons (.asg (.sub (.var 2) (.var 3)) (.ite (.tru (.cmp .Gt (.call ix_law_draw (.cons (.var 0) (.cons (.con (.int 4)) .nil)) .nil []) (.con (.int 0)))) (.idx (.var 5) (.con (.int 0))) (.call ix_law_one (.cons (.var 0) (.cons (.slc (.var 5) .nil (.one (.con (.int 3)))) .nil)) .nil []))) .nil))))
      (I := fun ds σ M' => ∃ don todo : List (List Int), js = don ++ todo ∧ ds = todo.map T ∧ (∃ f, IsTab M' M.length f don.length ∧ (∀ l ∈ don, ∃ x, f l = some x) ∧ (∀ l x, f l = some x → 0 ≤ x ∧ x ≤ 11)) ∧ (∃ M2 d2, Bm c M M2 ∧ M' = M2 ++ [some d2]) ∧ ∃ x3 x4 x5, σ = [some (.cell c), some (.tup (lots.map T)), some (.cell M.length), x3, x4, x5, none, none]) (by
        rintro d ds σ M' ⟨don, todo, hdt, hds, ⟨f, ht, hf1, hf2⟩, ⟨M2, d2, hB2, rfl⟩, x3, x4, x5, rfl⟩
        cases todo with
        | nil => simp at hds
        | cons lot todo =>
          simp only [List.map_cons, List.cons.injEq] at hds
          obtain ⟨rfl, rfl⟩ := hds
          have hjl : js.length = lots.length := pj.length_eq.symm
          have hdl : don.length + 1 ≤ lots.length := by
            have := congrArg List.length hdt
            rw [List.length_append, List.length_cons] at this
            omega
          have hlot : lot.length ≤ 100 := hl lot (pj.mem_iff.mpr (by rw [hdt]; simp))
          have hL2 : M2.length = M.length := hB2.len
          obtain ⟨ks, vs, hks, hkl, hkb, hkf, hlook⟩ := ht
          rw [← hL2, rd_sg] at hks
          cases hks
          -- the barred ones
          obtain ⟨os, hos⟩ : ∃ os : List (List Int), ks = os.map T := by
            have hkT := hkf.2.2
            clear hkl hkb hkf hlook
            induction ks with
            | nil => exact ⟨[], rfl⟩
            | cons a ks ih =>
              obtain ⟨r, rfl⟩ := hkT a List.mem_cons_self
              obtain ⟨os, rfl⟩ := ih (fun d hd => hkT d (List.mem_cons_of_mem _ hd))
              exact ⟨r :: os, rfl⟩
          have hval : ∀ o ∈ os, ∃ x, f o = some x := fun o ho => by
            obtain ⟨v, hv⟩ := look_some hkl (show T o ∈ ks by rw [hos]; exact List.mem_map_of_mem ho)
            rw [hlook o] at hv
            obtain ⟨x, hx, _⟩ := Option.map_eq_some_iff.mp hv
            exact ⟨x, hx⟩
          have hosl : os.length ≤ don.length := by rw [hos, List.length_map] at hkb; exact hkb
          obtain ⟨bar, hbar⟩ : ∃ bar : List Int, bar = (os.filter fun o => lot.all fun x => !decide (x ∈ o)).map fun o => (f o).getD 0 := ⟨_, rfl⟩
          have hbl : bar.length ≤ don.length := by
            rw [hbar, List.length_map]
            exact Nat.le_trans (List.length_filter_le _ _) hosl
          obtain ⟨Mc, hMc⟩ : ∃ Mc, Mc = M2 ++ [some (D.dct true ks vs)] := ⟨_, rfl⟩
          have hrdc : rd Mc (.cell M.length) = some (.dct true ks vs) := by rw [hMc, ← hL2, rd_sg]
          have hg1 : lcGo [] (kt_evE_lc_2 ⟨callF P (k + 2), k + 2⟩ [6] (.idx (.var 2) (.var 6)) (.nm 6) (.one (.tru (.call ix_law_apart (.cons (.var 3) (.cons (.var 6) .nil)) .nil []))) [some (.cell c), some (.tup (lots.map T)), some (.cell M.length), some (T lot), x4, x5, none, none]) ks [] Mc = .ok (bar.map .int) Mc := by
            rw [hos, lcGo_if T (fun o => lot.all fun x => !decide (x ∈ o)) (fun o => .int ((f o).getD 0))]
            · rw [hbar]; simp
            · intro o ho
              obtain ⟨x, hx⟩ := hval o ho
              have h1 := law_apart_ok (k + 1) lot o Mc (by omega)
              have h2 := hlook o
              rw [hx] at h2
              simp only [Option.map_some] at h2
              cases hp : (lot.all fun x => !decide (x ∈ o)) with
              | false => rw [hp] at h1; simp [h1]
              | true =>
                rw [hp] at h1
                simp [h1, hrdc, idx_dct, hx]
                rw [hos] at h2
                simp [hos, h2]
            · exact small (by omega)
          -- the free ones
          obtain ⟨fr, hfr⟩ : ∃ fr : List Int, fr = ((List.range (lots.length + 2)).filter fun i : Nat => !decide ((i : Int) ∈ bar)).map fun i : Nat => (i : Int) := ⟨_, rfl⟩
          have hfl : 3 ≤ fr.length := by
            have := free_len (lots.length + 2) bar
            rw [hfr, List.length_map]
            omega
          have hfv : ∀ x ∈ fr, 0 ≤ x ∧ x ≤ 11 := by
            intro x hx
            rw [hfr, List.mem_map] at hx
            obtain ⟨i, hi, rfl⟩ := hx
            have := (List.mem_filter.mp hi).1
            rw [List.mem_range] at this
            omega
          have hrng := rng0 (lots.length + 2) (by omega)
          rw [show ((lots.length + 2 : Nat) : Int) = (lots.length : Int) + 2 by omega] at hrng
          have hg2 : lcGo [] (kt_evE_lc_2 ⟨callF P (k + 2), k + 2⟩ [7] (.var 7) (.nm 7) (.one (.tru (.cmp .NotIn (.var 7) (.var 4)))) [some (.cell c), some (.tup (lots.map T)), some (.cell M.length), some (T lot), some (.lst (bar.map .int)), x5, none, none]) (intsD (lots.length + 2)) [] Mc = .ok (fr.map .int) Mc := by
            rw [intsD, lcGo_if (fun i : Nat => .int (i : Int)) (fun i => !decide ((i : Int) ∈ bar)) (fun i : Nat => .int (i : Int))]
            · rw [hfr]; simp
            · intro i hi
              have hni : cmpD .NotIn (.int (i : Int)) (.lst (bar.map .int)) = some (!decide ((i : Int) ∈ bar)) := by
                rw [cmp_ni_lst 0 (by simp) (by simp) (by omega)]; simp
              by_cases e : (i : Int) ∈ bar <;> simp [hni, e]
            · rw [List.length_range]; exact small (by omega)
          -- the colour
          obtain ⟨d4, M4, a4, b4, c4, g4, e4⟩ := draw_ok' (k + 1) c 4 Mc (by rw [hMc]; exact (hB2.bag hcl).ap _) (by omega) (by omega)
          obtain ⟨v, M5, hv, c5, e5⟩ : ∃ (v : Int) (M5 : Cs), v ∈ fr ∧ Bm c Mc M5 ∧ evE ⟨callF P (k + 2), k + 2⟩ (.ite (.tru (.cmp .Gt (.call ix_law_draw (.cons (.var 0) (.cons (.con (.int 4)) .nil)) .nil []) (.con (.int 0)))) (.idx (.var 5) (.con (.int 0))) (.call ix_law_one (.cons (.var 0) (.cons (.slc (.var 5) .nil (.one (.con (.int 3)))) .nil)) .nil [])) [some (.cell c), some (.tup (lots.map T)), some (.cell M.length), some (T lot), some (.lst (bar.map .int)), some (.lst (fr.map .int)), none, none] Mc = .ok (.int v) M5 := by
            by_cases hd : 0 < d4
            · cases hfc : fr with
              | nil => rw [hfc] at hfl; simp at hfl
              | cons x xs => exact ⟨x, M4, List.mem_cons_self, c4, by simp [e4, hd]⟩
            · have z1 : slcD (.lst (fr.map .int)) (ptD none) (ptD (some 3)) .non = some (.lst ((fr.take 3).map .int)) := by
                rw [slc_lst]
                have := cut_toN (fr.map D.int) 3
                rw [show (((3 : Nat) : Int)) = 3 from rfl] at this
                rw [this, List.map_take]
              have hne3 : (fr.take 3).map D.int ≠ [] := by
                intro e
                have := congrArg List.length e
                rw [List.length_map, List.length_take, List.length_nil] at this
                omega
              obtain ⟨w, M5, hw, c5, g5, e5⟩ := one_ok_l k c ((fr.take 3).map .int) M4 g4 hne3 (by rw [List.length_map, List.length_take]; omega) (by
                intro x hx
                rw [List.mem_map] at hx
                obtain ⟨y, _, rfl⟩ := hx
                simp)
              rw [List.mem_map] at hw
              obtain ⟨v, hv, rfl⟩ := hw
              refine ⟨v, M5, List.mem_of_mem_take hv, c4.trans c5, ?_⟩
              simp [e4, hd, intD?, z1, -List.map_take]
              exact e5
          have hvr := hfv v hv
          have hB3 : Bm c (M2 ++ [some (D.dct true ks vs)]) M5 := hMc ▸ c5
          obtain ⟨a6, b6, c6, hM5⟩ := hB3
          rw [set_apl _ _ _ _ (by omega)] at hM5
          obtain ⟨M6, hM6⟩ : ∃ M6, M6 = M2.set c (some (.lst [.int a6, .int b6, .int c6])) := ⟨_, rfl⟩
          rw [← hM6] at hM5
          have hB6 : Bm c M M6 := hB2.trans ⟨a6, b6, c6, hM6⟩
          have hL6 : M6.length = M.length := hB6.len
          have ht6 : IsTab (M6 ++ [some (D.dct true ks vs)]) M.length f don.length := ⟨ks, vs, by rw [← hL6, rd_sg], hkl, hkb, hkf, hlook⟩
          obtain ⟨d7, e7, t7⟩ := ht6.put (by omega) lot v
          rw [← hL6, set_sg, hL6] at t7
          refine ⟨[some (.cell c), some (.tup (lots.map T)), some (.cell M.length), some (T lot), some (.lst (bar.map .int)), some (.lst (fr.map .int)), none, none], M6 ++ [some d7], Or.inl ?_, by simp, don ++ [lot], todo, by rw [hdt]; simp, rfl, ⟨_, by simpa using t7, ?_, ?_⟩, ⟨M6, d7, hB6, rfl⟩, _, _, _, rfl⟩
          · rw [← hMc]
            have hli : listD [.dct true ks vs] = some (.lst ks) := rfl
            have hset : (M6 ++ [some (D.dct true ks vs)]).set M.length (some d7) = M6 ++ [some d7] := by rw [← hL6, set_sg]
            simp [hrdc, hli, hg1, hrng, hg2, e5, hM5, e7, hset, -evE_ite]
          · intro l hl'
            rw [List.mem_append, List.mem_singleton] at hl'
            by_cases e : l = lot
            · exact ⟨v, by simp [e]⟩
            · rcases hl' with hl' | hl'
              · obtain ⟨x, hx⟩ := hf1 l hl'
                exact ⟨x, by simp [e, hx]⟩
              · exact (e hl').elim
          · intro l x hx
            by_cases e : l = lot
            · simp [e] at hx; omega
            · simp [e] at hx; exact hf2 l x hx) (js.map T) [some (.cell c), some (.tup (lots.map T)), some (.cell M.length), none, none, none, none, none] (M0 ++ [some (.dct true [] [])])
      ⟨[], js, rfl, rfl, ⟨fun _ => none, ⟨[], [], by rw [← hL0, rd_sg], rfl, by simp, ⟨by simp, by simp, by simp⟩, fun x => by simp [lookD]⟩, by simp, by simp⟩, ⟨M0, _, hB0, rfl⟩, none, none, none, rfl⟩
    obtain ⟨don, todo, hdt, hds, ⟨f, ht, hf1, hf2⟩, ⟨M2, d2, hB2, rfl⟩, x3, x4, x5, rfl⟩ := i
    have : todo = [] := by simpa using hds.symm
    subst this
    rw [List.append_nil] at hdt
    subst hdt
    have hjl : js.length = lots.length := pj.length_eq.symm
    obtain ⟨a, b, e1', e2', e3', e4'⟩ := ht
    refine ⟨_, _, hr ▸ e, ⟨f, ⟨a, b, e1', e2', by omega, e4'⟩, fun l hl' => ?_⟩, M2, d2, hB2, rfl, x3, x4, x5, rfl⟩
    obtain ⟨x, hx⟩ := hf1 l hl'
    exact ⟨x, hx, hf2 l x hx⟩
  have hL2 : M2.length = M.length := hB2.len
  obtain ⟨ks, vs, hks, hkl, hkb, hkf, hlook⟩ := ht
  refine ⟨lots.map fun l => (f l).getD 0, by simp, ?_, M2, hB2, hB2.bag hcl, ?_⟩
  · intro x hx
    rw [List.mem_map] at hx
    obtain ⟨l, hl', rfl⟩ := hx
    obtain ⟨x, hx, h2⟩ := hf l (pj.mem_iff.mp hl')
    rw [hx]
    exact h2
  · simp
    rw [lcGo_one T (fun l => .int ((f l).getD 0))]
    · have htu : ∀ xs : List D, tupleD [.lst xs] = some (.tup xs) := fun _ => rfl
      simp [htu, T, Function.comp_def]
      rw [← hL2]
      simp
    · intro l hl'
      obtain ⟨x, hx, _⟩ := hf l (pj.mem_iff.mp hl')
      have h2 := hlook l
      rw [hx] at h2
      simp [hks, idx_dct, h2, hx]
    · exact small (by omega)

theorem rowsZ_of : ∀ (n : Nat) (r : List Int), r.length = n → (∀ x ∈ r, -1 ≤ x ∧ x ≤ 1) → r ∈ rowsZ n
  | 0, r, h, _ => by
    rw [List.length_eq_zero_iff] at h
    subst h
    simp [rowsZ]
  | n + 1, r, h, hx => by
    obtain ⟨q, x, rfl⟩ : ∃ q x, r = q ++ [x] := by
      have hne : r ≠ [] := by intro e; rw [e] at h; simp at h
      exact ⟨_, _, (List.dropLast_concat_getLast hne).symm⟩
    have ih := rowsZ_of n q (by simpa using h) (fun y hy => hx y (by simp [hy]))
    rw [rowsZ_ext', List.mem_flatMap]
    refine ⟨q, ih, ?_⟩
    have := hx x (by simp)
    have hx3 : x = -1 ∨ x = 0 ∨ x = 1 := by omega
    rcases hx3 with h | h | h <;> subst h <;> simp [ext3']
theorem isVec_vecZ {n : Nat} {r : List Int} (h : isVec n r) : r ∈ vecZ n := List.mem_filter.mpr ⟨rowsZ_of n r h.1 h.2.1, h.2.2⟩
theorem vecZ_isVec {n : Nat} {r : List Int} (h : r ∈ vecZ n) : isVec n r := by
  obtain ⟨h2, h3⟩ := vecZ_mem h
  refine ⟨(rowsZ_mem _ _ h2).1, fun x hx => ?_, h3⟩
  have := (rowsZ_mem _ _ h2).2 x hx
  omega
theorem fwdZ_isVec {n : Nat} {r : List Int} (h : r ∈ fwdZ n) : isVec n r := vecZ_isVec (List.mem_filter.mp h).1
theorem isVec.neg {n : Nat} {r : List Int} (h : isVec n r) : isVec n (negR r) := by
  obtain ⟨h1, h2, h3⟩ := h
  refine ⟨by simp [negR, h1], fun x hx => ?_, ?_⟩
  · rw [negR, List.mem_map] at hx
    obtain ⟨y, hy, rfl⟩ := hx
    have := h2 y hy
    omega
  · rw [List.any_eq_true] at h3 ⊢
    obtain ⟨x, hx, hb⟩ := h3
    refine ⟨-x, List.mem_map_of_mem hx, ?_⟩
    simp [nzB] at hb ⊢
    exact hb
theorem fsgn_neg : ∀ r : List Int, fsgn (negR r) = -fsgn r
  | [] => by simp [fsgn, toldR, negR]
  | x :: xs => by
    have ih := fsgn_neg xs
    by_cases e : x = 0
    · subst e
      simpa [fsgn, toldR, negR, nzB] using ih
    · have e2 : ¬ -x = 0 := by omega
      simp [fsgn, toldR, negR, nzB, e]
theorem fsgn_pm : ∀ r : List Int, r.any nzB = true → (∀ x ∈ r, -1 ≤ x ∧ x ≤ 1) → fsgn r = 1 ∨ fsgn r = -1
  | [], h, _ => by simp at h
  | x :: xs, h, hx => by
    by_cases e : x = 0
    · subst e
      have ih := fsgn_pm xs (by simpa [nzB] using h) (fun y hy => hx y (List.mem_cons_of_mem _ hy))
      simpa [fsgn, toldR, nzB] using ih
    · have h1 := hx x List.mem_cons_self
      have : fsgn (x :: xs) = x := by simp [fsgn, toldR, nzB, e]
      rw [this]; omega
theorem isVec.fwd {n : Nat} {r : List Int} (h : isVec n r) (hs : fsgn r = 1) : r ∈ fwdZ n := List.mem_filter.mpr ⟨isVec_vecZ h, by simpa using hs⟩
theorem isVec.fwd' {n : Nat} {r : List Int} (h : isVec n r) (hs : ¬ fsgn r = 1) : negR r ∈ fwdZ n := by
  refine h.neg.fwd ?_
  rw [fsgn_neg]
  rcases fsgn_pm r h.2.2 h.2.1 with e | e
  · exact (hs e).elim
  · rw [e]; rfl
theorem negR_negR (r : List Int) : negR (negR r) = r := by
  rw [negR, negR, List.map_map]
  simp [Function.comp_def]
theorem tab_get : ∀ (ps : List (List Int × Int)) (f : List Int → Option Int) (x : List Int), ((∃ v, f x = some v) ∨ ∃ p ∈ ps, x = p.1 ∨ x = negR p.1) → ∃ v, (ps.foldl tabF f) x = some v
  | [], f, x, h => by
    rcases h with h | ⟨p, hp, _⟩
    · exact h
    · simp at hp
  | p :: ps, f, x, h => by
    rw [List.foldl_cons]
    refine tab_get ps _ x ?_
    by_cases e1 : x = negR p.1
    · exact Or.inl ⟨-p.2, by simp [tabF, e1]⟩
    · by_cases e2 : x = p.1
      · refine Or.inl ⟨p.2, ?_⟩
        simp only [tabF]
        rw [if_neg e1, if_pos e2]
      · rcases h with ⟨v, h⟩ | ⟨q, hq, h⟩
        · refine Or.inl ⟨v, ?_⟩
          simp only [tabF]
          rw [if_neg e1, if_neg e2, h]
        · rw [List.mem_cons] at hq
          rcases hq with rfl | hq
          · rcases h with h | h
            · exact (e2 h).elim
            · exact (e1 h).elim
          · exact Or.inr ⟨q, hq, h⟩
theorem tab_dom : ∀ (ps : List (List Int × Int)) (f : List Int → Option Int) (x : List Int) (v : Int), (ps.foldl tabF f) x = some v → f x = some v ∨ ∃ p ∈ ps, x = p.1 ∨ x = negR p.1
  | [], f, x, v, h => Or.inl h
  | p :: ps, f, x, v, h => by
    rw [List.foldl_cons] at h
    rcases tab_dom ps _ x v h with h | ⟨q, hq, h⟩
    · simp only [tabF] at h
      by_cases e1 : x = negR p.1
      · exact Or.inr ⟨p, List.mem_cons_self, Or.inr e1⟩
      · by_cases e2 : x = p.1
        · exact Or.inr ⟨p, List.mem_cons_self, Or.inl e2⟩
        · rw [if_neg e1, if_neg e2] at h
          exact Or.inl h
    · exact Or.inr ⟨q, List.mem_cons_of_mem _ hq, h⟩
theorem zip_fst {α β : Type} {xs : List α} {ys : List β} (h : ys.length = xs.length) {x : α} (hx : x ∈ xs) : ∃ y, (x, y) ∈ xs.zip ys := by
  obtain ⟨i, hi, rfl⟩ := List.getElem_of_mem hx
  refine ⟨ys[i]'(by omega), ?_⟩
  have hz : i < (xs.zip ys).length := by rw [List.length_zip]; omega
  have := List.getElem_mem hz
  rwa [List.getElem_zip] at this
theorem tab_vec {n : Nat} {ls : List Int} (g : GoodPage n ls) {r : List Int} (h : isVec n r) : ∃ v, tab ((fwdZ n).zip ls) r = some v := by
  by_cases hs : fsgn r = 1
  · obtain ⟨y, hy⟩ := zip_fst g.ln (h.fwd hs)
    exact tab_get _ _ _ (Or.inr ⟨_, hy, Or.inl rfl⟩)
  · obtain ⟨y, hy⟩ := zip_fst g.ln (h.fwd' hs)
    exact tab_get _ _ _ (Or.inr ⟨_, hy, Or.inr (negR_negR r).symm⟩)
theorem tab_isVec {n : Nat} {ls : List Int} {r : List Int} {v : Int} (h : tab ((fwdZ n).zip ls) r = some v) : isVec n r := by
  rcases tab_dom _ _ _ _ h with h | ⟨p, hp, h⟩
  · simp at h
  · have hv := fwdZ_isVec (List.of_mem_zip (a := p.1) (b := p.2) hp).1
    rcases h with rfl | rfl
    · exact hv
    · exact hv.neg
theorem law_clashes_ok (k : Nat) (rs : List (List Int)) (vs : List D) (f : List Int → Option Int) (M : Cs) (hl : rs.length ≤ 1000) (hk : rs.length = vs.length) (hf : ∀ o, lookD (T o) (rs.map T) vs = (f o).map .int) (hlen : ∀ o ∈ rs, o.length ≤ 1000) :
    ∃ ps : List (List Int × List Int), (∀ p ∈ ps, p.1 ∈ rs ∧ p.2 ∈ rs) ∧ ps.length ≤ 1000000 ∧ callF P (k + 2) ix_law_clashes [.dct true (rs.map T) vs] M = .ok (.lst (ps.map fun p => .tup [T p.1, T p.2])) M := by
  have hval : ∀ o ∈ rs, ∃ x, f o = some x := fun o ho => by
    obtain ⟨v, hv⟩ := look_some (k := T o) (by simpa using hk) (List.mem_map_of_mem ho)
    rw [hf o] at hv
    obtain ⟨x, hx, _⟩ := Option.map_eq_some_iff.mp hv
    exact ⟨x, hx⟩
  obtain ⟨ss, hss⟩ : ∃ ss, ss = sortR rs := ⟨_, rfl⟩
  have hsm : ∀ o, o ∈ ss ↔ o ∈ rs := fun o => by rw [hss]; exact (sortR_perm rs).mem_iff
  have hsl : ss.length = rs.length := by rw [hss]; exact sortR_len rs
  obtain ⟨pf, hpf⟩ : ∃ pf : List Int → List (List Int × List Int), pf = fun one => (ss.filter fun two => decide ((f one).getD 0 + (f two).getD 0 = 0) && leadB one two).map fun two => (one, two) := ⟨_, rfl⟩
  have hpl : ∀ one, (pf one).length ≤ 1000 := fun one => by
    rw [hpf]
    simp only [List.length_map]
    exact Nat.le_trans (List.length_filter_le _ _) (by omega)
  have hfl : ∀ xs : List (List Int), (xs.flatMap pf).length ≤ xs.length * 1000 := fun xs => by
    induction xs with
    | nil => simp
    | cons x xs ih =>
      rw [List.flatMap_cons, List.length_append, List.length_cons, Nat.add_mul]
      have := hpl x
      omega
  have hpm : ∀ xs : List (List Int), (∀ o ∈ xs, o ∈ rs) → ∀ p ∈ xs.flatMap pf, p.1 ∈ rs ∧ p.2 ∈ rs := fun xs hx p hp => by
    rw [List.mem_flatMap] at hp
    obtain ⟨one, ho, hp⟩ := hp
    rw [hpf] at hp
    simp only [List.mem_map] at hp
    obtain ⟨two, ht, rfl⟩ := hp
    exact ⟨hx one ho, (hsm two).mp (List.mem_filter.mp ht).1⟩
  refine ⟨ss.flatMap pf, hpm ss fun o ho => (hsm o).mp ho, Nat.le_trans (hfl ss) (by omega), ?_⟩
  rw [call_eq (F := mf_law_clashes) rfl rfl]
  have hli : listD [.dct true (rs.map T) vs] = some (.lst (rs.map T)) := rfl
  have hso := sorted_Ts rs (small (by omega))
  rw [← hss] at hso
  simp [m_law_clashes, hli, hso]
  generalize hr : forGo _ _ _ _ _ = r
  obtain ⟨σ', rfl, y1, rfl⟩ : ∃ σ', r = .nx σ' M ∧ ∃ y1, σ' = [some (.dct true (rs.map T) vs), y1, some (.lst (ss.map T)), some (.lst ((ss.flatMap pf).map fun p => .tup [T p.1, T p.2])), none] := by
    rw [← hr]
    refine forGo_split T ss (fun don σ => ∃ y1, σ = [some (.dct true (rs.map T) vs), y1, some (.lst (ss.map T)), some (.lst ((don.flatMap pf).map fun p => .tup [T p.1, T p.2])), none]) _ ?_ ⟨_, rfl⟩
    rintro don a todo σ e ⟨y1, rfl⟩
    have ham : a ∈ rs := (hsm a).mp (by rw [e]; simp)
    obtain ⟨va, hva⟩ := hval a ham
    have hdl : don.length ≤ 1000 := by
      have := congrArg List.length e
      rw [List.length_append] at this
      omega
    have hin : lcGo [] (kt_evE_lc_2 ⟨callF P (k + 1), k + 1⟩ [4] (.tup (.cons (.var 1) (.cons (.var 4) .nil))) (.nm 4) (.one (.and (.tru (.cmp .Eq (.bin .Add (.idx (.var 0) (.var 1)) (.idx (.var 0) (.var 4))) (.con (.int 0)))) (.tru (.call ix_law_leads (.cons (.var 1) (.cons (.var 4) .nil)) .nil [])))) [some (.dct true (rs.map T) vs), some (T a), some (.lst (ss.map T)), some (.lst ((don.flatMap pf).map fun p => .tup [T p.1, T p.2])), none]) (ss.map T) [] M = .ok ((pf a).map fun p => .tup [T p.1, T p.2]) M := by
      rw [lcGo_if T (fun two => decide ((f a).getD 0 + (f two).getD 0 = 0) && leadB a two) (fun two => .tup [T a, T two])]
      · rw [hpf]; simp [Function.comp_def]
      · intro b hb
        obtain ⟨vb, hvb⟩ := hval b ((hsm b).mp hb)
        have hld := law_leads_ok k a b M (hlen a ham)
        have la := hf a
        have lb := hf b
        rw [hva] at la
        rw [hvb] at lb
        simp only [Option.map_some] at la lb
        have ka := idx_dct true (rs.map T) vs (T a) (by simp)
        have kb := idx_dct true (rs.map T) vs (T b) (by simp)
        rw [la] at ka
        rw [lb] at kb
        by_cases hz : va + vb = 0
        · cases hld2 : leadB a b <;> rw [hld2] at hld <;> simp [ka, kb, hva, hvb, hz, hld]
        · simp [ka, kb, hva, hvb, hz]
      · exact small (by omega)
    have ad := add_lst' ((don.flatMap pf).map fun p => D.tup [T p.1, T p.2]) ((pf a).map fun p => D.tup [T p.1, T p.2]) (small (by have := hfl don; have := hpl a; simp only [List.length_map]; omega))
    rw [← List.map_append] at ad
    have efl : (don ++ [a]).flatMap pf = don.flatMap pf ++ pf a := by simp
    refine ⟨[some (.dct true (rs.map T) vs), some (T a), some (.lst (ss.map T)), some (.lst (((don ++ [a]).flatMap pf).map fun p => .tup [T p.1, T p.2])), none], ?_, _, rfl⟩
    rw [efl]
    generalize don.flatMap pf = X at *
    generalize pf a = Y at *
    simp only [kt_evS_for_2_eq, evT_nm, SR_ok]
    simp [hin, ad, -List.map_append]
  simp

theorem forGo_brk {ws : List Nat} {step : D → En → Cs → SR} {I : List D → En → Cs → Prop} (h : ∀ d ds σ M, I (d :: ds) σ M → ∃ σ' M', ((step d σ M = .nx σ' M' ∨ step d σ M = .ct σ' M') ∧ same ws M M' = true ∧ I ds σ' M') ∨ (step d σ M = .br σ' M' ∧ I [] σ' M')) :
    ∀ (ds : List D) (σ : En) (M : Cs), I ds σ M → ∃ σ' M', forGo ws step ds σ M = .nx σ' M' ∧ I [] σ' M'
  | [], σ, M, i => ⟨σ, M, rfl, i⟩
  | d :: ds, σ, M, i => by
    obtain ⟨σ1, M1, ⟨e, s, i1⟩ | ⟨e, i1⟩⟩ := h d ds σ M i
    · obtain ⟨σ2, M2, e2, i2⟩ := forGo_brk h ds σ1 M1 i1
      refine ⟨σ2, M2, ?_, i2⟩
      rw [forGo]
      rcases e with e | e <;> rw [e] <;> simp only <;> rw [if_pos s, e2]
    · refine ⟨σ1, M1, ?_, i1⟩
      rw [forGo, e]
def labOk (x : Int) : Prop := -20 ≤ x ∧ x ≤ 20 ∧ x ≠ 0
/-- a drawn label -/
theorem lab_ev (k c : Nat) (e sgE : ME) (σ : En) (hσ : σ[0]? = some (some (.cell c))) (sg : List Int) (top : Int) (M : Cs) (h : IsBag M c) (h1 : 1 ≤ top) (h20 : top ≤ 20) (hs0 : sg ≠ []) (hs : ∀ i ∈ sg, pm1 i) (hsl : sg.length ≤ 100)
    (he : ∀ M, evE ⟨callF P (k + 2), k + 2⟩ e σ M = .ok (.int top) M) (hsg : ∀ M, evE ⟨callF P (k + 2), k + 2⟩ sgE σ M = .ok (T sg) M) :
    ∃ (x : Int) (M' : Cs), labOk x ∧ Bm c M M' ∧ IsBag M' c ∧ evE ⟨callF P (k + 2), k + 2⟩ (.bin .Mult (.call ix_law_one (.cons (.var 0) (.cons sgE .nil)) .nil []) (.bin .Add (.con (.int 1)) (.call ix_law_draw (.cons (.var 0) (.cons e .nil)) .nil []))) σ M = .ok (.int x) M' := by
  obtain ⟨v, M1, hv, b1, g1, e1⟩ := one_ok k c (sg.map .int) M h (by simpa using hs0) (by simp; omega) (by simp)
  rw [List.mem_map] at hv
  obtain ⟨s, hs2, rfl⟩ := hv
  obtain ⟨d, M2, hd0, hd1, b2, g2, e2⟩ := draw_ok' (k + 1) c top M1 g1 h1 (by omega)
  have hp := hs s hs2
  have hm := mulI s (1 + d) (Or.inl (by simp only [big]; rcases hp with h | h <;> rw [h] <;> omega))
  refine ⟨s * (1 + d), M2, ?_, b1.trans b2, g2, ?_⟩
  · simp only [labOk]
    rcases hp with h | h <;> rw [h] <;> omega
  · simp [hσ, he, hsg, T, e1, e2, hm]
/-- the labels in a dict, as a page -/
theorem mend_read (k n c L b : Nat) (f : List Int → Option Int) (M : Cs) (v3 v4 v5 v7 v8 : Option D) (h5 : n ≤ 5) (ht : IsTab M L f b) (hf : ∀ r ∈ fwdZ n, ∃ x, f r = some x) :
    evE ⟨callF P k, k⟩ (.tup (.cons (.var 1) (.cons (.blt .tuple (.cons (.lc [3] (.idx (.var 2) (.var 3)) (.nm 3) (.seq (.var 6)) .nil) .nil)) .nil))) [some (.cell c), some (.int n), some (.cell L), v3, v4, v5, some (.lst ((fwdZ n).map T)), v7, v8] M = .ok (Pg n ((fwdZ n).map fun r => (f r).getD 0)) M := by
  have hlen := fwdZ_len n
  have hp : 3 ^ n ≤ 3 ^ 5 := pow3_le h5
  obtain ⟨ks, vs, hks, hkl, hkb, hkf, hlook⟩ := ht
  simp
  rw [lcGo_one T (fun r => .int ((f r).getD 0))]
  · have htu : tupleD [.lst ((fwdZ n).map fun r => .int ((f r).getD 0))] = some (T ((fwdZ n).map fun r => (f r).getD 0)) := by simp [tupleD, T, Function.comp_def]
    simp [htu, Pg]
  · intro r hr
    obtain ⟨x, hx⟩ := hf r hr
    have h2 := hlook r
    rw [hx] at h2
    simp only [Option.map_some] at h2
    have ka := idx_dct true ks vs (T r) (by simp)
    rw [h2] at ka
    simp [hks, ka, hx]
  · exact small (by omega)
theorem page_of {n : Nat} {f : List Int → Option Int} (h1 : 1 ≤ n) (h5 : n ≤ 5) (hf : ∀ r ∈ fwdZ n, ∃ x, f r = some x) (hg : ∀ l x, f l = some x → labOk x) : GoodPage n ((fwdZ n).map fun r => (f r).getD 0) := by
  refine ⟨h1, h5, by simp, fun x hx => ?_⟩
  rw [List.mem_map] at hx
  obtain ⟨r, hr, rfl⟩ := hx
  obtain ⟨y, hy⟩ := hf r hr
  rw [hy]
  exact hg r y hy
theorem mend_fill (k c n : Nat) (M : Cs) (tv : Int) (h : IsBag M c) (h5 : n ≤ 5) (ht1 : 1 ≤ tv) (ht2 : tv ≤ 20) :
    ∃ (f : List Int → Option Int) (M2 : Cs) (d2 v3 : Option D), Bm c M M2 ∧ IsTab (M2 ++ [d2]) M.length f 300 ∧ (∀ r ∈ fwdZ n, ∃ x, f r = some x) ∧ (∀ l x, f l = some x → labOk x) ∧
      forGo [] (kt_evS_for_2 ⟨callF P (k + 4), k + 4⟩ (.nm 3) (.cons (.asg (.sub (.var 2) (.var 3)) (.bin .Mult (.call ix_law_one (.cons (.var 0) (.cons (.tup (.cons (.con (.int 1)) (.cons (.con (.int 1)) (.cons (.neg (.con (.int 1))) .nil)))) .nil)) .nil []) (.bin .Add (.con (.int 1)) (.call ix_law_draw (.cons (.var 0) (.cons (.var 5) .nil)) .nil [])))) .nil)) ((fwdZ n).map T) [some (.cell c), some (.int n), some (.cell M.length), none, none, some (.int tv), some (.lst ((fwdZ n).map T)), none, none] (M ++ [some (.dct true [] [])]) = .nx [some (.cell c), some (.int n), some (.cell M.length), v3, none, some (.int tv), some (.lst ((fwdZ n).map T)), none, none] (M2 ++ [d2]) := by
  have hlen := fwdZ_len n
  have hp : 3 ^ n ≤ 3 ^ 5 := pow3_le h5
  have hcl := h.lt
  obtain ⟨σ', M', e, i⟩ := forGo_ind (ws := []) (step := kt_evS_for_2 ⟨callF P (k + 4), k + 4⟩ (.nm 3) (.cons (.asg (.sub (.var 2) (.var 3)) (.bin .Mult (.call ix_law_one (.cons (.var 0) (.cons (.tup (.cons (.con (.int 1)) (.cons (.con (.int 1)) (.cons (.neg (.con (.int 1))) .nil)))) .nil)) .nil []) (.bin .Add (.con (.int 1)) (.call ix_law_draw (.cons (.var 0) (.cons (.var 5) .nil)) .nil [])))) .nil))
    (I := fun ds σ M' => ∃ don todo : List (List Int), fwdZ n = don ++ todo ∧ ds = todo.map T ∧ (∃ f, IsTab M' M.length f don.length ∧ (∀ l ∈ don, ∃ x, f l = some x) ∧ (∀ l x, f l = some x → labOk x)) ∧ (∃ M2 d2, Bm c M M2 ∧ M' = M2 ++ [some d2]) ∧ ∃ v3, σ = [some (.cell c), some (.int n), some (.cell M.length), v3, none, some (.int tv), some (.lst ((fwdZ n).map T)), none, none]) (by
      rintro d ds σ M' ⟨don, todo, hdt, hds, ⟨f, ht, hf1, hf2⟩, ⟨M2, d2, hB2, rfl⟩, v3, rfl⟩
      cases todo with
      | nil => simp at hds
      | cons r todo =>
        simp only [List.map_cons, List.cons.injEq] at hds
        obtain ⟨rfl, rfl⟩ := hds
        have hdl : don.length ≤ 243 := by
          have := congrArg List.length hdt
          rw [List.length_append] at this
          omega
        obtain ⟨x, M3, hx, c3, g3, e3⟩ := lab_ev (k + 2) c (.var 5) (.tup (.cons (.con (.int 1)) (.cons (.con (.int 1)) (.cons (.neg (.con (.int 1))) .nil)))) [some (.cell c), some (.int n), some (.cell M.length), some (T r), none, some (.int tv), some (.lst ((fwdZ n).map T)), none, none] rfl [1, 1, -1] tv (M2 ++ [some d2]) ((hB2.bag hcl).ap _) ht1 ht2 (by simp) (by simp [pm1]) (by simp) (fun M => by simp) (fun M => by simp [T])
        obtain ⟨a6, b6, c6, hM5⟩ := c3
        have hL2 : M2.length = M.length := hB2.len
        rw [set_apl _ _ _ _ (by omega)] at hM5
        obtain ⟨M6, hM6⟩ : ∃ M6, M6 = M2.set c (some (.lst [.int a6, .int b6, .int c6])) := ⟨_, rfl⟩
        rw [← hM6] at hM5
        have hB6 : Bm c M M6 := hB2.trans ⟨a6, b6, c6, hM6⟩
        have hL6 : M6.length = M.length := hB6.len
        have ht6 : IsTab (M6 ++ [some d2]) M.length f don.length := by
          refine ht.ap ?_
          rw [← hL6, rd_sg, hL6, ← hL2, rd_sg]
        obtain ⟨d7, e7, t7⟩ := ht6.put (by omega) r x
        rw [← hL6, set_sg, hL6] at t7
        have hset : (M6 ++ [some d2]).set M.length (some d7) = M6 ++ [some d7] := by rw [← hL6, set_sg]
        refine ⟨[some (.cell c), some (.int n), some (.cell M.length), some (T r), none, some (.int tv), some (.lst ((fwdZ n).map T)), none, none], M6 ++ [some d7], Or.inl ?_, by simp, don ++ [r], todo, by rw [hdt]; simp, rfl, ⟨_, by simpa using t7, ?_, ?_⟩, ⟨M6, d7, hB6, rfl⟩, _, rfl⟩
        · simp only [kt_evS_for_2_eq, evT_nm, SR_ok]
          have e3' := e3
          rw [hM5] at e3'
          simp [e3', e7, hset, -evE_bin]
        · intro l hl'
          rw [List.mem_append, List.mem_singleton] at hl'
          by_cases e : l = r
          · exact ⟨x, by simp [e]⟩
          · rcases hl' with hl' | hl'
            · obtain ⟨y, hy⟩ := hf1 l hl'
              exact ⟨y, by simp [e, hy]⟩
            · exact (e hl').elim
        · intro l y hy
          by_cases e : l = r
          · simp [e] at hy
            rw [← hy]; exact hx
          · simp [e] at hy
            exact hf2 l y hy) ((fwdZ n).map T) [some (.cell c), some (.int n), some (.cell M.length), none, none, some (.int tv), some (.lst ((fwdZ n).map T)), none, none] (M ++ [some (.dct true [] [])])
    ⟨[], fwdZ n, rfl, rfl, ⟨fun _ => none, ⟨[], [], rd_sg _ _, rfl, by simp, ⟨by simp, by simp, by simp⟩, fun x => by simp [lookD]⟩, by simp, by simp⟩, ⟨M, _, Bm.refl h, rfl⟩, none, rfl⟩
  obtain ⟨don, todo, hdt, hds, ⟨f, ht, hf1, hf2⟩, ⟨M2, d2, hB2, rfl⟩, v3, rfl⟩ := i
  have : todo = [] := by simpa using hds.symm
  subst this
  rw [List.append_nil] at hdt
  obtain ⟨a, b, c', d, f'⟩ := ht
  have hdl : don.length ≤ 243 := by
    rw [← hdt]; omega
  exact ⟨f, M2, some d2, v3, hB2, ⟨a, b, c', d, by omega, f'.2⟩, by rw [hdt]; exact hf1, hf2, e⟩
theorem mend_loop (k c n b0 : Nat) (M M0 : Cs) (tv : Int) (f0 : List Int → Option Int) (d0 v3 : Option D) (h : IsBag M c) (h1 : 1 ≤ n) (h5 : n ≤ 5) (ht1 : 1 ≤ tv) (ht2 : tv ≤ 8)
    (hB0 : Bm c M M0) (hT0 : IsTab (M0 ++ [d0]) M.length f0 b0) (hb0 : b0 ≤ 300) (hF0 : ∀ r ∈ fwdZ n, ∃ x, f0 r = some x) (hG0 : ∀ l x, f0 l = some x → labOk x) :
    ∃ (f : List Int → Option Int) (M2 : Cs) (d2 v3' v4' v7' v8' : Option D) (b2 : Nat), Bm c M M2 ∧ IsTab (M2 ++ [d2]) M.length f b2 ∧ (∀ r ∈ fwdZ n, ∃ x, f r = some x) ∧ (∀ l x, f l = some x → labOk x) ∧
      forGo [] (kt_evS_for_2 ⟨callF P (k + 4), k + 4⟩ (.nm 4) (.cons (.asg (.nm 7) (.call ix_law_clashes (.cons (.call ix_law_table (.cons (.tup (.cons (.var 1) (.cons (.blt .tuple (.cons (.lc [3] (.idx (.var 2) (.var 3)) (.nm 3) (.seq (.var 6)) .nil) .nil)) .nil))) .nil) .nil []) .nil) .nil [])) (.cons (.ite (.tru (.cmp .Eq (.var 7) (.lst .nil))) (.cons .brk .nil) .nil) (.cons (.asg (.nm 8) (.idx (.var 7) (.call ix_law_draw (.cons (.var 0) (.cons (.blt .len (.cons (.var 7) .nil)) .nil)) .nil []))) (.cons (.asg (.nm 3) (.idx (.var 8) (.call ix_law_draw (.cons (.var 0) (.cons (.con (.int 2)) .nil)) .nil []))) (.cons (.asg (.nm 3) (.ite (.tru (.call ix_law_is_forward (.cons (.var 3) .nil) .nil [])) (.var 3) (.call ix_law_opposite (.cons (.var 3) .nil) .nil []))) (.cons (.asg (.sub (.var 2) (.var 3)) (.bin .Mult (.call ix_law_one (.cons (.var 0) (.cons (.tup (.cons (.con (.int 1)) (.cons (.neg (.con (.int 1))) .nil))) .nil)) .nil []) (.bin .Add (.con (.int 1)) (.call ix_law_draw (.cons (.var 0) (.cons (.bin .Add (.var 5) (.ite (.tru (.cmp .Gt (.var 4) (.con (.int 30)))) (.con (.int 1)) (.con (.int 0)))) .nil)) .nil [])))) .nil))))))) (intsD 60) [some (.cell c), some (.int n), some (.cell M.length), v3, none, some (.int tv), some (.lst ((fwdZ n).map T)), none, none] (M0 ++ [d0]) = .nx [some (.cell c), some (.int n), some (.cell M.length), v3', v4', some (.int tv), some (.lst ((fwdZ n).map T)), v7', v8'] (M2 ++ [d2]) := by
  have hlen := fwdZ_len n
  have hp : 3 ^ n ≤ 3 ^ 5 := pow3_le h5
  have hcl := h.lt
  obtain ⟨σ', M', e, i⟩ := forGo_brk (ws := []) (step := kt_evS_for_2 ⟨callF P (k + 4), k + 4⟩ (.nm 4) (.cons (.asg (.nm 7) (.call ix_law_clashes (.cons (.call ix_law_table (.cons (.tup (.cons (.var 1) (.cons (.blt .tuple (.cons (.lc [3] (.idx (.var 2) (.var 3)) (.nm 3) (.seq (.var 6)) .nil) .nil)) .nil))) .nil) .nil []) .nil) .nil [])) (.cons (.ite (.tru (.cmp .Eq (.var 7) (.lst .nil))) (.cons .brk .nil) .nil) (.cons (.asg (.nm 8) (.idx (.var 7) (.call ix_law_draw (.cons (.var 0) (.cons (.blt .len (.cons (.var 7) .nil)) .nil)) .nil []))) (.cons (.asg (.nm 3) (.idx (.var 8) (.call ix_law_draw (.cons (.var 0) (.cons (.con (.int 2)) .nil)) .nil []))) (.cons (.asg (.nm 3) (.ite (.tru (.call ix_law_is_forward (.cons (.var 3) .nil) .nil [])) (.var 3) (.call ix_law_opposite (.cons (.var 3) .nil) .nil []))) (.cons (.asg (.sub (.var 2) (.var 3)) (.bin .Mult (.call ix_law_one (.cons (.var 0) (.cons (.tup (.cons (.con (.int 1)) (.cons (.neg (.con (.int 1))) .nil))) .nil)) .nil []) (.bin .Add (.con (.int 1)) (.call ix_law_draw (.cons (.var 0) (.cons (.bin .Add (.var 5) (.ite (.tru (.cmp .Gt (.var 4) (.con (.int 30)))) (.con (.int 1)) (.con (.int 0)))) .nil)) .nil [])))) .nil)))))))
    (I := fun ds σ M' => (∀ d ∈ ds, ∃ i : Int, d = .int i) ∧ (∃ f b, b + ds.length ≤ 400 ∧ IsTab M' M.length f b ∧ (∀ l ∈ fwdZ n, ∃ x, f l = some x) ∧ (∀ l x, f l = some x → labOk x)) ∧ (∃ M2 d2, Bm c M M2 ∧ M' = M2 ++ [d2]) ∧ ∃ v3' v4' v7' v8', σ = [some (.cell c), some (.int n), some (.cell M.length), v3', v4', some (.int tv), some (.lst ((fwdZ n).map T)), v7', v8']) (by
      rintro d ds σ M' ⟨hds, ⟨f, b, hb, ht, hf1, hf2⟩, ⟨M2, d2, hB2, rfl⟩, v3', v4', v7', v8', rfl⟩
      obtain ⟨i, rfl⟩ := hds d List.mem_cons_self
      have hds2 : ∀ d ∈ ds, ∃ i : Int, d = .int i := fun d hd => hds d (List.mem_cons_of_mem _ hd)
      rw [List.length_cons] at hb
      have hL2 : M2.length = M.length := hB2.len
      have hrd := fun v3 v4 v7 v8 => mend_read (k + 4) n c M.length b f (M2 ++ [d2]) v3 v4 (some (.int tv)) v7 v8 h5 ht hf1
      have gp := page_of h1 h5 hf1 hf2
      obtain ⟨ls, hls⟩ : ∃ ls, ls = (fwdZ n).map fun r => (f r).getD 0 := ⟨_, rfl⟩
      rw [← hls] at gp
      simp only [← hls] at hrd
      obtain ⟨ks, vs, e1, hlk, hkl, hkb, hk0, hv0, hkT⟩ := law_table_ok (k + 1) n ls (M2 ++ [d2]) gp
      obtain ⟨rs, rfl⟩ : ∃ rs : List (List Int), ks = rs.map T := by
        clear e1 hlk hkl hkb hk0
        induction ks with
        | nil => exact ⟨[], rfl⟩
        | cons a ks ih =>
          obtain ⟨r, rfl⟩ := hkT a List.mem_cons_self
          obtain ⟨os, rfl⟩ := ih (fun d hd => hkT d (List.mem_cons_of_mem _ hd))
          exact ⟨r :: os, rfl⟩
      have hrv : ∀ o ∈ rs, isVec n o := fun o ho => by
        obtain ⟨v, hv⟩ := look_some hkl (List.mem_map_of_mem (f := T) ho)
        rw [hlk o] at hv
        obtain ⟨x, hx, _⟩ := Option.map_eq_some_iff.mp hv
        exact tab_isVec hx
      rw [List.length_map] at hkl hkb
      obtain ⟨ps, hps, hpl, e2⟩ := law_clashes_ok (k + 2) rs vs _ (M2 ++ [d2]) hkb hkl hlk (fun o ho => by have := (hrv o ho).1; omega)
      have hcm : cmpD .Eq (.lst (ps.map fun p => .tup [T p.1, T p.2])) (.lst []) = some (decide (ps = [])) := by
        rw [cmp_eq_c 3 (by simp) (by simp) (by omega)]
        simp
      by_cases hps0 : ps = []
      · refine ⟨[some (.cell c), some (.int n), some (.cell M.length), v3', some (.int i), some (.int tv), some (.lst ((fwdZ n).map T)), some (.lst []), v8'], M2 ++ [d2], Or.inr ⟨?_, fun d hd => by simp at hd, ⟨f, b, by simp; omega, ht, hf1, hf2⟩, ⟨M2, d2, hB2, rfl⟩, _, _, _, _, rfl⟩⟩
        subst hps0
        have hnil : cmpD .Eq (.lst []) (.lst []) = some true := by rw [cmp_eq_c 1 (by simp) (by simp) (by omega)]; simp
        simp [hrd, e1, e2, hcm, hnil, -evE_tup]
      · have hpos : 0 < ps.length := List.length_pos_iff.mpr hps0
        obtain ⟨j1, M3, a3, b3, c3, g3, e3⟩ := draw_ok' (k + 3) c ps.length (M2 ++ [d2]) ((hB2.bag hcl).ap _) (by omega) (by omega)
        obtain ⟨j, rfl⟩ : ∃ j : Nat, j1 = j := ⟨j1.toNat, by omega⟩
        have hj : j < ps.length := by omega
        have x1 := atI_get (ps.map fun p => D.tup [T p.1, T p.2]) j (by simpa using hj)
        simp only [List.getElem_map] at x1
        obtain ⟨p1, hp1⟩ : ∃ p1, p1 = ps[j] := ⟨_, rfl⟩
        rw [← hp1] at x1
        have hpm := hps p1 (by rw [hp1]; exact List.getElem_mem hj)
        obtain ⟨j2, M4, a4, b4, c4, g4, e4⟩ := draw_ok' (k + 3) c 2 M3 g3 (by omega) (by omega)
        obtain ⟨q, hq, hqi⟩ : ∃ q, isVec n q ∧ idxD (.tup [T p1.1, T p1.2]) (.int j2) = some (T q) := by
          by_cases hj2 : j2 = 0
          · exact ⟨p1.1, hrv _ hpm.1, by rw [hj2]; simp⟩
          · have : j2 = 1 := by omega
            exact ⟨p1.2, hrv _ hpm.2, by rw [this]; simp⟩
        have e5 := law_is_forward_ok (k + 3) q M4 (by have := hq.1; omega) hq.2.2
        have e6 := law_opposite_ok (k + 3) q M4 (by have := hq.1; omega)
        obtain ⟨r, hr, hite⟩ : ∃ r, r ∈ fwdZ n ∧ ∀ v4 v7 v8, evE ⟨callF P (k + 4), k + 4⟩ (.ite (.tru (.call ix_law_is_forward (.cons (.var 3) .nil) .nil [])) (.var 3) (.call ix_law_opposite (.cons (.var 3) .nil) .nil [])) [some (.cell c), some (.int n), some (.cell M.length), some (T q), v4, some (.int tv), some (.lst ((fwdZ n).map T)), v7, v8] M4 = .ok (T r) M4 := by
          by_cases hs : fsgn q = 1
          · exact ⟨q, hq.fwd hs, fun v4 v7 v8 => by simp [hs, e5]⟩
          · exact ⟨negR q, hq.fwd' hs, fun v4 v7 v8 => by simp [hs, e5, e6]⟩
        obtain ⟨x, M5, hx, c5, g5, e7⟩ := lab_ev (k + 2) c (.bin .Add (.var 5) (.ite (.tru (.cmp .Gt (.var 4) (.con (.int 30)))) (.con (.int 1)) (.con (.int 0)))) (.tup (.cons (.con (.int 1)) (.cons (.neg (.con (.int 1))) .nil))) [some (.cell c), some (.int n), some (.cell M.length), some (T r), some (.int i), some (.int tv), some (.lst ((fwdZ n).map T)), some (.lst (ps.map fun p => .tup [T p.1, T p.2])), some (.tup [T p1.1, T p1.2])] rfl [1, -1] (tv + if 30 < i then 1 else 0) M4 g4 (by split <;> omega) (by split <;> omega) (by simp) (by simp [pm1]) (by simp) (fun M => by by_cases hi : 30 < i <;> simp [hi]) (fun M => by simp [T])
        obtain ⟨a6, b6, c6, hM5⟩ := c3.trans (c4.trans c5)
        rw [set_apl _ _ _ _ (by omega)] at hM5
        obtain ⟨M6, hM6⟩ : ∃ M6, M6 = M2.set c (some (.lst [.int a6, .int b6, .int c6])) := ⟨_, rfl⟩
        rw [← hM6] at hM5
        have hB6 : Bm c M M6 := hB2.trans ⟨a6, b6, c6, hM6⟩
        have hL6 : M6.length = M.length := hB6.len
        have ht6 : IsTab (M6 ++ [d2]) M.length f b := by
          refine ht.ap ?_
          have za : ∀ A : Cs, A.length = M.length → rd (A ++ [d2]) (.cell M.length) = d2 := fun A h => by rw [← h]; cases d2 <;> simp [rd]
          rw [za M6 hL6, za M2 hL2]
        obtain ⟨d7, e8, t7⟩ := ht6.put (by omega) r x
        have hset : (M6 ++ [d2]).set M.length (some d7) = M6 ++ [some d7] := by rw [← hL6, set_sg]
        rw [hset] at t7
        refine ⟨[some (.cell c), some (.int n), some (.cell M.length), some (T r), some (.int i), some (.int tv), some (.lst ((fwdZ n).map T)), some (.lst (ps.map fun p => .tup [T p.1, T p.2])), some (.tup [T p1.1, T p1.2])], M6 ++ [some d7], Or.inl ⟨Or.inl ?_, by simp, hds2, ⟨_, _, by omega, t7, ?_, ?_⟩, ⟨M6, some d7, hB6, rfl⟩, _, _, _, _, rfl⟩⟩
        · simp only [kt_evS_for_2_eq, evT_nm, SR_ok]
          rw [hM5] at e7
          have hcm2 : decide (ps = []) = false := by simpa using hps0
          rw [hcm2] at hcm
          simp [hrd, e1, e2, hcm, e3, x1, e4, hqi, hite, e7, e8, hset, -evE_ite, -evE_bin, -evE_tup]
        · intro l hl'
          by_cases e : l = r
          · exact ⟨x, by simp [e]⟩
          · obtain ⟨y, hy⟩ := hf1 l hl'
            exact ⟨y, by simp [e, hy]⟩
        · intro l y hy
          by_cases e : l = r
          · simp [e] at hy
            rw [← hy]; exact hx
          · simp [e] at hy
            exact hf2 l y hy) (intsD 60) [some (.cell c), some (.int n), some (.cell M.length), v3, none, some (.int tv), some (.lst ((fwdZ n).map T)), none, none] (M0 ++ [d0])
    ⟨fun d hd => by rw [intsD, List.mem_map] at hd; obtain ⟨j, _, rfl⟩ := hd; exact ⟨_, rfl⟩, ⟨f0, b0, by rw [intsD]; simp; omega, hT0, hF0, hG0⟩, ⟨M0, d0, hB0, rfl⟩, v3, none, none, none, rfl⟩
  obtain ⟨_, ⟨f, b, _, ht, hf1, hf2⟩, ⟨M2, d2, hB2, rfl⟩, v3', v4', v7', v8', rfl⟩ := i
  exact ⟨f, M2, d2, v3', v4', v7', v8', b, hB2, ht, hf1, hf2, e⟩
theorem mended_ok (k c n : Nat) (M : Cs) (h : IsBag M c) (h1 : 1 ≤ n) (h5 : n ≤ 5) : ∃ (ls : List Int) (M' : Cs), GoodPage n ls ∧ Bm c M M' ∧ IsBag M' c ∧ callF P (k + 5) ix_law_mended [.cell c, .int n] M = .ok (Pg n ls) M' := by
  have hlen := fwdZ_len n
  have hp : 3 ^ n ≤ 3 ^ 5 := pow3_le h5
  have hcl := h.lt
  have hfo := fun M1 => law_fore_ok (k + 2) n M1 h1 h5
  obtain ⟨tv, M0, htv, hB0, g0, e0⟩ : ∃ (tv : Int) (M0 : Cs), (1 ≤ tv ∧ tv ≤ 8) ∧ Bm c M M0 ∧ IsBag M0 c ∧ ∀ (v2 v3 v4 v5 v6 v7 v8 : Option D), evE ⟨callF P (k + 4), k + 4⟩ (.call ix_law_one (.cons (.var 0) (.cons (.tup (.cons (.var 1) (.cons (.bin .Add (.var 1) (.con (.int 1))) (.cons (.bin .Add (.var 1) (.con (.int 3))) (.cons (.ite (.tru (.cmp .Gt (.var 1) (.con (.int 1)))) (.bin .Sub (.var 1) (.con (.int 1))) (.con (.int 1))) .nil))))) .nil)) .nil []) [some (.cell c), some (.int n), v2, v3, v4, v5, v6, v7, v8] M = .ok (.int tv) M0 := by
    obtain ⟨w, hw, hw1, hw5⟩ : ∃ w : Int, (∀ (v2 v3 v4 v5 v6 v7 v8 : Option D), evE ⟨callF P (k + 4), k + 4⟩ (.ite (.tru (.cmp .Gt (.var 1) (.con (.int 1)))) (.bin .Sub (.var 1) (.con (.int 1))) (.con (.int 1))) [some (.cell c), some (.int n), v2, v3, v4, v5, v6, v7, v8] M = .ok (.int w) M) ∧ 1 ≤ w ∧ w ≤ 5 := by
      by_cases hn : (1 : Int) < n
      · refine ⟨(n : Int) - 1, ?_, by omega, by omega⟩
        intro v2 v3 v4 v5 v6 v7 v8
        have : 1 < n := by omega
        simp [hn, this]
      · refine ⟨1, ?_, by omega, by omega⟩
        intro v2 v3 v4 v5 v6 v7 v8
        have : ¬ 1 < n := by omega
        simp [hn, this]
    obtain ⟨v, M1, hv, b1, g1, e1⟩ := one_ok (k + 2) c [.int n, .int ((n : Int) + 1), .int ((n : Int) + 3), .int w] M h (by simp) (by simp) (by simp)
    have : ∃ tv : Int, v = .int tv ∧ 1 ≤ tv ∧ tv ≤ 8 := by
      simp only [List.mem_cons, List.not_mem_nil, or_false] at hv
      rcases hv with rfl | rfl | rfl | rfl
      · exact ⟨_, rfl, by omega, by omega⟩
      · exact ⟨_, rfl, by omega, by omega⟩
      · exact ⟨_, rfl, by omega, by omega⟩
      · exact ⟨_, rfl, by omega, by omega⟩
    obtain ⟨tv, rfl, ht1, ht8⟩ := this
    refine ⟨tv, M1, ⟨ht1, ht8⟩, b1, g1, ?_⟩
    intro v2 v3 v4 v5 v6 v7 v8
    simp [hw, e1, -evE_ite]
  have hL0 : M0.length = M.length := hB0.len
  rw [call_eq (F := mf_law_mended) rfl rfl]
  have hfE : ∀ (v2 v3 v4 v5 v6 v7 v8 : Option D) (M1 : Cs), evE ⟨callF P (k + 4), k + 4⟩ (.call ix_law_fore (.cons (.var 1) .nil) .nil []) [some (.cell c), some (.int n), v2, v3, v4, v5, v6, v7, v8] M1 = .ok (.lst ((fwdZ n).map T)) M1 := by
    intro v2 v3 v4 v5 v6 v7 v8 M1
    simp [hfo]
  simp [m_law_mended, e0, hfE, putsD, -evE_call]
  obtain ⟨f1, M1, d1, v3, hB1, ht1, hf1, hg1, e1⟩ := mend_fill k c n M0 tv g0 h5 htv.1 (by omega)
  simp only [← hL0]
  rw [hL0] at ht1
  obtain ⟨f2, M2, d2, v3', v4', v7', v8', b2, hB2, ht2, hf2, hg2, e2⟩ := mend_loop k c n 300 M M1 tv f1 d1 v3 h h1 h5 htv.1 htv.2 (hB0.trans hB1) ht1 (by omega) hf1 hg1
  refine ⟨_, page_of h1 h5 hf2 hg2, M2, hB2, hB2.bag hcl, ?_⟩
  have hr := mend_read (k + 4) n c M.length b2 f2 (M2 ++ [d2]) v3' v4' (some (.int tv)) v7' v8' h5 ht2 hf2
  have r60 : rngD (.int 0) (.int 60) = some (intsD 60) := rng0 60 (by omega)
  rw [← hL0] at e2 hr
  simp [e1, e2, hr, r60, -evE_tup]
  rw [hL0, ← hB2.len]
  simp [Pg]

/-- nested rows of small whole numbers -/
def it : Nat → D → Bool
  | _, .int i => decide (-100 ≤ i) && decide (i ≤ 100)
  | n + 1, .tup xs => decide (xs.length ≤ 300) && xs.all (it n)
  | _, _ => false
theorem it_int (n : Nat) (i : Int) : it n (.int i) = (decide (-100 ≤ i) && decide (i ≤ 100)) := by cases n <;> rw [it]
theorem it_tup (n : Nat) (xs : List D) : it (n + 1) (.tup xs) = (decide (xs.length ≤ 300) && xs.all (it n)) := by rw [it]
theorem it_succ : ∀ (n : Nat) (d : D), it n d = true → it (n + 1) d = true
  | 0, d, h => by
    cases d <;> simp [it] at h ⊢
    exact h
  | n + 1, d, h => by
    cases d <;> simp only [it_int, it_tup, Bool.and_eq_true, List.all_eq_true, it, Bool.false_eq_true] at h ⊢
    · exact h
    · exact ⟨h.1, fun x hx => it_succ n x (h.2 x hx)⟩
theorem it_ov : ∀ (n : Nat) (d : D), it n d = true → ov n d = true
  | 0, d, h => by
    cases d <;> simp [it] at h
    simp [ov]
  | n + 1, d, h => by
    cases d <;> simp only [it_int, it_tup, Bool.and_eq_true, List.all_eq_true, it, Bool.false_eq_true] at h
    · exact ov_int _ _
    · rw [ov_tup_iff]
      simp only [Bool.and_eq_true, decide_eq_true_eq, List.all_eq_true] at h ⊢
      exact ⟨by omega, fun x hx => it_ov n x (h.2 x hx)⟩
theorem it_or {n : Nat} {d : D} (h : it n d = true) : (∃ i : Int, d = .int i ∧ -100 ≤ i ∧ i ≤ 100) ∨ ∃ xs, d = .tup xs ∧ xs.length ≤ 300 ∧ ∀ x ∈ xs, it n x = true := by
  cases n with
  | zero =>
    cases d <;> simp [it] at h
    exact Or.inl ⟨_, rfl, h⟩
  | succ n =>
    cases d <;> simp only [it_int, it_tup, Bool.and_eq_true, List.all_eq_true, decide_eq_true_eq, it, Bool.false_eq_true] at h
    · exact Or.inl ⟨_, rfl, h⟩
    · exact Or.inr ⟨_, rfl, h.1, fun x hx => it_succ n x (h.2 x hx)⟩
def pathOk (p : D) : Prop := ∃ (xs : List D) (a : Nat), p = .tup [.tup xs, .int a] ∧ a < xs.length ∧ xs.length ≤ 300 ∧ ∀ x ∈ xs, ov 3 x = true
theorem bent_loop (k c m : Nat) (M : Cs) (thing : D) (h : IsBag M c) (ht : it 3 thing = true) (hm : m ≤ 5) :
    ∃ (path : List D) (here : D) (M2 : Cs) (y2 y6 : Option D), Bm c M M2 ∧ path.length ≤ m ∧ (∀ p ∈ path, pathOk p) ∧ it 3 here = true ∧
      forGo [] (kt_evS_for_2 ⟨callF P (k + 2), k + 2⟩ (.nm 2) (.cons (.ite (.or (.not (.tru (.isa (.var 5) .tuple))) (.tru (.cmp .Eq (.var 5) (.tup .nil)))) (.cons .brk .nil) .nil) (.cons (.asg (.nm 6) (.call ix_law_draw (.cons (.var 0) (.cons (.blt .len (.cons (.var 5) .nil)) .nil)) .nil [])) (.cons (.exp (.mut .append (.var 4) (.cons (.tup (.cons (.var 5) (.cons (.var 6) .nil))) .nil))) (.cons (.asg (.nm 5) (.idx (.var 5) (.var 6))) .nil))))) (intsD m) [some (.cell c), some thing, none, none, some (.cell M.length), some thing, none, none] (M ++ [some (.lst [])])
      = .nx [some (.cell c), some thing, y2, none, some (.cell M.length), some here, y6, none] (M2 ++ [some (.lst path)]) := by
  have hcl := h.lt
  obtain ⟨σ', M', e, i⟩ := forGo_brk (ws := []) (step := kt_evS_for_2 ⟨callF P (k + 2), k + 2⟩ (.nm 2) (.cons (.ite (.or (.not (.tru (.isa (.var 5) .tuple))) (.tru (.cmp .Eq (.var 5) (.tup .nil)))) (.cons .brk .nil) .nil) (.cons (.asg (.nm 6) (.call ix_law_draw (.cons (.var 0) (.cons (.blt .len (.cons (.var 5) .nil)) .nil)) .nil [])) (.cons (.exp (.mut .append (.var 4) (.cons (.tup (.cons (.var 5) (.cons (.var 6) .nil))) .nil))) (.cons (.asg (.nm 5) (.idx (.var 5) (.var 6))) .nil)))))
    (I := fun ds σ M' => ∃ (path : List D) (here : D) (M2 : Cs) (y2 y6 : Option D), path.length + ds.length ≤ m ∧ Bm c M M2 ∧ (∀ p ∈ path, pathOk p) ∧ it 3 here = true ∧ M' = M2 ++ [some (.lst path)] ∧ σ = [some (.cell c), some thing, y2, none, some (.cell M.length), some here, y6, none]) (by
      rintro d ds σ M' ⟨path, here, M2, y2, y6, hlen, hB, hp, hh, rfl, rfl⟩
      rw [List.length_cons] at hlen
      rcases it_or hh with ⟨i, rfl, hi⟩ | ⟨xs, rfl, hxl, hxs⟩
      · refine ⟨_, _, Or.inr ⟨?_, path, .int i, M2, some d, y6, by simp; omega, hB, hp, hh, rfl, rfl⟩⟩
        simp [isaD]
      · by_cases hx0 : xs = []
        · subst hx0
          refine ⟨_, _, Or.inr ⟨?_, path, .tup [], M2, some d, y6, by simp; omega, hB, hp, hh, rfl, rfl⟩⟩
          simp [isaD, cmp_eq_nilT]
        · have hpos : 0 < xs.length := List.length_pos_iff.mpr hx0
          obtain ⟨a', M3, a3, b3, c3, g3, e3⟩ := draw_ok' (k + 1) c xs.length (M2 ++ [some (.lst path)]) ((hB.bag hcl).ap _) (by omega) (by omega)
          obtain ⟨a, rfl⟩ : ∃ a : Nat, a' = a := ⟨a'.toNat, by omega⟩
          have ha : a < xs.length := by omega
          have hL2 : M2.length = M.length := hB.len
          obtain ⟨a6, b6, c6, hM3⟩ := c3
          rw [set_apl _ _ _ _ (by omega)] at hM3
          obtain ⟨M6, hM6⟩ : ∃ M6, M6 = M2.set c (some (.lst [.int a6, .int b6, .int c6])) := ⟨_, rfl⟩
          rw [← hM6] at hM3
          subst hM3
          have hB6 : Bm c M M6 := hB.trans ⟨a6, b6, c6, hM6⟩
          have hL6 : M6.length = M.length := hB6.len
          have hrd : rd (M6 ++ [some (D.lst path)]) (.cell M.length) = some (.lst path) := by rw [← hL6, rd_sg]
          have hset : ∀ x, (M6 ++ [some (D.lst path)]).set M.length x = M6 ++ [x] := fun x => by rw [← hL6, set_sg]
          have hsz : path.length < sizeLine := by show _ < 16777216; omega
          have hne : xs.isEmpty = false := by cases xs with
            | nil => exact (hx0 rfl).elim
            | cons _ _ => rfl
          have hfx : frees 0 xs = true := frees_of fun x hx => ov_free 3 x (it_ov 3 x (hxs x hx))
          have hov : ∀ x ∈ xs, ov 3 x = true := fun x hx => it_ov 3 x (hxs x hx)
          refine ⟨[some (.cell c), some thing, some d, none, some (.cell M.length), some xs[a], some (.int a), none], M6 ++ [some (.lst (path ++ [.tup [.tup xs, .int a]]))], Or.inl ⟨Or.inl ?_, by simp, path ++ [.tup [.tup xs, .int a]], xs[a], M6, some d, some (.int a), by simp; omega, hB6, ?_, hxs _ (List.getElem_mem ha), rfl, rfl⟩⟩
          · simp [isaD, cmp_eq_nilT, hne, e3, hrd, hset, hsz, hfx, atI_get xs a ha, lenD]
          · intro p hp'
            rw [List.mem_append, List.mem_singleton] at hp'
            rcases hp' with hp' | rfl
            · exact hp p hp'
            · exact ⟨xs, a, rfl, ha, hxl, hov⟩) (intsD m) [some (.cell c), some thing, none, none, some (.cell M.length), some thing, none, none] (M ++ [some (.lst [])])
    ⟨[], thing, M, none, none, by simp [intsD], Bm.refl h, by simp, ht, rfl, rfl⟩
  obtain ⟨path, here, M2, y2, y6, hlen, hB, hp, hh, rfl, rfl⟩ := i
  exact ⟨path, here, M2, y2, y6, hB, by simpa using hlen, hp, hh, e⟩
theorem bent_back (k c : Nat) (M : Cs) (path : List D) (thing v : D) (v2 v3 v4 v6 : Option D) (hp : ∀ p ∈ path, pathOk p) (hl : path.length ≤ 5) (hv : ov 6 v = true) :
    ∃ (w : D) (y6 y7 : Option D), ov 11 w = true ∧ forGo [] (kt_evS_for_2 ⟨callF P k, k⟩ (.tp (.cons (.nm 7) (.cons (.nm 6) .nil))) (.cons (.asg (.nm 5) (.bin .Add (.bin .Add (.slc (.var 7) .nil (.one (.var 6))) (.tup (.cons (.var 5) .nil))) (.slc (.var 7) (.one (.bin .Add (.var 6) (.con (.int 1)))) .nil))) .nil)) path [some (.cell c), some thing, v2, v3, v4, some v, v6, none] M
      = .nx [some (.cell c), some thing, v2, v3, v4, some w, y6, y7] M := by
  obtain ⟨σ', M', e, i⟩ := forGo_ind (ws := []) (step := kt_evS_for_2 ⟨callF P k, k⟩ (.tp (.cons (.nm 7) (.cons (.nm 6) .nil))) (.cons (.asg (.nm 5) (.bin .Add (.bin .Add (.slc (.var 7) .nil (.one (.var 6))) (.tup (.cons (.var 5) .nil))) (.slc (.var 7) (.one (.bin .Add (.var 6) (.con (.int 1)))) .nil))) .nil))
    (I := fun ds σ M' => M' = M ∧ (∀ p ∈ ds, pathOk p) ∧ ∃ (w : D) (j : Nat) (y6 y7 : Option D), j + ds.length ≤ 5 ∧ ov (6 + j) w = true ∧ σ = [some (.cell c), some thing, v2, v3, v4, some w, y6, y7]) (by
      rintro d ds σ M' ⟨rfl, hp, w, j, y6, y7, hlen, hw, rfl⟩
      rw [List.length_cons] at hlen
      obtain ⟨xs, a, rfl, ha, hxl, hov⟩ := hp d List.mem_cons_self
      have z1 : slcD (.tup xs) (ptD none) (ptD (some (a : Int))) .non = some (.tup (xs.take a)) := by rw [slc_tup, cut_toN]
      have z2 : slcD (.tup xs) (ptD (some ((a : Int) + 1))) (ptD none) .non = some (.tup (xs.drop (a + 1))) := by rw [slc_tup, cut_fromS]
      have t1 := add_tup (xs.take a) [w] (small (by simp; omega))
      have t2 := add_tup (xs.take a ++ [w]) (xs.drop (a + 1)) (small (by simp; omega))
      have er := ov_rd hw M'
      refine ⟨[some (.cell c), some thing, v2, v3, v4, some (.tup (xs.take a ++ [w] ++ xs.drop (a + 1))), some (.int a), some (.tup xs)], M', Or.inl ?_, by simp, rfl, fun p hp' => hp p (List.mem_cons_of_mem _ hp'), .tup (xs.take a ++ [w] ++ xs.drop (a + 1)), j + 1, _, _, by omega, ?_, rfl⟩
      · obtain ⟨A, hA⟩ : ∃ A, A = xs.take a := ⟨_, rfl⟩
        obtain ⟨B, hB⟩ : ∃ B, B = xs.drop (a + 1) := ⟨_, rfl⟩
        rw [← hA] at z1 t1 t2
        rw [← hB] at z2 t2
        rw [← hA, ← hB]
        simp [z1, z2, t1, t2, intD?, er]
      · have h3 : ∀ x ∈ xs, ov (6 + j) x = true := fun x hx => ov_mono 3 (6 + j) x (by omega) (hov x hx)
        rw [show 6 + (j + 1) = (6 + j) + 1 by omega]
        refine ov_two ?_ (fun x hx => h3 x (List.mem_of_mem_drop hx)) (by simp; omega)
        intro x hx
        rw [List.mem_append, List.mem_singleton] at hx
        rcases hx with hx | rfl
        · exact h3 x (List.mem_of_mem_take hx)
        · exact hw) path [some (.cell c), some thing, v2, v3, v4, some v, v6, none] M
    ⟨rfl, hp, v, 0, _, _, by omega, hv, rfl⟩
  obtain ⟨rfl, _, w, j, y6, y7, hlen, hw, rfl⟩ := i
  exact ⟨w, y6, y7, ov_mono _ _ _ (by simp at hlen; omega) hw, e⟩

def oddsT : List D := [.non, .bl true, .bl false, .str "1", .str "", .int (-1), .int 0, .int 1, .int 7, .int 1000000000000000000000000000000, .tup [], .lst [], .dct false [] [], .tup [.int 1, .int 0], .lst [.int 1, .int 0], .tup [.tup [.int 1, .int 0]], .tup [.bl true, .int 0]]
theorem oddsT_ov : oddsT.all (ov 5) = true := by decide +kernel
theorem odd_thing_ok (k c : Nat) (M : Cs) (h : IsBag M c) : ∃ x M', ov 5 x = true ∧ Bm c M M' ∧ IsBag M' c ∧ callF P (k + 3) ix_law_odd_thing [.cell c] M = .ok x M' := by
  have hov := oddsT_ov
  rw [List.all_eq_true] at hov
  obtain ⟨x, M1, hx, b1, g1, e1⟩ := one_ok k c oddsT M h (by simp [oddsT]) (by simp [oddsT]) (fun x hx => ov_free 5 x (hov x hx))
  refine ⟨x, M1, hov x hx, b1, g1, ?_⟩
  rw [call_eq (F := mf_law_odd_thing) rfl rfl]
  simp only [oddsT] at e1
  simp [m_law_odd_thing, binD, show sizeLine = 16777216 from rfl, putsD, putD, isKey, isKeyK]
  rw [e1]
  simp [ov_free 5 x (hov x hx), b1.tk]
theorem str_small : (List.range 201).all (fun j : Nat => match strD [.int ((j : Int) - 100)] with
    | some d => ov 5 d
    | none => false) = true := by decide +kernel
theorem str_ok (i : Int) (h : -100 ≤ i ∧ i ≤ 100) : ∃ d, strD [.int i] = some d ∧ ov 5 d = true := by
  have h1 := str_small
  rw [List.all_eq_true] at h1
  have h2 := h1 (i + 100).toNat (by rw [List.mem_range]; omega)
  rw [show (((i + 100).toNat : Nat) : Int) - 100 = i by omega] at h2
  cases e : strD [.int i] with
  | none => rw [e] at h2; exact absurd h2 (by simp)
  | some d => rw [e] at h2; exact ⟨d, rfl, h2⟩
theorem ov_bl' (n : Nat) (b : Bool) : ov n (.bl b) = true := ov_bl n b
theorem cut_m1 {α : Type} (xs : List α) : ∃ ys : List α, cut xs none (some (-1)) = ys ∧ ys.length ≤ xs.length ∧ ∀ y ∈ ys, y ∈ xs := ⟨_, rfl, by
    rw [cut]
    exact Nat.le_trans (List.length_take_le' _ _) (by rw [List.length_drop]; omega), fun y hy => List.mem_of_mem_drop (List.mem_of_mem_take hy)⟩
theorem cut_any {α : Type} (xs : List α) (lo hi : Option Int) : (cut xs lo hi).length ≤ xs.length ∧ ∀ y ∈ cut xs lo hi, y ∈ xs := ⟨by
    rw [cut]
    exact Nat.le_trans (List.length_take_le' _ _) (by rw [List.length_drop]; omega), fun y hy => List.mem_of_mem_drop (List.mem_of_mem_take hy)⟩
theorem idx_all {xs : List D} {p : D → Bool} (h : xs.all p = true) (w : Int) (h0 : 0 ≤ w) (h1 : w < xs.length) : ∃ x, idxD (.tup xs) (.int w) = some x ∧ p x = true := by
  obtain ⟨a, rfl⟩ : ∃ a : Nat, w = a := ⟨w.toNat, by omega⟩
  have ha : a < xs.length := by omega
  rw [List.all_eq_true] at h
  exact ⟨xs[a], by simp [idxD, atI_get xs a ha], h _ (List.getElem_mem ha)⟩
theorem ov_tupS {m : Nat} {xs : List D} (h : ∀ x ∈ xs, ov m x = true) (hl : xs.length ≤ 2000) : ov (m + 1) (.tup xs) = true := by
  rw [ov_tup_iff]
  simp only [Bool.and_eq_true, decide_eq_true_eq, List.all_eq_true]
  exact ⟨hl, h⟩
theorem ov_lstS {m : Nat} {xs : List D} (h : ∀ x ∈ xs, ov m x = true) (hl : xs.length ≤ 2000) : ov (m + 1) (.lst xs) = true := by
  rw [ov_lst_iff]
  simp only [Bool.and_eq_true, decide_eq_true_eq, List.all_eq_true]
  exact ⟨hl, h⟩
theorem bent_change (k c L : Nat) (way : Int) (M : Cs) (thing here : D) (y2 y6 : Option D) (h : IsBag M c) (ht : it 3 here = true) (hw : 0 ≤ way) :
    ∃ (w : D) (M' : Cs), ov 6 w = true ∧ Bm c M M' ∧ IsBag M' c ∧ evS ⟨callF P (k + 3), k + 3⟩ (.ite (.and (.tru (.isa (.var 5) .tuple)) (.tru (.cmp .Lt (.var 3) (.con (.int 7))))) (.cons (.asg (.nm 5) (.idx (.tup (.cons (.blt .list (.cons (.var 5) .nil)) (.cons (.slc (.var 5) .nil (.one (.neg (.con (.int 1))))) (.cons (.bin .Add (.var 5) (.slc (.var 5) (.one (.neg (.con (.int 1)))) .nil)) (.cons (.slc (.var 5) (.one (.con (.int 1))) .nil) (.cons (.rev (.var 5)) (.cons (.bin .Add (.var 5) (.tup (.cons (.con (.int 0)) .nil))) (.cons (.tup (.cons (.var 5) .nil)) .nil)))))))) (.var 3))) .nil) (.cons (.ite (.and (.tru (.call ix_law_is_whole (.cons (.var 5) .nil) .nil [])) (.tru (.cmp .Lt (.var 3) (.con (.int 7))))) (.cons (.asg (.nm 5) (.idx (.tup (.cons (.bin .Add (.var 5) (.con (.int 1))) (.cons (.bin .Sub (.var 5) (.con (.int 1))) (.cons (.bin .Sub (.con (.int 0)) (.var 5)) (.cons (.cmp .Gt (.var 5) (.con (.int 0))) (.cons (.bin .Mult (.var 5) (.con (.int 2))) (.cons (.blt .str (.cons (.var 5) .nil)) (.cons (.bin .Add (.var 5) (.con (.int 5))) .nil)))))))) (.var 3))) .nil) (.cons (.ite (.and (.tru (.isa (.var 5) .str)) (.tru (.cmp .Lt (.var 3) (.con (.int 4))))) (.cons (.asg (.nm 5) (.idx (.tup (.cons (.bin .Add (.var 5) (.con (.str "a"))) (.cons (.slc (.var 5) (.one (.con (.int 1))) .nil) (.cons (.bin .Add (.con (.str "not ")) (.var 5)) (.cons (.rev (.var 5)) .nil))))) (.var 3))) .nil) (.cons (.asg (.nm 5) (.call ix_law_odd_thing (.cons (.var 0) .nil) .nil [])) .nil)) .nil)) .nil)) [some (.cell c), some thing, y2, some (.int way), some (.cell L), some here, y6, none] M = .nx [some (.cell c), some thing, y2, some (.int way), some (.cell L), some w, y6, none] M' := by
  obtain ⟨o, M1, ho, b1, g1, e1⟩ := odd_thing_ok k c M h
  have hov := it_ov 3 here ht
  have er := fun M => ov_rd hov M
  have hwh := law_is_whole_any (k + 2) hov M
  by_cases w7 : way < 7
  · rcases it_or ht with ⟨i, rfl, hi⟩ | ⟨xs, rfl, hxl, hxs⟩
    · obtain ⟨s, hs, hso⟩ := str_ok i hi
      obtain ⟨w, hw1, hw2⟩ := idx_all (xs := [.int (i + 1), .int (i - 1), .int (0 - i), .bl (decide (0 < i)), .int (i * 2), s, .int (i + 5)]) (p := ov 5) (by simp [ov_int, ov_bl, hso]) way hw (by simpa using w7)
      refine ⟨w, M, ov_mono 5 6 w (by omega) hw2, Bm.refl h, h, ?_⟩
      have hm := mulI i 2 (Or.inr (by decide))
      simp at hw1
      have hs' : bltD .str [.int i] = some s := hs
      simp [isaD, hwh, isInt, w7, hs', hm, hw1]
    · have hx4 : ∀ x ∈ xs, ov 4 x = true := fun x hx => ov_mono 3 4 x (by omega) (it_ov 3 x (hxs x hx))
      have hx5 : ∀ x ∈ xs, ov 5 x = true := fun x hx => ov_mono 3 5 x (by omega) (it_ov 3 x (hxs x hx))
      have c1 := cut_any xs none (some (-1))
      have c2 := cut_any xs (some (-1)) none
      have c3 := cut_any xs (some 1) none
      have s1 := slc_tup xs none (some (-1))
      have s2 := slc_tup xs (some (-1)) none
      have s3 := slc_tup xs (some 1) none
      have hdr : xs.drop 1 = cut xs (some 1) none := (cut_1 xs).symm
      generalize cut xs none (some (-1)) = A at *
      generalize cut xs (some (-1)) none = B at *
      generalize cut xs (some 1) none = C at *
      have t1 := add_tup xs B (small (by omega))
      have t2 := add_tup xs [.int 0] (small (by simp; omega))
      obtain ⟨w, hw1, hw2⟩ := idx_all (xs := [.lst xs, .tup A, .tup (xs ++ B), .tup C, .tup xs.reverse, .tup (xs ++ [.int 0]), .tup [.tup xs]]) (p := ov 6) (by
        simp only [List.all_cons, List.all_nil, Bool.and_true, Bool.and_eq_true]
        refine ⟨ov_lstS hx5 (by omega), ov_tupS (fun x hx => hx5 x (c1.2 x hx)) (by omega), ov_tupS (fun x hx => (List.mem_append.mp hx).elim (hx5 x) fun hx => hx5 x (c2.2 x hx)) (by simp; omega), ov_tupS (fun x hx => hx5 x (c3.2 x hx)) (by omega), ov_tupS (fun x hx => hx5 x (by simpa using hx)) (by simp; omega), ov_tupS (fun x hx => (List.mem_append.mp hx).elim (hx5 x) fun hx => by simp at hx; rw [hx]; exact ov_int _ _) (by simp; omega), ov_tupS (fun x hx => by simp at hx; rw [hx]; exact ov_tupS hx4 (by omega)) (by simp)⟩) way hw (by simpa using w7)
      refine ⟨w, M, hw2, Bm.refl h, h, ?_⟩
      simp at hw1
      have hli : listD [.tup xs] = some (.lst xs) := rfl
      simp [isaD, w7, hli, intD?, s1, s2, s3, t1, t2, revD, hdr, hw1]
  · refine ⟨o, M1, ov_mono 5 6 o (by omega) ho, b1, g1, ?_⟩
    rcases it_or ht with ⟨i, rfl, hi⟩ | ⟨xs, rfl, hxl, hxs⟩
    · simp [isaD, hwh, isInt, w7, e1]
    · simp [isaD, hwh, isInt, w7, e1]
theorem bent_ok (k c : Nat) (thing : D) (M : Cs) (h : IsBag M c) (ht : it 3 thing = true) : ∃ x M', ov 11 x = true ∧ Bm c M M' ∧ IsBag M' c ∧ callF P (k + 4) ix_law_bent [.cell c, thing] M = .ok x M' := by
  have hcl := h.lt
  have hot := it_ov 3 thing ht
  have ert := fun M => ov_rd hot M
  rw [call_eq (F := mf_law_bent) rfl rfl]
  obtain ⟨m', M1, m0, m5, b1, g1, e1⟩ := draw_ok' (k + 2) c 5 (M ++ [some (.lst [])]) (h.ap _) (by omega) (by omega)
  obtain ⟨m, rfl⟩ : ∃ m : Nat, m' = m := ⟨m'.toNat, by omega⟩
  obtain ⟨a6, b6, c6, hM1⟩ := b1
  rw [set_apl _ _ _ _ (by omega)] at hM1
  obtain ⟨M0, hM0⟩ : ∃ M6, M6 = M.set c (some (.lst [.int a6, .int b6, .int c6])) := ⟨_, rfl⟩
  rw [← hM0] at hM1
  subst hM1
  have hB0 : Bm c M M0 := ⟨a6, b6, c6, hM0⟩
  have hL0 : M0.length = M.length := hB0.len
  obtain ⟨path, here, M2, y2, y6, hB2, hpl, hpp, hhere, e2⟩ := bent_loop (k + 1) c m M0 thing (hB0.bag hcl) ht (by omega)
  have hL2 : M2.length = M.length := by rw [hB2.len, hL0]
  have hrm := rng0 m (by omega)
  simp [m_law_bent, e1, hrm, ert]
  rw [← hL0]
  simp [e2]
  obtain ⟨way, M3, a3, a4, b3, g3, e3⟩ := draw_ok' (k + 2) c 9 (M2 ++ [some (.lst path)]) (((hB0.trans hB2).bag hcl).ap _) (by omega) (by omega)
  obtain ⟨w, M4, how, b4, g4, e4⟩ := bent_change k c M0.length way M3 thing here y2 y6 g3 hhere a3
  obtain ⟨a7, b7, c7, hM4⟩ := b3.trans b4
  rw [set_apl _ _ _ _ (by omega)] at hM4
  obtain ⟨M5, hM5⟩ : ∃ M5, M5 = M2.set c (some (.lst [.int a7, .int b7, .int c7])) := ⟨_, rfl⟩
  rw [← hM5] at hM4
  have hB5 : Bm c M M5 := (hB0.trans hB2).trans ⟨a7, b7, c7, hM5⟩
  have hL5 : M5.length = M.length := hB5.len
  have hrd : rd M4 (.cell M0.length) = some (.lst path) := by rw [hM4, hL0, ← hL5, rd_sg]
  have hrv : revD (.lst path) = some (.lst path.reverse) := rfl
  obtain ⟨x, y6', y7', hox, e5⟩ := bent_back (k + 3) c M4 path.reverse thing w y2 (some (.int way)) (some (.cell M0.length)) y6 (fun p hp => hpp p (by simpa using hp)) (by simp; omega) how
  refine ⟨x, hox, M5, hB5, hB5.bag hcl, ?_⟩
  have erx := fun M => ov_rd hox M
  have hfx := ov_free 11 x hox
  simp [e3, e4, hrd, hrv, e5, erx, -evS_ite]
  rw [hM4, hL0, ← hL5]
  simp [hfx]

def sideK (row : List Int) (s : Int) : List Int := ((List.range row.length).filter fun i => decide (row.getD i 0 = s)).map fun i : Nat => (i : Int)
theorem sideK_mem (row : List Int) (s x : Int) : x ∈ sideK row s ↔ x ∈ sideOf row s := by
  simp only [sideK, sideOf, List.mem_map, List.mem_filter, List.mem_range, decide_eq_true_eq]
  constructor
  · rintro ⟨i, ⟨hi, e⟩, rfl⟩
    refine ⟨(s, i), ⟨?_, rfl⟩, rfl⟩
    rw [List.mem_zipIdx_iff_getElem?]
    rw [List.getD_eq_getElem?_getD, List.getElem?_eq_getElem hi] at e
    simp only [Option.getD_some] at e
    rw [List.getElem?_eq_getElem hi, e]
  · rintro ⟨⟨y, i⟩, ⟨hm, e⟩, rfl⟩
    rw [List.mem_zipIdx_iff_getElem?] at hm
    simp only at e hm
    obtain ⟨hi, hm⟩ := List.getElem?_eq_some_iff.mp hm
    exact ⟨i, ⟨hi, by rw [List.getD_eq_getElem?_getD, List.getElem?_eq_getElem hi]; simp [hm, e]⟩, rfl⟩

theorem law_alternation_ok (k : Nat) (row : List Int) (M : Cs) : callF P (k + 1) ix_law_alternation [T row] M = .ok (.int (turns row)) M := by
  rw [call_eq (F := mf_law_alternation) rfl rfl]
  simp [m_law_alternation]
  generalize hr : forGo _ _ _ _ _ = r
  obtain ⟨σ', rfl, x, rfl⟩ : ∃ σ', r = .nx σ' M ∧ ∃ x, σ' = [some (T row), x, some (.int (row.foldl turnF (0, 0)).1), some (.int (row.foldl turnF (0, 0)).2)] := by
    rw [← hr]
    refine forGo_fold .int (fun (p : Int × Int) σ => ∃ x, σ = [some (T row), x, some (.int p.1), some (.int p.2)]) turnF row (0, 0) _ ?_ ⟨none, rfl⟩
    rintro e he ⟨a, b⟩ σ ⟨x, rfl⟩
    by_cases h : e = 0
    · exact ⟨[some (T row), some (.int e), some (.int a), some (.int b)], by simp [h], some (.int e), by simp [turnF, h]⟩
    · by_cases h2 : e = b
      · exact ⟨[some (T row), some (.int e), some (.int a), some (.int b)], by simp [h, h2], some (.int e), by simp [turnF, h, h2]⟩
      · exact ⟨[some (T row), some (.int e), some (.int (a + 1)), some (.int e)], by simp [h, h2], some (.int e), by simp [turnF, h, h2]⟩
  simp [turns]
theorem law_within_ok (k : Nat) (lot side : List Int) (M : Cs) (h : lot.length ≤ 1000) : callF P (k + 1) ix_law_within [T lot, T side] M = .ok (.bl (within lot side)) M := by
  rw [call_eq (F := mf_law_within) rfl rfl]
  simp [m_law_within]
  rw [lcGo_one _ (fun x : Int => .bl (decide (x ∈ side)))]
  · simp [within]
  · intro x hx
    simp
  · exact small (by omega)
theorem law_sides_ok (k : Nat) (row : List Int) (M : Cs) (h : row.length ≤ 1000) : callF P (k + 1) ix_law_sides [T row] M = .ok (.tup [T (sideK row 1), T (sideK row (-1))]) M := by
  rw [call_eq (F := mf_law_sides) rfl rfl]
  have hin : ∀ (s : Int) (v2 : Option D), lcGo [] (kt_evE_lc_2 ⟨callF P k, k⟩ [2] (.var 2) (.nm 2) (.one (.tru (.cmp .Eq (.idx (.var 0) (.var 2)) (.var 1)))) [some (T row), some (.int s), v2]) (intsD row.length) [] M = .ok ((sideK row s).map .int) M := by
    intro s v2
    rw [intsD, lcGo_if (fun i : Nat => .int (i : Int)) (fun i => decide (row.getD i 0 = s)) (fun i : Nat => .int (i : Int))]
    · simp [sideK, Function.comp_def]
    · intro i hi
      rw [List.mem_range] at hi
      simp [atI_get row i hi]
      by_cases e : row[i] = s <;> simp [e, hi]
    · simp; exact small (by omega)
  have htu : ∀ xs : List Int, tupleD [.lst (xs.map .int)] = some (T xs) := fun _ => rfl
  have htu2 : ∀ xs : List D, tupleD [.lst xs] = some (.tup xs) := fun _ => rfl
  simp [m_law_sides, lcGo_c, lcGo_n, rng0 row.length (by omega), hin, htu, htu2]
def heldB (lots : List (List Int)) (row : List Int) (s : Int) : Bool := lots.any fun l => within l (sideK row s)
theorem law_held_ok (k : Nat) (lots : List (List Int)) (row : List Int) (M : Cs) (h : row.length ≤ 1000) (h1 : lots.length ≤ 1000) (h2 : ∀ l ∈ lots, l.length ≤ 1000) : callF P (k + 2) ix_law_held [.tup (lots.map T), T row] M = .ok (.lst [.bl (heldB lots row 1), .bl (heldB lots row (-1))]) M := by
  rw [call_eq (F := mf_law_held) rfl rfl]
  have hin : ∀ (s : Int) (v3 : Option D), lcGo [] (kt_evE_lc_2 ⟨callF P (k + 1), k + 1⟩ [3] (.call ix_law_within (.cons (.var 3) (.cons (.var 2) .nil)) .nil []) (.nm 3) .nil [some (.tup (lots.map T)), some (T row), some (T (sideK row s)), v3]) (lots.map T) [] M = .ok (lots.map fun l => .bl (within l (sideK row s))) M := by
    intro s v3
    rw [lcGo_one T (fun l => .bl (within l (sideK row s)))]
    · intro l hl
      simp [law_within_ok k l _ M (h2 l hl)]
    · exact small (by omega)
  have ha : ∀ s, anyD [.lst (lots.map fun l => .bl (within l (sideK row s)))] = some (.bl (heldB lots row s)) := fun s => any_map _ _
  simp [m_law_held, law_sides_ok k row M h, lcGo_c, lcGo_n, hin, ha, -any_map]
def zerosI (n : Nat) : List Int := List.replicate n 0
def rowsAll (n : Nat) : List (List Int) := sortR (vecZ n ++ [zerosI n])
theorem law_rows_ok (k n : Nat) (M : Cs) (h1 : 1 ≤ n) (hn : n ≤ 5) : callF P (k + 2) ix_law_rows [.int n] M = .ok (.lst ((rowsAll n).map T)) M := by
  rw [call_eq (F := mf_law_rows) rfl rfl]
  have hb : (rowsZ n).length ≤ 3 ^ 5 := by rw [rowsZ_len]; exact pow3_le (by omega)
  have hv : (vecZ n).length ≤ (rowsZ n).length := List.length_filter_le _ _
  have t1 := add_lst' ((vecZ n).map T) [T (zerosI n)] (small (by simp; omega))
  have hT : (vecZ n).map T ++ [T (zerosI n)] = (vecZ n ++ [zerosI n]).map T := by simp
  rw [hT] at t1
  have hso := sorted_Ts (vecZ n ++ [zerosI n]) (small (by simp; omega))
  have hz : T (List.replicate n 0) = T (zerosI n) := rfl
  simp [m_law_rows, law_vectors_ok k n M h1 hn, zeros_mul n h1 (by omega), hz, t1, hso, -List.map_append]
  simp [rowsAll]
theorem rowsAll_mem {n : Nat} {r : List Int} : r ∈ rowsAll n ↔ r ∈ vecZ n ∨ r = zerosI n := by
  rw [rowsAll, (sortR_perm _).mem_iff]
  simp
theorem rowsAll_len {n : Nat} {r : List Int} (h : r ∈ rowsAll n) : r.length = n := by
  rcases rowsAll_mem.mp h with h | rfl
  · exact (rowsZ_mem _ _ (vecZ_mem h).1).1
  · simp [zerosI]
/-- True in a row of two bools -/
theorem in_bools (a b : Bool) : cmpD .NotIn (.bl true) (.lst [.bl a, .bl b]) = some (!(a || b)) := by
  have h1 : sh (.lst [.bl a, .bl b]) = true := sh_lvl (n := 1) (by simp [lvl]) (by omega)
  simp only [cmpD, sh_bl, h1, Bool.and_self, if_true]
  simp [memD, eqD, D.py, PyData.eqv]

/-- lots: rows of numbers below n, none empty -/
def lotsOk (n : Nat) (lots : List (List Int)) : Prop := ∀ l ∈ lots, l ≠ [] ∧ l.length ≤ n ∧ ∀ x ∈ l, 0 ≤ x ∧ x < (n : Int)
/-- what is found after j turns (from above) -/
def lotsS (n : Nat) : Nat → List (List Int)
  | 0 => [[]]
  | j + 1 => [] :: ((lotsS n j).map fun l => ((n : Int) - 1 - j) :: l) ++ (lotsS n j).drop 1
theorem lotsS_head (n : Nat) : ∀ j, ∃ r, lotsS n j = [] :: r
  | 0 => ⟨[], rfl⟩
  | j + 1 => ⟨_, rfl⟩
theorem lotsS_len (n : Nat) : ∀ j, (lotsS n j).length = 2 ^ j
  | 0 => rfl
  | j + 1 => by
    have ih := lotsS_len n j
    have := Nat.two_pow_pos j
    rw [lotsS, List.length_append, List.length_cons, List.length_map, List.length_drop, ih, Nat.pow_succ]
    omega
theorem lotsS_mem (n : Nat) : ∀ j, j ≤ n → ∀ l ∈ lotsS n j, l.length ≤ j ∧ ∀ x ∈ l, (n : Int) - j ≤ x ∧ x < (n : Int)
  | 0, _, l, h => by simp [lotsS] at h; subst h; simp
  | j + 1, hj, l, h => by
    have ih := lotsS_mem n j (by omega)
    simp only [lotsS, List.cons_append, List.mem_cons, List.mem_append, List.mem_map] at h
    rcases h with rfl | ⟨l', hl', rfl⟩ | h
    · simp
    · obtain ⟨a, b⟩ := ih l' hl'
      refine ⟨by simp; omega, fun x hx => ?_⟩
      rw [List.mem_cons] at hx
      rcases hx with rfl | hx
      · omega
      · have := b x hx; omega
    · obtain ⟨a, b⟩ := ih l (List.mem_of_mem_drop h)
      exact ⟨by omega, fun x hx => by have := b x hx; omega⟩
theorem lotsS_tail_ne (n : Nat) : ∀ j, ∀ l ∈ (lotsS n j).drop 1, l ≠ []
  | 0, l, h => by simp [lotsS] at h
  | j + 1, l, h => by
    simp only [lotsS, List.cons_append, List.drop_succ_cons, List.drop_zero, List.mem_append, List.mem_map] at h
    rcases h with ⟨l', _, rfl⟩ | h
    · simp
    · exact lotsS_tail_ne n j l h
theorem add_T1l (x : Int) (a : List Int) (h : a.length ≤ 1000000) : binD .Add (.tup [.int x]) (T a) = some (T (x :: a)) := by
  have : 1 + a.length ≤ sizeLine := small (by omega)
  simp [T, binD, this]
theorem law_lots_ok (k n : Nat) (M : Cs) (hn : n ≤ 8) : callF P (k + 1) ix_law_lots [.int n] M = .ok (.lst (((lotsS n n).drop 1).map T)) M := by
  rw [call_eq (F := mf_law_lots) rfl rfl]
  have hrd : rdnD (.int ((n : Int) - 1)) = some ((List.range n).map fun i : Nat => .int ((n : Int) - 1 - i)) := by
    simp only [rdnD]
    rw [if_pos (by simp only [Bool.and_eq_true, decide_eq_true_eq]; omega), show ((n : Int) - 1 + 1).toNat = n by omega]
  simp [m_law_lots, hrd]
  generalize hr : forGo _ _ _ _ _ = r
  obtain ⟨σ', rfl, x, rfl⟩ : ∃ σ', r = .nx σ' M ∧ ∃ x, σ' = [some (.int n), some (.lst ((lotsS n n).map T)), x, none] := by
    rw [← hr]
    refine forGo_range (fun i : Nat => .int ((n : Int) - 1 - i)) (fun i σ => ∃ x, σ = [some (.int n), some (.lst ((lotsS n i).map T)), x, none]) n _ ?_ ⟨none, rfl⟩
    rintro i hi σ ⟨x, rfl⟩
    have hl := lotsS_len n i
    have hp : 2 ^ i ≤ 2 ^ 8 := Nat.pow_le_pow_right (by omega) (by omega)
    refine ⟨[some (.int n), some (.lst ((lotsS n (i + 1)).map T)), some (.int ((n : Int) - 1 - i)), none], ?_, _, rfl⟩
    have z1 : slcD (.lst ((lotsS n i).map T)) (ptD (some 1)) (ptD none) .non = some (.lst (((lotsS n i).drop 1).map T)) := by rw [slc_lst, cut_1, List.map_drop]
    have t1 := add_lst' [T []] ((lotsS n i).map fun l => T (((n : Int) - 1 - i) :: l)) (small (by simp; omega))
    have t2 := add_lst' (T [] :: (lotsS n i).map fun l => T (((n : Int) - 1 - i) :: l)) (((lotsS n i).drop 1).map T) (small (by simp; omega))
    have hT0 : D.tup [] = T [] := rfl
    simp [hT0]
    rw [lcGo_one T (fun l => T (((n : Int) - 1 - i) :: l))]
    · simp only [ok_bind]
      simp [t1, intD?, z1, -List.drop_one, -List.map_drop]
      rw [t2]
      simp [lotsS, Function.comp_def]
    · intro l hl'
      have := (lotsS_mem n i (by omega) l hl').1
      simp [add_T1l _ l (by omega)]
    · exact small (by omega)
  have z1 : slcD (.lst ((lotsS n n).map T)) (ptD (some 1)) (ptD none) .non = some (.lst (((lotsS n n).drop 1).map T)) := by rw [slc_lst, cut_1, List.map_drop]
  simp [intD?, z1, -List.drop_one, -List.map_drop]
  simp
theorem lots_good (n : Nat) : lotsOk n ((lotsS n n).drop 1) := fun l hl => by
  obtain ⟨a, b⟩ := lotsS_mem n n (by omega) l (List.mem_of_mem_drop hl)
  exact ⟨lotsS_tail_ne n n l hl, a, fun x hx => by have := b x hx; omega⟩
def FmW (n : Nat) (lots : List (List Int)) : D := .tup [.int n, .tup (lots.map T)]
/-- a mixed row of lots -/
theorem mixed_Ts (k c : Nat) (is : List (List Int)) (M : Cs) (h : IsBag M c) (hs : is.length < k + 1) (hk : k ≤ 100000) : ∃ (js : List (List Int)) (M' : Cs), js.Perm is ∧ Bm c M M' ∧ IsBag M' c ∧ callF P (k + 2) ix_law_mixed [.cell c, .lst (is.map T)] M = .ok (.lst (js.map T)) M' := by
  obtain ⟨ys, M', hp, hb, e⟩ := mixed_ok k c (is.map T) M h (by simp) (by simpa using hs) hk 1 (by omega) (by simp)
  obtain ⟨zs, p, rfl⟩ := perm_map' T hp.symm is rfl
  exact ⟨zs, M', p.symm, hb, hb.bag h.lt, e⟩
theorem law_family_ok (k c n : Nat) (M : Cs) (h : IsBag M c) (h1 : 1 ≤ n) (h5 : n ≤ 5) (hk : 40 ≤ k) (hk2 : k ≤ 90000) : ∃ (lots : List (List Int)) (M' : Cs), lotsOk n lots ∧ 1 ≤ lots.length ∧ lots.length ≤ 10 ∧ Bm c M M' ∧ IsBag M' c ∧ callF P (k + 3) ix_law_family [.cell c, .int n] M = .ok (FmW n lots) M' := by
  obtain ⟨d1, M1, a1, b1, c1, g1, e1⟩ := draw_ok' (k + 1) c 2 M h (by omega) (by omega)
  have hL := law_lots_ok (k + 1) n M (by omega)
  have hlen : ((lotsS n n).drop 1).length = 2 ^ n - 1 := by rw [List.length_drop, lotsS_len]
  have hp : 2 ^ n ≤ 2 ^ 5 := Nat.pow_le_pow_right (by omega) h5
  have hp1 : 2 ^ 1 ≤ 2 ^ n := Nat.pow_le_pow_right (by omega) h1
  obtain ⟨A, hA⟩ : ∃ A, A = (lotsS n n).drop 1 := ⟨_, rfl⟩
  have hAg := lots_good n
  rw [← hA] at hL hlen hAg
  have hsm : ∃ S : List (List Int), lotsOk n S ∧ 1 ≤ S.length ∧ S.length ≤ 31 ∧ ∀ (v3 v4 v5 : Option D), evE ⟨callF P (k + 2), k + 2⟩ (.ite (.tru (.cmp .Eq (.call ix_law_draw (.cons (.var 0) (.cons (.con (.int 2)) .nil)) .nil []) (.con (.int 0)))) (.lc [5] (.var 5) (.nm 5) (.seq (.var 2)) (.one (.tru (.cmp .LtE (.blt .len (.cons (.var 5) .nil)) (.con (.int 2)))))) (.var 2)) [some (.cell c), some (.int n), some (.lst (A.map T)), v3, v4, v5] M = .ok (.lst (S.map T)) M1 := by
    by_cases hd : d1 = 0
    · refine ⟨A.filter fun l => decide ((l.length : Int) ≤ 2), fun l hl => hAg l (List.mem_filter.mp hl).1, ?_, ?_, ?_⟩
      · have hm : [(n : Int) - 1 - (n - 1 : Nat)] ∈ A := by
          obtain ⟨j, rfl⟩ : ∃ j, n = j + 1 := ⟨n - 1, by omega⟩
          rw [hA, lotsS]
          obtain ⟨r, hr⟩ := lotsS_head (j + 1) j
          rw [hr]
          simp
        refine List.length_pos_iff.mpr (List.ne_nil_of_mem (List.mem_filter.mpr ⟨hm, by simp⟩))
      · have := List.length_filter_le (fun l => decide ((l.length : Int) ≤ 2)) A
        omega
      · intro v3 v4 v5
        simp [e1, hd]
        rw [lcGo_if T (fun l => decide ((l.length : Int) ≤ 2)) T]
        · simp
        · intro l hl
          by_cases e : (l.length : Int) ≤ 2 <;> simp [e]
        · exact small (by omega)
    · refine ⟨A, hAg, by omega, by omega, ?_⟩
      intro v3 v4 v5
      simp [e1, hd]
  obtain ⟨S, Sg, S1, S31, e2⟩ := hsm
  obtain ⟨mo, M2, hmo, c2, g2, e3⟩ := one_ok (k) c [.int 3, .int 6, .int 10] M1 g1 (by simp) (by simp) (by simp)
  obtain ⟨m, rfl, m1, m10⟩ : ∃ m : Int, mo = .int m ∧ 1 ≤ m ∧ m ≤ 10 := by
    simp only [List.mem_cons, List.not_mem_nil, or_false] at hmo
    rcases hmo with rfl | rfl | rfl <;> exact ⟨_, rfl, by omega, by omega⟩
  obtain ⟨d4, M3, a4, b4, c4, g4, e4⟩ := draw_ok' (k + 1) c (min (S.length : Int) m) M2 g2 (by omega) (by omega)
  obtain ⟨js, M4, pj, c5, g5, e5⟩ := mixed_Ts k c S M3 g4 (by omega) (by omega)
  have mm := ((c1.trans c2).trans c4).trans c5
  have hjl := pj.length_eq
  obtain ⟨f, hf⟩ : ∃ f : Nat, 1 + d4 = f := ⟨(1 + d4).toNat, by omega⟩
  obtain ⟨lots, hlots⟩ : ∃ lots, lots = js.take f := ⟨_, rfl⟩
  have hll : lots.length = min f js.length := by rw [hlots, List.length_take]
  have z1 : slcD (.lst (js.map T)) (ptD none) (ptD (some (f : Int))) .non = some (.lst (lots.map T)) := by rw [slc_lst, cut_toN, hlots, List.map_take]
  have hso := sorted_Ts lots (small (by omega))
  have hsl := sortR_len lots
  refine ⟨sortR lots, M4, ?_, by omega, by omega, mm, g5, ?_⟩
  · intro l hl
    have := (sortR_perm lots).mem_iff.mp hl
    rw [hlots] at this
    exact Sg l (pj.mem_iff.mp (List.mem_of_mem_take this))
  · rw [call_eq (F := mf_law_family) rfl rfl]
    have htu : ∀ xs : List D, tupleD [.lst xs] = some (.tup xs) := fun _ => rfl
    simp [m_law_family, hL, e2, e3, e4, hf, e5, intD?, z1, hso, htu, FmW, mm.tk, -evE_ite]

theorem turnF_fold : ∀ (row : List Int) (p : Int × Int), p.1 ≤ (row.foldl turnF p).1 ∧ (row.foldl turnF p).1 ≤ p.1 + ((told row).length : Int)
  | [], p => by simp [told]
  | x :: xs, p => by
    rw [List.foldl_cons]
    obtain ⟨h1, h2⟩ := turnF_fold xs (turnF p x)
    by_cases h : x = 0
    · have e : told (x :: xs) = told xs := by simp [told, h]
      have e2 : turnF p x = p := by simp [turnF, h]
      rw [e]
      rw [e2] at h1 h2 ⊢
      exact ⟨h1, h2⟩
    · have e : (told (x :: xs)).length = (told xs).length + 1 := by simp [told, h]
      have e2 : p.1 ≤ (turnF p x).1 ∧ (turnF p x).1 ≤ p.1 + 1 := by
        simp only [turnF]
        split <;> simp <;> omega
      rw [e]
      omega
theorem turns_told (row : List Int) : 0 ≤ turns row ∧ turns row ≤ ((told row).length : Int) := by
  have := turnF_fold row (0, 0)
  simpa [turns] using this
theorem told_len (row : List Int) : (told row).length ≤ row.length := List.length_filter_le _ _

theorem least_mem : ∀ (xs : List D) (x : D), leastD x xs ∈ x :: xs
  | [], x => by simp [leastD]
  | y :: ys, x => by
    have h : leastD x (y :: ys) = leastD (if ltD y x then y else x) ys := rfl
    have ih := least_mem ys (if ltD y x then y else x)
    rw [h]
    rw [List.mem_cons] at ih ⊢
    rw [List.mem_cons]
    rcases ih with ih | ih
    · rw [ih]; split
      · exact Or.inr (Or.inl rfl)
      · exact Or.inl rfl
    · exact Or.inr (Or.inr ih)
theorem min_Ts (xs : List (List Int)) (h : xs ≠ []) : ∃ y ∈ xs, minD [.lst (xs.map T)] = some (T y) := by
  cases xs with
  | nil => exact (h rfl).elim
  | cons x xs =>
    have hd : datOk ((x :: xs).map T) = true := by
      simp only [datOk, shs, alikes, List.all_map, Bool.and_eq_true, List.all_eq_true, Function.comp_apply]
      exact ⟨fun _ _ => sh_T _, fun a _ b _ => alike_T a b, fun _ _ => rfl⟩
    have hm := least_mem (xs.map T) (T x)
    rw [← List.map_cons, List.mem_map] at hm
    obtain ⟨y, hy, e⟩ := hm
    refine ⟨y, hy, ?_⟩
    rw [List.map_cons] at hd ⊢
    rw [minD, if_pos hd, e]
theorem turns_pos {row : List Int} (h : row.any nzB = true) : 1 ≤ turns row := by
  have main : ∀ (row : List Int), row.any nzB = true → 1 ≤ (row.foldl turnF (0, 0)).1 := by
    intro row
    induction row with
    | nil => intro h; simp at h
    | cons x xs ih =>
      intro h
      rw [List.foldl_cons]
      by_cases e : x = 0
      · have : turnF (0, 0) x = (0, 0) := by simp [turnF, e]
        rw [this]
        refine ih ?_
        simpa [nzB, e] using h
      · have : turnF (0, 0) x = (1, x) := by simp [turnF, e]
        rw [this]
        exact (turnF_fold xs (1, x)).1
  exact main row h
theorem turns_le (row : List Int) : turns row ≤ row.length := by
  have := (turns_told row).2
  have := told_len row
  omega
theorem sideK_zero (n : Nat) (s : Int) (hs : s ≠ 0) : sideK (zerosI n) s = [] := by
  rw [sideK, List.map_eq_nil_iff, List.filter_eq_nil_iff]
  intro i hi
  rw [List.mem_range] at hi
  have : (zerosI n).getD i 0 = 0 := by
    rw [List.getD_eq_getElem?_getD, List.getElem?_eq_getElem hi]
    simp [zerosI]
  rw [this]
  simp; omega
/-- the lots in a side -/
def spotK (lots : List (List Int)) (side : List Int) : List Nat := (List.range lots.length).filter fun i => within (lots.getD i []) side
theorem spotK_lt {lots : List (List Int)} {side : List Int} {i : Nat} (h : i ∈ spotK lots side) : i < lots.length := by
  have := (List.mem_filter.mp h).1
  simpa using this
theorem spotK_len (lots : List (List Int)) (side : List Int) : (spotK lots side).length ≤ lots.length := by
  have : (spotK lots side).length ≤ (List.range lots.length).length := List.length_filter_le _ _
  simpa using this
/-- the colours of a row's sides -/
def leastK (lots : List (List Int)) (cols : List Int) (row : List Int) : List (List Int) :=
  ((spotK lots (sideK row 1)).map fun i => [cols.getD i 0, 1]) ++ (spotK lots (sideK row (-1))).map fun i => [cols.getD i 0, -1]
theorem by_loop (k n : Nat) (lots : List (List Int)) (cols : List Int) (mo : Int) (M : Cs) (h1 : 1 ≤ n) (h5 : n ≤ 5) (hl : ∀ l ∈ lots, l.length ≤ 1000) (h10 : lots.length ≤ 10) (hc : cols.length = lots.length) (hcr : ∀ x ∈ cols, 0 ≤ x ∧ x ≤ 11) (hm0 : 0 ≤ mo) (hm5 : mo ≤ 5) :
    ∃ (ls : List Int) (y4 y7 y8 y9 y10 : Option D), GoodPage n ls ∧ forGo [] (kt_evS_for_2 ⟨callF P (k + 3), k + 3⟩ (.nm 4) (.cons (.asg (.tp (.cons (.nm 8) (.cons (.nm 9) .nil))) (.tup (.cons (.lst .nil) (.cons (.call ix_law_sides (.cons (.var 4) .nil) .nil []) .nil)))) (.cons (.for_ (.nm 7) (.seq (.tup (.cons (.con (.int 0)) (.cons (.con (.int 1)) .nil)))) (.cons (.asg (.nm 10) (.lc [11] (.var 11) (.nm 11) (.rng (.con (.int 0)) (.blt .len (.cons (.var 6) .nil))) (.one (.tru (.call ix_law_within (.cons (.idx (.var 6) (.var 11)) (.cons (.idx (.var 9) (.var 7)) .nil)) .nil []))))) (.cons (.asg (.nm 8) (.bin .Add (.var 8) (.lc [11] (.tup (.cons (.idx (.var 1) (.var 11)) (.cons (.bin .Sub (.con (.int 1)) (.bin .Mult (.con (.int 2)) (.var 7))) .nil))) (.nm 11) (.seq (.var 10)) .nil))) .nil))) (.cons (.exp (.mut .append (.var 3) (.cons (.ite (.tru (.cmp .Eq (.var 8) (.lst .nil))) (.call ix_law_alternation (.cons (.var 4) .nil) .nil []) (.bin .Mult (.bin .Add (.bin .Add (.var 2) (.con (.int 1))) (.idx (.blt .min (.cons (.var 8) .nil)) (.con (.int 0)))) (.idx (.blt .min (.cons (.var 8) .nil)) (.con (.int 1))))) .nil))) .nil))))
      ((fwdZ n).map T) [some (.tup [.int n, .tup (lots.map T)]), some (T cols), some (.int mo), some (.cell M.length), none, some (.int n), some (.tup (lots.map T)), none, none, none, none, none] (M ++ [some (.lst [])])
      = .nx [some (.tup [.int n, .tup (lots.map T)]), some (T cols), some (.int mo), some (.cell M.length), y4, some (.int n), some (.tup (lots.map T)), y7, y8, y9, y10, none] (M ++ [some (.lst (ls.map .int))]) := by
  have hlen := fwdZ_len n
  have hp : 3 ^ n ≤ 3 ^ 5 := pow3_le h5
  generalize hst : kt_evS_for_2 _ _ _ = st
  obtain ⟨σ', M', e, i⟩ := forGo_ind (ws := []) (step := st)
    (I := fun ds σ M' => ∃ todo : List (List Int), ∃ ls : List Int, ds = todo.map T ∧ (∀ r ∈ todo, r ∈ fwdZ n) ∧ ls.length + todo.length = (fwdZ n).length ∧ (∀ x ∈ ls, -20 ≤ x ∧ x ≤ 20 ∧ x ≠ 0) ∧ M' = M ++ [some (.lst (ls.map .int))] ∧
      ∃ y4 y7 y8 y9 y10, σ = [some (.tup [.int n, .tup (lots.map T)]), some (T cols), some (.int mo), some (.cell M.length), y4, some (.int n), some (.tup (lots.map T)), y7, y8, y9, y10, none]) (by
      rintro d ds σ M1 ⟨todo, ls, hds, hmem, hcnt, hgood, rfl, y4, y7, y8, y9, y10, rfl⟩
      cases todo with
      | nil => simp at hds
      | cons r todo =>
        simp only [List.map_cons, List.cons.injEq] at hds
        obtain ⟨rfl, rfl⟩ := hds
        obtain ⟨hr1, hr2, hr3⟩ := fwdZ_mem (hmem r List.mem_cons_self)
        have hsz : ls.length < sizeLine := by
          simp only [List.length_cons] at hcnt
          show _ < 16777216; omega
        have hsd := law_sides_ok (k + 2) r (M ++ [some (.lst (ls.map .int))]) (by omega)
        have hq1 : ∀ (j : Int) (S A B : List Int) (v8 v10 : Option D), idxD (.tup [T A, T B]) (.int j) = some (T S) → lcGo [] (kt_evE_lc_2 ⟨callF P (k + 3), k + 3⟩ [11] (.var 11) (.nm 11) (.one (.tru (.call ix_law_within (.cons (.idx (.var 6) (.var 11)) (.cons (.idx (.var 9) (.var 7)) .nil)) .nil []))) [some (.tup [.int n, .tup (lots.map T)]), some (T cols), some (.int mo), some (.cell M.length), some (T r), some (.int n), some (.tup (lots.map T)), some (.int j), v8, some (.tup [T A, T B]), v10, none]) (intsD lots.length) [] (M ++ [some (.lst (ls.map .int))]) = .ok ((spotK lots S).map fun i : Nat => .int (i : Int)) (M ++ [some (.lst (ls.map .int))]) := by
          intro j S A B v8 v10 hj
          rw [intsD, lcGo_if (fun i : Nat => .int (i : Int)) (fun i => within (lots.getD i []) S) (fun i : Nat => .int (i : Int))]
          · rw [spotK]
          · intro i hi
            rw [List.mem_range] at hi
            have a1 := atI_get (lots.map T) i (by simpa using hi)
            simp only [List.getElem_map] at a1
            have hg : lots.getD i [] = lots[i] := by rw [List.getD_eq_getElem?_getD, List.getElem?_eq_getElem hi]; rfl
            have hw := law_within_ok (k + 2) lots[i] S (M ++ [some (.lst (ls.map .int))]) (hl _ (List.getElem_mem hi))
            simp at hj
            rw [hg]
            simp [a1, hj, hw]
            cases within lots[i] S <;> rfl
          · rw [List.length_range]; exact small (by omega)
        have hq2 : ∀ (j s : Int) (S A B : List Int) (v8 v9 v10 : Option D), s = 1 - 2 * j → lcGo [] (kt_evE_lc_2 ⟨callF P (k + 3), k + 3⟩ [11] (.tup (.cons (.idx (.var 1) (.var 11)) (.cons (.bin .Sub (.con (.int 1)) (.bin .Mult (.con (.int 2)) (.var 7))) .nil))) (.nm 11) .nil [some (.tup [.int n, .tup (lots.map T)]), some (T cols), some (.int mo), some (.cell M.length), some (T r), some (.int n), some (.tup (lots.map T)), some (.int j), v8, v9, v10, none]) ((spotK lots S).map fun i : Nat => .int (i : Int)) [] (M ++ [some (.lst (ls.map .int))]) = .ok (((spotK lots S).map fun i => [cols.getD i 0, s]).map T) (M ++ [some (.lst (ls.map .int))]) := by
          intro j s S A B v8 v9 v10 hs
          rw [lcGo_one (fun i : Nat => .int (i : Int)) (fun i => T [cols.getD i 0, s])]
          · simp [Function.comp_def]
          · intro i hi
            have hi2 := spotK_lt hi
            have a1 := atI_get cols i (by omega)
            have hg : cols.getD i 0 = cols[i] := by rw [List.getD_eq_getElem?_getD, List.getElem?_eq_getElem (by omega)]; rfl
            subst hs
            rw [hg, show T [cols[i], 1 - 2 * j] = .tup [.int cols[i], .int (1 - 2 * j)] from rfl]
            simp [a1, mulI 2 j (Or.inl (by decide))]
          · have := spotK_len lots S; exact small (by omega)
        have hK : leastK lots cols r = ((spotK lots (sideK r 1)).map fun i => [cols.getD i 0, 1]) ++ (spotK lots (sideK r (-1))).map fun i => [cols.getD i 0, -1] := rfl
        have l1 := spotK_len lots (sideK r 1)
        have l2 := spotK_len lots (sideK r (-1))
        have ad1 := add_lst' [] (((spotK lots (sideK r 1)).map fun i => [cols.getD i 0, 1]).map T) (small (by simp; omega))
        have ad2 := add_lst' (((spotK lots (sideK r 1)).map fun i => [cols.getD i 0, 1]).map T) (((spotK lots (sideK r (-1))).map fun i => [cols.getD i 0, -1]).map T) (small (by simp; omega))
        rw [← List.map_append, ← hK] at ad2
        obtain ⟨x, hx, hev⟩ : ∃ x : Int, (-20 ≤ x ∧ x ≤ 20 ∧ x ≠ 0) ∧ ∀ (v7 v9 v10 : Option D), evE ⟨callF P (k + 3), k + 3⟩ (.ite (.tru (.cmp .Eq (.var 8) (.lst .nil))) (.call ix_law_alternation (.cons (.var 4) .nil) .nil []) (.bin .Mult (.bin .Add (.bin .Add (.var 2) (.con (.int 1))) (.idx (.blt .min (.cons (.var 8) .nil)) (.con (.int 0)))) (.idx (.blt .min (.cons (.var 8) .nil)) (.con (.int 1))))) [some (.tup [.int n, .tup (lots.map T)]), some (T cols), some (.int mo), some (.cell M.length), some (T r), some (.int n), some (.tup (lots.map T)), v7, some (.lst ((leastK lots cols r).map T)), v9, v10, none] (M ++ [some (.lst (ls.map .int))]) = .ok (.int x) (M ++ [some (.lst (ls.map .int))]) := by
          by_cases he : leastK lots cols r = []
          · have := turns_pos hr3
            have := turns_le r
            refine ⟨turns r, by omega, ?_⟩
            intro v7 v9 v10
            have hnil : cmpD .Eq (.lst []) (.lst []) = some true := by rw [cmp_eq_c 1 (by simp) (by simp) (by omega)]; simp
            simp [he, hnil, law_alternation_ok]
          · obtain ⟨y, hy, hmin⟩ := min_Ts _ he
            have hy2 : ∃ c s : Int, y = [c, s] ∧ 0 ≤ c ∧ c ≤ 11 ∧ (s = 1 ∨ s = -1) := by
              have hcol : ∀ S, ∀ i ∈ spotK lots S, 0 ≤ cols.getD i 0 ∧ cols.getD i 0 ≤ 11 := fun S i hi => by
                have := spotK_lt hi
                rw [List.getD_eq_getElem?_getD, List.getElem?_eq_getElem (by omega)]
                exact hcr _ (List.getElem_mem _)
              rw [hK, List.mem_append, List.mem_map, List.mem_map] at hy
              rcases hy with ⟨i, hi, rfl⟩ | ⟨i, hi, rfl⟩
              · exact ⟨_, _, rfl, (hcol _ i hi).1, (hcol _ i hi).2, Or.inl rfl⟩
              · exact ⟨_, _, rfl, (hcol _ i hi).1, (hcol _ i hi).2, Or.inr rfl⟩
            obtain ⟨c, s, rfl, hc0, hc1, hs⟩ := hy2
            have hcm : cmpD .Eq (.lst ((leastK lots cols r).map T)) (.lst []) = some false := by
              rw [cmp_eq_c 2 (by simp) (by simp) (by omega)]
              simpa using he
            have hm := mulI (mo + 1 + c) s (Or.inr (by simp only [big]; rcases hs with h | h <;> rw [h] <;> omega))
            refine ⟨(mo + 1 + c) * s, by rcases hs with h | h <;> rw [h] <;> omega, ?_⟩
            intro v7 v9 v10
            simp [hcm, hmin, hm, T]
        refine ⟨[some (.tup [.int n, .tup (lots.map T)]), some (T cols), some (.int mo), some (.cell M.length), some (T r), some (.int n), some (.tup (lots.map T)), some (.int 1), some (.lst ((leastK lots cols r).map T)), some (.tup [T (sideK r 1), T (sideK r (-1))]), some (.lst ((spotK lots (sideK r (-1))).map fun i : Nat => .int (i : Int))), none], M ++ [some (.lst ((ls ++ [x]).map .int))], Or.inl ?_, by simp, todo, _, rfl, fun r hr => hmem r (List.mem_cons_of_mem _ hr), by simp only [List.length_append, List.length_singleton]; simp only [List.length_cons] at hcnt; omega, ?_, rfl, _, _, _, _, _, rfl⟩
        · subst hst
          have r0 := rng0 lots.length (by omega)
          have q10 := fun v8 v10 => hq1 0 (sideK r 1) (sideK r 1) (sideK r (-1)) v8 v10 (by simp)
          have q11 := fun v8 v10 => hq1 1 (sideK r (-1)) (sideK r 1) (sideK r (-1)) v8 v10 (by simp)
          have q20 := fun v8 v9 v10 => hq2 0 1 (sideK r 1) [] [] v8 v9 v10 (by omega)
          have q21 := fun v8 v9 v10 => hq2 1 (-1) (sideK r (-1)) [] [] v8 v9 v10 (by omega)
          obtain ⟨X1, hX1⟩ : ∃ X1, X1 = (spotK lots (sideK r 1)).map fun i => [cols.getD i 0, (1 : Int)] := ⟨_, rfl⟩
          obtain ⟨X2, hX2⟩ : ∃ X2, X2 = (spotK lots (sideK r (-1))).map fun i => [cols.getD i 0, (-1 : Int)] := ⟨_, rfl⟩
          rw [← hX1] at q20 ad1 ad2
          rw [← hX2] at q21 ad2
          rw [List.nil_append] at ad1
          obtain ⟨Y1, hY1⟩ : ∃ Y1, Y1 = (spotK lots (sideK r 1)).map fun i : Nat => D.int (i : Int) := ⟨_, rfl⟩
          obtain ⟨Y2, hY2⟩ : ∃ Y2, Y2 = (spotK lots (sideK r (-1))).map fun i : Nat => D.int (i : Int) := ⟨_, rfl⟩
          rw [← hY1] at q20 q10
          rw [← hY2] at q21 q11 ⊢
          simp [hsd, forGo_c, forGo_n, r0, q10, q11, q20, q21, ad1, ad2, hev, hsz, -evE_ite]
        · intro y hy
          rw [List.mem_append, List.mem_singleton] at hy
          rcases hy with hy | rfl
          · exact hgood y hy
          · exact hx) ((fwdZ n).map T) _ (M ++ [some (.lst [])])
    ⟨fwdZ n, [], rfl, fun r hr => hr, by simp, by simp, rfl, none, none, none, none, none, rfl⟩
  obtain ⟨todo, ls, hds, _, hcnt, hgood, rfl, y4, y7, y8, y9, y10, rfl⟩ := i
  have : todo = [] := by simpa using hds.symm
  subst this
  exact ⟨ls, y4, y7, y8, y9, y10, ⟨h1, h5, by simpa using hcnt, hgood⟩, e⟩
theorem by_colours_ok (k n : Nat) (lots : List (List Int)) (cols : List Int) (M : Cs) (h1 : 1 ≤ n) (h5 : n ≤ 5) (hl : lotsOk n lots) (h10 : lots.length ≤ 10) (hc : cols.length = lots.length) (hcr : ∀ x ∈ cols, 0 ≤ x ∧ x ≤ 11) :
    ∃ ls : List Int, GoodPage n ls ∧ callF P (k + 4) ix_law_by_colours [FmW n lots, T cols] M = .ok (Pg n ls) M := by
  have hlen := fwdZ_len n
  have hp : 3 ^ n ≤ 3 ^ 5 := pow3_le h5
  have hl2 : ∀ l ∈ lots, l.length ≤ 1000 := fun l hl' => by have := (hl l hl').2.1; omega
  have hrl : (rowsAll n).length ≤ 1000 := by
    rw [rowsAll, sortR_len]
    have hv : (vecZ n).length ≤ (rowsZ n).length := List.length_filter_le _ _
    rw [rowsZ_len] at hv
    simp; omega
  -- the greatest alternation
  obtain ⟨mo, hmo0, hmo5, hmo⟩ : ∃ mo : Int, 0 ≤ mo ∧ mo ≤ 5 ∧ ∀ (v2 v3 v4 v7 v8 v9 v10 v11 : Option D) (M1 : Cs), evE ⟨callF P (k + 3), k + 3⟩ (.blt .max (.cons (.lc [4] (.call ix_law_alternation (.cons (.var 4) .nil) .nil []) (.nm 4) (.seq (.call ix_law_rows (.cons (.var 5) .nil) .nil [])) (.one (.tru (.cmp .NotIn (.con (.bl true)) (.call ix_law_held (.cons (.var 6) (.cons (.var 4) .nil)) .nil []))))) .nil)) [some (FmW n lots), some (T cols), v2, v3, v4, some (.int n), some (.tup (lots.map T)), v7, v8, v9, v10, v11] M1 = .ok (.int mo) M1 := by
    obtain ⟨fr, hfr⟩ : ∃ fr, fr = (rowsAll n).filter fun r => !(heldB lots r 1 || heldB lots r (-1)) := ⟨_, rfl⟩
    have hz : zerosI n ∈ fr := by
      rw [hfr, List.mem_filter]
      refine ⟨rowsAll_mem.mpr (Or.inr rfl), ?_⟩
      have : ∀ s : Int, s ≠ 0 → heldB lots (zerosI n) s = false := fun s hs => by
        rw [heldB, List.any_eq_false]
        intro l hl'
        rw [sideK_zero n s hs]
        obtain ⟨a, _, _⟩ := hl l hl'
        cases l with
        | nil => exact (a rfl).elim
        | cons x xs => simp [within]
      rw [this 1 (by omega), this (-1) (by omega)]; rfl
    have hne : fr ≠ [] := List.ne_nil_of_mem hz
    refine ⟨mostI (fr.map turns), ?_, ?_, ?_⟩
    · have := mostI_ge (fr.map turns) _ (List.mem_map_of_mem hz)
      have := (turns_told (zerosI n)).1
      omega
    · have := mostI_mem (fr.map turns) (by simpa using hne)
      rw [List.mem_map] at this
      obtain ⟨r, hr, e⟩ := this
      rw [hfr, List.mem_filter] at hr
      have := rowsAll_len hr.1
      have := turns_le r
      omega
    · intro v2 v3 v4 v7 v8 v9 v10 v11 M1
      simp [law_rows_ok (k + 1) n M1 h1 h5]
      rw [lcGo_if T (fun r => !(heldB lots r 1 || heldB lots r (-1))) (fun r => .int (turns r))]
      · rw [← hfr]
        simp [max_map turns fr hne]
      · intro r hr
        have := rowsAll_len hr
        have hh := law_held_ok (k + 1) lots r M1 (by omega) (by omega) hl2
        simp [hh, in_bools, law_alternation_ok]
        cases heldB lots r 1 <;> cases heldB lots r (-1) <;> simp
      · exact small (by omega)
  rw [call_eq (F := mf_law_by_colours) rfl rfl]
  simp only [FmW] at hmo ⊢
  have hfo := fun M1 => law_fore_ok (k + 1) n M1 h1 h5
  simp [m_law_by_colours, hmo, hfo, -evE_blt]
  obtain ⟨ls, y4, y7, y8, y9, y10, g, e⟩ := by_loop k n lots cols mo M h1 h5 hl2 h10 hc hcr hmo0 hmo5
  refine ⟨ls, g, ?_⟩
  have htu : tupleD [.lst (ls.map .int)] = some (T ls) := rfl
  simp [e, Pg, htu]

theorem fwd_pos {n : Nat} (h : 1 ≤ n) : 1 ≤ (fwdZ n).length := by
  have hv : isVec n (1 :: List.replicate (n - 1) 0) := by
    refine ⟨by simp; omega, fun x hx => ?_, by simp [nzB]⟩
    rw [List.mem_cons, List.mem_replicate] at hx
    rcases hx with rfl | ⟨_, rfl⟩ <;> omega
  exact List.length_pos_of_mem (hv.fwd (by simp [fsgn, toldR, nzB]))
theorem page_ok (k c n : Nat) (M : Cs) (h : IsBag M c) (h1 : 1 ≤ n) (h5 : n ≤ 5) (hk : 50 ≤ k) (hk2 : k ≤ 80000) : ∃ (ls : List Int) (M' : Cs), GoodPage n ls ∧ Bm c M M' ∧ IsBag M' c ∧ callF P (k + 6) ix_law_page [.cell c, .int n] M = .ok (Pg n ls) M' := by
  have hlen := fwdZ_len n
  have hp : 3 ^ n ≤ 3 ^ 5 := pow3_le h5
  have hcl := h.lt
  have hfo := fun M1 => law_fore_ok (k + 3) n M1 h1 h5
  obtain ⟨way, M1, hw0, hw8, b1, g1, e1⟩ : ∃ (way : Int) (M1 : Cs), 0 ≤ way ∧ way < 8 ∧ Bm c M M1 ∧ IsBag M1 c ∧ ∀ (v2 v3 v4 v5 v6 v7 v8 : Option D), evE ⟨callF P (k + 5), k + 5⟩ (.call ix_law_draw (.cons (.var 0) (.cons (.ite (.tru (.cmp .Lt (.var 1) (.con (.int 5)))) (.con (.int 8)) (.con (.int 4))) .nil)) .nil []) [some (.cell c), some (.int n), v2, v3, v4, v5, v6, v7, v8] M = .ok (.int way) M1 := by
    by_cases hn : (n : Int) < 5
    · obtain ⟨d, M1, a, b, c1, g, e⟩ := draw_ok' (k + 4) c 8 M h (by omega) (by omega)
      have : n < 5 := by omega
      exact ⟨d, M1, a, b, c1, g, fun v2 v3 v4 v5 v6 v7 v8 => by simp [hn, this, e]⟩
    · obtain ⟨d, M1, a, b, c1, g, e⟩ := draw_ok' (k + 4) c 4 M h (by omega) (by omega)
      have : ¬ n < 5 := by omega
      exact ⟨d, M1, a, by omega, c1, g, fun v2 v3 v4 v5 v6 v7 v8 => by simp [hn, this, e]⟩
  have hL1 : M1.length = M.length := b1.len
  rw [call_eq (F := mf_law_page) rfl rfl]
  by_cases w2 : way < 2
  · obtain ⟨ls, M2, gp, b2, g2, e2⟩ := moved_ok (k + 1) c n M1 g1 h1 h5 (by omega) (by omega)
    refine ⟨ls, M2, gp, b1.trans b2, g2, ?_⟩
    simp [m_law_page, e1, w2, -evE_call]
    simp [e2]
    rw [← (b1.trans b2).len]
    simp [Pg]
  by_cases w4 : way < 4
  · obtain ⟨lots, M2, hlo, hl1, hl10, b2, g2, e2⟩ := law_family_ok (k + 2) c n M1 g1 h1 h5 (by omega) (by omega)
    obtain ⟨cols, M3, hc, hcr, b3, g3, e3⟩ := coloured_ok (k + 2) c lots M2 g2 hl1 hl10 (fun l hl => by have := (hlo l hl).2.1; omega) (by omega) (by omega)
    obtain ⟨ls, gp, e4⟩ := by_colours_ok (k + 1) n lots cols M3 h1 h5 hlo hl10 hc hcr
    refine ⟨ls, M3, gp, b1.trans (b2.trans b3), g3, ?_⟩
    simp [m_law_page, e1, w2, w4, -evE_call]
    have hF0 : idxD (FmW n lots) (.int 1) = some (.tup (lots.map T)) := by simp [FmW]
    have hFr : ∀ M, rd M (FmW n lots) = some (FmW n lots) := fun _ => rfl
    simp [e2, e3, e4, hF0, hFr]
    rw [← (b1.trans (b2.trans b3)).len]
    simp [Pg]
  by_cases w6 : way < 6
  · obtain ⟨ls, M2, gp, b2, g2, e2⟩ := mended_ok k c n M1 g1 h1 h5
    refine ⟨ls, M2, gp, b1.trans b2, g2, ?_⟩
    simp [m_law_page, e1, w2, w4, w6, -evE_call]
    simp [e2]
    rw [← (b1.trans b2).len]
    simp [Pg]
  by_cases w7 : way = 6
  · obtain ⟨v, M2, hv, b2, g2, e2⟩ := one_ok (k + 3) c [.int 1, .int n, .int ((n : Int) + 2), .int 20] M1 g1 (by simp) (by simp) (by simp)
    have : ∃ tv : Int, v = .int tv ∧ 1 ≤ tv ∧ tv ≤ 20 := by
      simp only [List.mem_cons, List.not_mem_nil, or_false] at hv
      rcases hv with rfl | rfl | rfl | rfl
      · exact ⟨_, rfl, by omega, by omega⟩
      · exact ⟨_, rfl, by omega, by omega⟩
      · exact ⟨_, rfl, by omega, by omega⟩
      · exact ⟨_, rfl, by omega, by omega⟩
    obtain ⟨tv, rfl, ht1, ht20⟩ := this
    obtain ⟨vs, M3, l3, q3, b3, g3, e3⟩ := lcGo_bag (fun i : Nat => .int (i : Int)) (fun v => ∃ i : Int, v = .int i ∧ labOk i) c (List.range (fwdZ n).length) M2 g2 (step := kt_evE_lc_2 ⟨callF P (k + 5), k + 5⟩ [8] (.bin .Mult (.call ix_law_one (.cons (.var 0) (.cons (.tup (.cons (.con (.int 1)) (.cons (.neg (.con (.int 1))) .nil))) .nil)) .nil []) (.bin .Add (.con (.int 1)) (.call ix_law_draw (.cons (.var 0) (.cons (.var 5) .nil)) .nil []))) (.nm 8) .nil [some (.cell c), some (.int n), some (.int way), some (.int (fwdZ n).length), none, some (.int tv), none, none, none]) (by
      intro a _ M hb
      obtain ⟨x, M1, hx, b1, g1, e1⟩ := lab_ev (k + 3) c (.var 5) (.tup (.cons (.con (.int 1)) (.cons (.neg (.con (.int 1))) .nil))) [some (.cell c), some (.int n), some (.int way), some (.int (fwdZ n).length), none, some (.int tv), none, none, some (.int a)] rfl [1, -1] tv M hb ht1 ht20 (by simp) (by simp [pm1]) (by simp) (fun M => by simp) (fun M => by simp [T])
      refine ⟨.int x, M1, ⟨x, rfl, hx⟩, b1, ?_⟩
      simp [e1, -evE_bin]) (by rw [List.length_range]; exact small (by omega))
    obtain ⟨is, rfl, hi⟩ := ints_of q3
    have hil : is.length = (fwdZ n).length := by simpa using l3
    refine ⟨is, M3, ⟨h1, h5, hil, hi⟩, b1.trans (b2.trans b3), g3, ?_⟩
    subst w7
    simp [m_law_page, e1, -evE_call]
    have rr := rng0 (fwdZ n).length (by omega)
    have htu : tupleD [.lst (is.map .int)] = some (T is) := rfl
    have e3' : lcGo [] _ (intsD (fwdZ n).length) [] M2 = _ := e3
    simp [hfo, e2, rr, e3', htu]
    rw [← (b1.trans (b2.trans b3)).len]
    simp [Pg]
  · obtain ⟨ls, M2, gp, b2, g2, e2⟩ := moved_ok (k + 1) c n M1 g1 h1 h5 (by omega) (by omega)
    have hpos : 1 ≤ (fwdZ n).length := fwd_pos h1
    obtain ⟨d, M3, d0, d1, b3, g3, e3⟩ := draw_ok' (k + 4) c (fwdZ n).length M2 g2 (by omega) (by omega)
    obtain ⟨j, rfl⟩ : ∃ j : Nat, d = j := ⟨d.toNat, by omega⟩
    obtain ⟨x, M4, hx, b4, g4, e4⟩ := lab_ev (k + 3) c (.bin .Add (.var 1) (.con (.int 1))) (.tup (.cons (.con (.int 1)) (.cons (.neg (.con (.int 1))) .nil))) [some (.cell c), some (.int n), some (.int way), some (.int (fwdZ n).length), none, none, some (Pg n ls), some (.int j), none] rfl [1, -1] ((n : Int) + 1) M3 g3 (by omega) (by omega) (by simp) (by simp [pm1]) (by simp) (fun M => by simp) (fun M => by simp [T])
    have hjl : j < ls.length := by rw [gp.ln]; omega
    refine ⟨ls.take j ++ [x] ++ ls.drop (j + 1), M4, ⟨h1, h5, ?_, ?_⟩, b1.trans (b2.trans (b3.trans b4)), g4, ?_⟩
    · have := gp.ln
      simp only [List.length_append, List.length_take, List.length_drop, List.length_singleton]
      omega
    · intro y hy
      simp only [List.mem_append, List.mem_singleton] at hy
      rcases hy with (hy | rfl) | hy
      · exact gp.rg y (List.mem_of_mem_take hy)
      · exact hx
      · exact gp.rg y (List.mem_of_mem_drop hy)
    · have s1 : slcD (T ls) (ptD none) (ptD (some (j : Int))) .non = some (T (ls.take j)) := by
        rw [slc_T, cut_to _ _ (by omega)]; simp
      have s2 : slcD (T ls) (ptD (some ((j : Int) + 1))) (ptD none) .non = some (T (ls.drop (j + 1))) := by
        rw [slc_T, show ((j : Int) + 1) = ((j + 1 : Nat) : Int) by omega, cut_from]
      have hls := gp.small
      have t1 := add_TT (ls.take j) [x] (by simp; omega)
      have t2 := add_TT (ls.take j ++ [x]) (ls.drop (j + 1)) (by simp; omega)
      rw [show T [x] = .tup [.int x] from rfl] at t1
      simp [m_law_page, e1, w2, w4, w6, w7, -evE_call]
      simp at e4
      simp [hfo, w7, e2, e3, e4, s1, s2, intD?, t1, t2]
      exact ⟨rfl, (b1.trans (b2.trans (b3.trans b4))).tk⟩

/-- number by number: 0 or alike -/
def ge (r s : List Int) : Prop := r.length = s.length ∧ ∀ j, r.getD j 0 = 0 ∨ r.getD j 0 = s.getD j 0
theorem ge_refl (r : List Int) : ge r r := ⟨rfl, fun _ => Or.inr rfl⟩
theorem ge_trans {r s t : List Int} (h : ge r s) (h2 : ge s t) : ge r t := by
  refine ⟨h.1.trans h2.1, fun j => ?_⟩
  rcases h.2 j with e | e
  · exact Or.inl e
  · rcases h2.2 j with f | f
    · exact Or.inl (e.trans f)
    · exact Or.inr (e.trans f)
theorem ge_lead {r s : List Int} (h : ge r s) (ne : r ≠ s) : leadB r s = true := by
  rw [leadB, Bool.and_eq_true]
  refine ⟨by simpa using ne, ?_⟩
  rw [List.all_eq_true]
  intro p hp
  obtain ⟨j, hj, rfl⟩ := List.getElem_of_mem hp
  rw [List.length_zip] at hj
  have := h.2 j
  rw [List.getD_eq_getElem?_getD, List.getElem?_eq_getElem (by omega), List.getD_eq_getElem?_getD, List.getElem?_eq_getElem (by omega)] at this
  rw [List.getElem_zip]
  simpa using this
theorem set_is (r : List Int) (i : Nat) (v : Int) (h : i < r.length) : r.take i ++ [v] ++ r.drop (i + 1) = r.set i v := by
  rw [List.set_eq_take_append_cons_drop, if_pos h]
  simp
theorem above_mem {r s : List Int} (hr : ∀ x ∈ r, -1 ≤ x ∧ x ≤ 1) (h : s ∈ aboveZ r) : ge r s ∧ (∀ x ∈ s, -1 ≤ x ∧ x ≤ 1) ∧ s.any nzB = true := by
  rw [aboveZ, List.mem_flatMap] at h
  obtain ⟨i, hi, h⟩ := h
  rw [List.mem_range] at hi
  by_cases e : r.getD i 0 = 0
  · rw [if_pos e] at h
    obtain ⟨v, hv, rfl⟩ : ∃ v : Int, (v = -1 ∨ v = 1) ∧ s = r.set i v := by
      rw [List.mem_cons, List.mem_cons] at h
      rcases h with rfl | rfl | h
      · exact ⟨-1, Or.inl rfl, set_is r i _ hi⟩
      · exact ⟨1, Or.inr rfl, set_is r i _ hi⟩
      · simp at h
    refine ⟨⟨by simp, fun j => ?_⟩, fun x hx => ?_, ?_⟩
    · by_cases hj : j = i
      · subst hj
        exact Or.inl e
      · refine Or.inr ?_
        rw [List.getD_eq_getElem?_getD, List.getD_eq_getElem?_getD, List.getElem?_set_ne (fun e => hj e.symm)]
    · rcases List.mem_or_eq_of_mem_set hx with hx | rfl
      · exact hr x hx
      · omega
    · rw [List.any_eq_true]
      refine ⟨v, List.mem_set hi v, ?_⟩
      rcases hv with rfl | rfl <;> simp [nzB]
  · rw [if_neg e] at h
    simp at h
theorem above_ne {n : Nat} (h : 1 ≤ n) : aboveZ (zerosI n) ≠ [] := by
  refine List.ne_nil_of_mem (a := (zerosI n).take 0 ++ [-1] ++ (zerosI n).drop 1) ?_
  rw [aboveZ, List.mem_flatMap]
  refine ⟨0, by simp [zerosI]; omega, ?_⟩
  have : (zerosI n).getD 0 0 = 0 := by
    rw [List.getD_eq_getElem?_getD, List.getElem?_eq_getElem (by simp [zerosI]; omega)]
    simp [zerosI]
  rw [if_pos this]
  exact List.mem_cons_self
theorem above_ne' {r : List Int} (h : ¬ r.any nzB = true) (hl : 1 ≤ r.length) : aboveZ r ≠ [] := by
  have : r = zerosI r.length := by
    refine List.eq_replicate_iff.mpr ⟨rfl, fun x hx => ?_⟩
    by_cases e : x = 0
    · exact e
    · exact (h (List.any_eq_true.mpr ⟨x, hx, by simp [nzB, e]⟩)).elim
  rw [this]
  exact above_ne hl
theorem beside_two (f : D → D → Bool) (x y : D) (r : List D) : beside f (x :: y :: r) = (f x y && beside f (y :: r)) := by simp [beside]
theorem beside_snoc (f : D → D → Bool) : ∀ (xs : List D) (l y : D), beside f (xs ++ [l]) = true → f l y = true → beside f (xs ++ [l] ++ [y]) = true
  | [], l, y, _, h => by simp [beside, h]
  | [x], l, y, h, h2 => by
    simp only [List.cons_append, List.nil_append, beside_two, Bool.and_eq_true] at h ⊢
    exact ⟨h.1, h2, by simp [beside]⟩
  | x :: z :: xs, l, y, h, h2 => by
    have ih := beside_snoc f (z :: xs) l y
    simp only [List.cons_append, beside_two, Bool.and_eq_true] at h ih ⊢
    exact ⟨h.1, ih h.2 h2⟩
theorem len_above (r : List Int) : (aboveZ r).length ≤ r.length * 2 := by
  have : ∀ xs : List Nat, (xs.flatMap fun i => if r.getD i 0 = 0 then [r.take i ++ [-1] ++ r.drop (i + 1), r.take i ++ [1] ++ r.drop (i + 1)] else []).length ≤ xs.length * 2 := by
    intro xs
    induction xs with
    | nil => simp
    | cons x xs ih =>
      rw [List.flatMap_cons, List.length_append, List.length_cons]
      split <;> simp at * <;> omega
  have h := this (List.range r.length)
  rw [List.length_range] at h
  exact h
theorem chain_inner (k c n m : Nat) (M : Cs) (r0 : List Int) (ch : D) (v2 v5 v6 : Option D) (h : IsBag M c) (h1 : 1 ≤ n) (h5 : n ≤ 5) (hl : r0.length = n) (hr : ∀ x ∈ r0, -1 ≤ x ∧ x ≤ 1) (hm : 1 ≤ m) :
    ∃ (r : List Int) (M' : Cs) (y5 y6 : Option D), isVec n r ∧ ge r0 r ∧ Bm c M M' ∧ IsBag M' c ∧ forGo [] (kt_evS_for_2 ⟨callF P (k + 2), k + 2⟩ (.nm 5) (.cons (.asg (.nm 6) (.call ix_law_above (.cons (.var 4) .nil) .nil [])) (.cons (.asg (.nm 4) (.ite (.tru (.cmp .NotEq (.var 6) (.lst .nil))) (.call ix_law_one (.cons (.var 0) (.cons (.var 6) .nil)) .nil []) (.var 4))) .nil))) (intsD m) [some (.cell c), some (.int n), v2, some ch, some (T r0), v5, v6] M = .nx [some (.cell c), some (.int n), v2, some ch, some (T r), y5, y6] M' := by
  obtain ⟨σ', M', e, i⟩ := forGo_ind (ws := []) (step := kt_evS_for_2 ⟨callF P (k + 2), k + 2⟩ (.nm 5) (.cons (.asg (.nm 6) (.call ix_law_above (.cons (.var 4) .nil) .nil [])) (.cons (.asg (.nm 4) (.ite (.tru (.cmp .NotEq (.var 6) (.lst .nil))) (.call ix_law_one (.cons (.var 0) (.cons (.var 6) .nil)) .nil []) (.var 4))) .nil)))
    (I := fun ds σ M' => ∃ (r : List Int) (y5 y6 : Option D), r.length = n ∧ (∀ x ∈ r, -1 ≤ x ∧ x ≤ 1) ∧ (ds.length < m → r.any nzB = true) ∧ ge r0 r ∧ Bm c M M' ∧ IsBag M' c ∧ σ = [some (.cell c), some (.int n), v2, some ch, some (T r), y5, y6]) (by
      rintro d ds σ M1 ⟨r, y5, y6, hrl, hrr, hrn, hge, hB, g, rfl⟩
      have e1 := law_above_ok (k + 1) r M1 (by omega)
      have hcm : cmpD .NotEq (.lst ((aboveZ r).map T)) (.lst []) = some (!decide (aboveZ r = [])) := by
        rw [cmp_ne_c 2 (by simp) (by simp) (by omega)]
        simp
      by_cases ha : aboveZ r = []
      · have hn : r.any nzB = true := by
          by_cases hn : r.any nzB = true
          · exact hn
          · exact (above_ne' hn (by omega) ha).elim
        refine ⟨[some (.cell c), some (.int n), v2, some ch, some (T r), some d, some (.lst [])], M1, Or.inl ?_, by simp, r, _, _, hrl, hrr, fun _ => hn, hge, hB, g, rfl⟩
        rw [ha] at e1 hcm
        simp at hcm
        simp [e1, hcm]
      · have hal := len_above r
        obtain ⟨v, M2, hv, b2, g2, e2⟩ := one_ok_l k c ((aboveZ r).map T) M1 g (by simpa using ha) (by simp; omega) (by simp)
        rw [List.mem_map] at hv
        obtain ⟨s, hs, rfl⟩ := hv
        obtain ⟨a1, a2, a3⟩ := above_mem hrr hs
        refine ⟨[some (.cell c), some (.int n), v2, some ch, some (T s), some d, some (.lst ((aboveZ r).map T))], M2, Or.inl ?_, by simp, s, _, _, by rw [← a1.1]; exact hrl, a2, fun _ => a3, ge_trans hge a1, hB.trans b2, g2, rfl⟩
        have ha2 : decide (aboveZ r = []) = false := by simpa using ha
        rw [ha2] at hcm
        simp at hcm
        simp [e1, hcm, e2]) (intsD m) [some (.cell c), some (.int n), v2, some ch, some (T r0), v5, v6] M
    ⟨r0, v5, v6, hl, hr, by simp [intsD], ge_refl _, Bm.refl h, h, rfl⟩
  obtain ⟨r, y5, y6, hrl, hrr, hrn, hge, hB, g, rfl⟩ := i
  exact ⟨r, M', y5, y6, ⟨hrl, hrr, hrn (by simp; omega)⟩, hge, hB, g, e⟩
theorem chain_outer (k c n m : Nat) (M : Cs) (h : IsBag M c) (h1 : 1 ≤ n) (h5 : n ≤ 5) (hm : 1 ≤ m) (hm5 : m ≤ 5) :
    ∃ (rows : List (List Int)) (r : List Int) (M' : Cs) (y2 y5 y6 : Option D), rows ≠ [] ∧ rows.length ≤ m ∧ (∀ r ∈ rows, isVec n r) ∧ beside leadD (rows.map T) = true ∧ Bm c M M' ∧ IsBag M' c ∧ forGo [] (kt_evS_for_2 ⟨callF P (k + 3), k + 3⟩ (.nm 2) (.cons (.for_ (.nm 5) (.rng (.con (.int 0)) (.bin .Add (.con (.int 1)) (.call ix_law_draw (.cons (.var 0) (.cons (.con (.int 2)) .nil)) .nil []))) (.cons (.asg (.nm 6) (.call ix_law_above (.cons (.var 4) .nil) .nil [])) (.cons (.asg (.nm 4) (.ite (.tru (.cmp .NotEq (.var 6) (.lst .nil))) (.call ix_law_one (.cons (.var 0) (.cons (.var 6) .nil)) .nil []) (.var 4))) .nil))) (.cons (.ite (.tru (.cmp .NotIn (.var 4) (.var 3))) (.cons (.asg (.nm 3) (.bin .Add (.var 3) (.tup (.cons (.var 4) .nil)))) .nil) .nil) .nil))) (intsD m) [some (.cell c), some (.int n), none, some (.tup []), some (T (zerosI n)), none, none] M = .nx [some (.cell c), some (.int n), y2, some (.tup (rows.map T)), some (T r), y5, y6] M' := by
  obtain ⟨σ', M', e, i⟩ := forGo_ind (ws := []) (step := kt_evS_for_2 ⟨callF P (k + 3), k + 3⟩ (.nm 2) (.cons (.for_ (.nm 5) (.rng (.con (.int 0)) (.bin .Add (.con (.int 1)) (.call ix_law_draw (.cons (.var 0) (.cons (.con (.int 2)) .nil)) .nil []))) (.cons (.asg (.nm 6) (.call ix_law_above (.cons (.var 4) .nil) .nil [])) (.cons (.asg (.nm 4) (.ite (.tru (.cmp .NotEq (.var 6) (.lst .nil))) (.call ix_law_one (.cons (.var 0) (.cons (.var 6) .nil)) .nil []) (.var 4))) .nil))) (.cons (.ite (.tru (.cmp .NotIn (.var 4) (.var 3))) (.cons (.asg (.nm 3) (.bin .Add (.var 3) (.tup (.cons (.var 4) .nil)))) .nil) .nil) .nil)))
    (I := fun ds σ M' => ∃ (rows : List (List Int)) (r : List Int) (y2 y5 y6 : Option D), r.length = n ∧ (∀ x ∈ r, -1 ≤ x ∧ x ≤ 1) ∧ (ds.length < m → rows ≠ []) ∧ rows.length + ds.length ≤ m ∧ (∀ r ∈ rows, isVec n r) ∧ beside leadD (rows.map T) = true ∧ (rows = [] ∨ ∃ pre l, rows = pre ++ [l] ∧ ge l r) ∧ Bm c M M' ∧ IsBag M' c ∧ σ = [some (.cell c), some (.int n), y2, some (.tup (rows.map T)), some (T r), y5, y6]) (by
      rintro d ds σ M1 ⟨rows, r, y2, y5, y6, hrl, hrr, hne, hlen, hvec, hbes, hlast, hB, g, rfl⟩
      rw [List.length_cons] at hlen
      obtain ⟨d', M2, a2, b2, c2, g2, e2⟩ := draw_ok' (k + 2) c 2 M1 g (by omega) (by omega)
      obtain ⟨j, rfl⟩ : ∃ j : Nat, d' = j := ⟨d'.toNat, by omega⟩
      obtain ⟨s, M3, y5', y6', hs, hge, c3, g3, e3⟩ := chain_inner (k + 1) c n (1 + j) M2 r (.tup (rows.map T)) (some d) y5 y6 g2 h1 h5 hrl hrr (by omega)
      have hrn : rngD (.int 0) (.int (1 + (j : Int))) = some (intsD (1 + j)) := by
        have := rng0 (1 + j) (by omega)
        rw [← this]
        simp
      have hcm : cmpD .NotIn (T s) (.tup (rows.map T)) = some (!decide (s ∈ rows)) := by
        rw [cmp_ni_tup 1 (by simp) (by simp) (by omega)]
        simp
      have ad := add_tup (rows.map T) [T s] (small (by simp; omega))
      by_cases hin : s ∈ rows
      · have hne2 : rows ≠ [] := List.ne_nil_of_mem hin
        refine ⟨[some (.cell c), some (.int n), some d, some (.tup (rows.map T)), some (T s), y5', y6'], M3, Or.inl ?_, by simp, rows, s, _, _, _, hs.1, hs.2.1, fun _ => hne2, by omega, hvec, hbes, ?_, (hB.trans c2).trans c3, g3, rfl⟩
        · have hin2 : decide (s ∈ rows) = true := by simpa using hin
          rw [hin2] at hcm
          simp [e2, hrn, e3, hcm]
        · rcases hlast with h | ⟨pre, l, hp, hg⟩
          · exact (hne2 h).elim
          · exact Or.inr ⟨pre, l, hp, ge_trans hg hge⟩
      · refine ⟨[some (.cell c), some (.int n), some d, some (.tup ((rows ++ [s]).map T)), some (T s), y5', y6'], M3, Or.inl ?_, by simp, rows ++ [s], s, _, _, _, hs.1, hs.2.1, fun _ => by simp, by simp; omega, ?_, ?_, Or.inr ⟨rows, s, rfl, ge_refl _⟩, (hB.trans c2).trans c3, g3, rfl⟩
        · have hin2 : decide (s ∈ rows) = false := by simpa using hin
          rw [hin2] at hcm
          simp [e2, hrn, e3, hcm, ad]
        · intro q hq
          rw [List.mem_append, List.mem_singleton] at hq
          rcases hq with hq | rfl
          · exact hvec q hq
          · exact hs
        · rcases hlast with h | ⟨pre, l, hp, hg⟩
          · rw [h]; simp [beside]
          · rw [hp] at hbes ⊢
            have hne2 : l ≠ s := fun e => hin (by rw [hp, ← e]; simp)
            have hl := ge_lead (ge_trans hg hge) hne2
            have := beside_snoc leadD (pre.map T) (T l) (T s) (by simpa using hbes) (by rw [leadD_T]; exact hl)
            simpa using this) (intsD m) [some (.cell c), some (.int n), none, some (.tup []), some (T (zerosI n)), none, none] M
    ⟨[], zerosI n, none, none, none, by simp [zerosI], fun x hx => by simp [zerosI] at hx; omega, by simp [intsD], by simp [intsD], by simp, by simp [beside], Or.inl rfl, Bm.refl h, h, rfl⟩
  obtain ⟨rows, r, y2, y5, y6, hrl, hrr, hne, hlen, hvec, hbes, hlast, hB, g, rfl⟩ := i
  exact ⟨rows, r, M', y2, y5, y6, hne (by simp; omega), by simpa using hlen, hvec, hbes, hB, g, e⟩
theorem part_chain_ok (k c n : Nat) (M : Cs) (h : IsBag M c) (h1 : 1 ≤ n) (h5 : n ≤ 5) :
    ∃ (rows : List (List Int)) (M' : Cs), rows ≠ [] ∧ rows.length ≤ 5 ∧ (∀ r ∈ rows, isVec n r) ∧ beside leadD (rows.map T) = true ∧ Bm c M M' ∧ IsBag M' c ∧ callF P (k + 4) ix_law_part_chain [.cell c, .int n] M = .ok (.tup (rows.map T)) M' := by
  obtain ⟨d', M1, a1, b1, c1, g1, e1⟩ := draw_ok' (k + 2) c n M h (by omega) (by omega)
  obtain ⟨j, rfl⟩ : ∃ j : Nat, d' = j := ⟨d'.toNat, by omega⟩
  obtain ⟨rows, r, M2, y2, y5, y6, hne, hlen, hvec, hbes, c2, g2, e2⟩ := chain_outer k c n (1 + j) M1 g1 h1 h5 (by omega) (by omega)
  refine ⟨rows, M2, hne, by omega, hvec, hbes, c1.trans c2, g2, ?_⟩
  rw [call_eq (F := mf_law_part_chain) rfl rfl]
  have hrn : rngD (.int 0) (.int (1 + (j : Int))) = some (intsD (1 + j)) := by
    have := rng0 (1 + j) (by omega)
    rw [← this]
    simp
  have hz : T (List.replicate n 0) = T (zerosI n) := rfl
  simp [m_law_part_chain, zeros_mul n h1 (by omega), e1, hrn, hz, e2]
  rw [(c1.trans c2).tk]

theorem Bm.rd {c r : Nat} {M M' : Cs} (h : Bm c M M') (ne : c ≠ r) : rd M' (.cell r) = rd M (.cell r) := by
  obtain ⟨a, b, d, rfl⟩ := h
  exact rd_set_ne _ _ _ _ ne
theorem sm1 {n : Nat} {r : List Int} (h : isVec n r) : ∀ x ∈ r, x.natAbs < 1000000000000 := fun x hx => by
  have := h.2.1 x hx
  omega
theorem rep_rows {n : Nat} (h5 : n ≤ 5) (rs : List (List Int)) (hl : rs.length ≤ 243) (h : ∀ r ∈ rs, isVec n r) : ∃ x, reprD [.tup (rs.map T)] = some (.str x) ∧ PyData.strOk x = true := by
  refine repr_ok (n := 2) ?_ (by omega) ?_
  · simp only [fitR, List.all_map, List.all_eq_true, Function.comp_apply]
    exact fun r hr => fit_T 0 r (sm1 (h r hr))
  · rw [wt_tup]
    have := wts_le T 205 rs fun r hr => by
      have h1 := wt_T r (sm1 (h r hr))
      have h2 := (h r hr).1
      omega
    have h3 : rs.length * (205 + 1) ≤ 243 * 206 := Nat.mul_le_mul hl (by omega)
    omega
theorem rep_T (r : List Int) (hl : r.length ≤ 300) (h : ∀ x ∈ r, x.natAbs < 1000000000000) : ∃ x, reprD [T r] = some (.str x) ∧ PyData.strOk x = true := by
  refine repr_ok (n := 1) (fit_T 0 r h) (by omega) ?_
  have h1 := wt_T r h
  omega
theorem rep_bl (b : Bool) : ∃ x, reprD [.bl b] = some (.str x) ∧ PyData.strOk x = true := repr_ok (n := 0) (by simp [fitR]) (by omega) (by simp)
theorem rep_int (i : Int) (h : i.natAbs < 1000000000000) : ∃ x, reprD [.int i] = some (.str x) ∧ PyData.strOk x = true := repr_ok (n := 0) (by simp [fitR, h]) (by omega) (by have := wt_int h; omega)
theorem rep_page (n : Nat) (ls : List Int) (h5 : n ≤ 5) (hl : ls.length ≤ 300) (h : ∀ x ∈ ls, x.natAbs < 1000000000000) : ∃ x, reprD [Pg n ls] = some (.str x) ∧ PyData.strOk x = true := by
  have f1 := fit_T 0 ls h
  have w1 := wt_T ls h
  have w2 : wt (.int (n : Int)) ≤ 40 := wt_int (by omega)
  refine repr_ok (n := 2) ?_ (by omega) ?_
  · have hn : (n : Int).natAbs < 1000000000000 := by omega
    simp [Pg, fitR, f1]
    omega
  · simp only [Pg, wt_tup, wts_cons, wts_nil]
    omega
theorem lastT_rg {r : List Int} {n : Nat} (h5 : n ≤ 5) (h : isVec n r) : -20 ≤ lastT r ∧ lastT r ≤ 20 := by
  obtain ⟨hlt, hnz⟩ := lastI_lt h.2.2
  have h1 := h.1
  have hv := h.2.1 _ (List.getElem_mem hlt)
  rw [lastT, List.getD_eq_getElem?_getD, List.getElem?_eq_getElem hlt, Option.getD_some]
  generalize r[lastI r] = x at *
  have : x = -1 ∨ x = 0 ∨ x = 1 := by omega
  rcases this with e | e | e <;> rw [e] <;> omega
theorem tab_rg : ∀ (ps : List (List Int × Int)) (f : List Int → Option Int), (∀ p ∈ ps, -20 ≤ p.2 ∧ p.2 ≤ 20) → (∀ x v, f x = some v → -20 ≤ v ∧ v ≤ 20) → ∀ x v, (ps.foldl tabF f) x = some v → -20 ≤ v ∧ v ≤ 20
  | [], f, _, h, x, v, e => h x v e
  | p :: ps, f, hp, h, x, v, e => by
    rw [List.foldl_cons] at e
    refine tab_rg ps _ (fun q hq => hp q (List.mem_cons_of_mem _ hq)) ?_ x v e
    intro y w hw
    have h1 := hp p List.mem_cons_self
    simp only [tabF] at hw
    by_cases e1 : y = negR p.1
    · rw [if_pos e1] at hw
      cases hw; omega
    · rw [if_neg e1] at hw
      by_cases e2 : y = p.1
      · rw [if_pos e2] at hw
        cases hw; exact h1
      · rw [if_neg e2] at hw
        exact h y w hw
theorem fwd_ne {n : Nat} (h : 1 ≤ n) {ls : List Int} (g : GoodPage n ls) : ls ≠ [] := by
  have := fwd_pos h
  have := g.ln
  intro e
  rw [e] at this
  simp at this
  omega
theorem vec_len (n : Nat) (h5 : n ≤ 5) : (vecZ n).length ≤ 243 := by
  have h1 : (vecZ n).length ≤ (rowsZ n).length := List.length_filter_le _ _
  rw [rowsZ_len] at h1
  have hp : 3 ^ n ≤ 3 ^ 5 := pow3_le h5
  omega
theorem st2 (k c n : Nat) (M : Cs) (h1 : 1 ≤ n) (h5 : n ≤ 5) (v2 v3 v4 v5 v6 v8 v9 v10 v11 v12 v13 v14 v15 v16 v17 : Option D) : evS ⟨callF P (k + 6), k + 6⟩ (.ite (.or (.tru (.cmp .NotEq (.blt .repr (.cons (.call ix_vectors .nil (.cons (.var 1) .nil) [0]) .nil)) (.blt .repr (.cons (.blt .tuple (.cons (.var 7) .nil)) .nil)))) (.tru (.cmp .NotEq (.blt .repr (.cons (.call ix_forward_vectors (.cons (.var 1) .nil) .nil []) .nil)) (.blt .repr (.cons (.blt .tuple (.cons (.call ix_law_fore (.cons (.var 1) .nil) .nil []) .nil)) .nil))))) (.cons (.ret (.con (.bl false))) .nil) .nil) [some (.cell c), some (.int n), v2, v3, v4, v5, v6, some (.lst ((vecZ n).map T)), v8, v9, v10, v11, v12, v13, v14, v15, v16, v17] M = .nx [some (.cell c), some (.int n), v2, v3, v4, v5, v6, some (.lst ((vecZ n).map T)), v8, v9, v10, v11, v12, v13, v14, v15, v16, v17] M := by
  have hv := vectors_ok (k + 1) n M h1 h5
  have hf := forward_vectors_ok (k + 1) n M h1 h5
  have hfo := law_fore_ok (k + 4) n M h1 h5
  have hlen := fwdZ_len n
  have hp : 3 ^ n ≤ 3 ^ 5 := pow3_le h5
  obtain ⟨x, hx, hxo⟩ := rep_rows h5 (vecZ n) (vec_len n h5) fun r hr => vecZ_isVec hr
  obtain ⟨y, hy, hyo⟩ := rep_rows h5 (fwdZ n) (by omega) fun r hr => fwdZ_isVec hr
  have htu : ∀ xs : List D, tupleD [.lst xs] = some (.tup xs) := fun _ => rfl
  simp [hv, hf, hfo, htu, hx, hy, cmp_ne_str hxo hxo, cmp_ne_str hyo hyo]
theorem st3 (k c n : Nat) (M : Cs) (h1 : 1 ≤ n) (h5 : n ≤ 5) (v2 v3 v4 v5 v6 v7 v8 v9 v10 v11 v12 v13 v14 v15 v16 v17 : Option D) : evS ⟨callF P (k + 6), k + 6⟩ (.asg (.nm 2) (.tup (.cons (.var 1) (.cons (.blt .tuple (.cons (.lc [17] (.bin .Add (.bin .Mult (.call ix_law_last (.cons (.var 17) .nil) .nil []) (.idx (.var 17) (.call ix_law_last (.cons (.var 17) .nil) .nil []))) (.idx (.var 17) (.call ix_law_last (.cons (.var 17) .nil) .nil []))) (.nm 17) (.seq (.call ix_law_fore (.cons (.var 1) .nil) .nil [])) .nil) .nil)) .nil)))) [some (.cell c), some (.int n), v2, v3, v4, v5, v6, v7, v8, v9, v10, v11, v12, v13, v14, v15, v16, v17] M = .nx [some (.cell c), some (.int n), some (Pg n ((fwdZ n).map lastT)), v3, v4, v5, v6, v7, v8, v9, v10, v11, v12, v13, v14, v15, v16, v17] M := by
  have hfo := law_fore_ok (k + 4) n M h1 h5
  have hlen := fwdZ_len n
  have hp : 3 ^ n ≤ 3 ^ 5 := pow3_le h5
  have htu : tupleD [.lst ((fwdZ n).map fun r => .int (lastT r))] = some (T ((fwdZ n).map lastT)) := by simp [tupleD, T, Function.comp_def]
  simp [hfo]
  rw [lcGo_one T (fun r => .int (lastT r))]
  · simp [htu, Pg]
  · intro r hr
    have hv := fwdZ_isVec hr
    obtain ⟨hlt, hnz⟩ := lastI_lt hv.2.2
    have h1 := hv.1
    have hx := hv.2.1 _ (List.getElem_mem hlt)
    have e1 := law_last_ok (k + 5) r M (by omega) hv.2.2
    have a1 := atI_get r (lastI r) hlt
    have hm := mulI ((lastI r : Int)) (r[lastI r]) (Or.inr (by simp only [big]; omega))
    have hg : r.getD (lastI r) 0 = r[lastI r] := by rw [List.getD_eq_getElem?_getD, List.getElem?_eq_getElem hlt]; rfl
    have hL : lastT r = (lastI r : Int) * r[lastI r] + r[lastI r] := by
      rw [lastT, hg, Int.mul_add, Int.mul_one, Int.mul_comm]
    rw [hL]
    obtain ⟨j, hj⟩ : ∃ j : Int, j = ((lastI r : Nat) : Int) := ⟨_, rfl⟩
    rw [← hj] at e1 a1 hm ⊢
    obtain ⟨x, hx'⟩ : ∃ x : Int, x = r[lastI r] := ⟨_, rfl⟩
    rw [← hx'] at a1 hm ⊢
    simp [e1, a1, hm]
  · exact small (by omega)
theorem st4 (k c n : Nat) (ls : List Int) (M : Cs) (h1 : 1 ≤ n) (h5 : n ≤ 5) (g : GoodPage n ls) (v3 v4 v5 v6 v7 v9 v10 v11 v12 v13 v14 v15 v16 v17 : Option D) : evS ⟨callF P (k + 6), k + 6⟩ (.ite (.or (.tru (.cmp .NotEq (.blt .repr (.cons (.call ix_last_thing (.cons (.var 1) .nil) .nil []) .nil)) (.blt .repr (.cons (.var 2) .nil)))) (.tru (.cmp .NotEq (.call ix_greatest (.cons (.var 8) .nil) .nil []) (.blt .max (.cons (.lc [16] (.blt .abs (.cons (.var 16) .nil)) (.nm 16) (.seq (.idx (.var 8) (.con (.int 1)))) .nil) .nil))))) (.cons (.ret (.con (.bl false))) .nil) .nil) [some (.cell c), some (.int n), some (Pg n ((fwdZ n).map lastT)), v3, v4, v5, v6, v7, some (Pg n ls), v9, v10, v11, v12, v13, v14, v15, v16, v17] M = .nx [some (.cell c), some (.int n), some (Pg n ((fwdZ n).map lastT)), v3, v4, v5, v6, v7, some (Pg n ls), v9, v10, v11, v12, v13, v14, v15, v16, v17] M := by
  have e1 := last_thing_ok (k + 1) n M h1 h5
  have e2 := greatest_ok k n ls M g (fwd_ne h1 g)
  have hlen := fwdZ_len n
  have hp : 3 ^ n ≤ 3 ^ 5 := pow3_le h5
  have hsm := g.small
  obtain ⟨x, hx, hxo⟩ := rep_page n ((fwdZ n).map lastT) h5 (by simp; omega) (fun x hx => by
    rw [List.mem_map] at hx
    obtain ⟨r, hr, rfl⟩ := hx
    have := lastT_rg h5 (fwdZ_isVec hr)
    omega)
  have hmx : maxD [.lst (ls.map fun x => .int (absI x))] = some (.int (mostI (ls.map absI))) := max_map absI ls (fwd_ne h1 g)
  have hlc : lcGo [] (kt_evE_lc_2 ⟨callF P (k + 6), k + 6⟩ [16] (.blt .abs (.cons (.var 16) .nil)) (.nm 16) .nil [some (.cell c), some (.int n), some (Pg n ((fwdZ n).map lastT)), v3, v4, v5, v6, v7, some (Pg n ls), v9, v10, v11, v12, v13, v14, v15, v16, v17]) (ls.map .int) [] M = .ok (ls.map fun x => .int (absI x)) M := by
    rw [lcGo_one D.int (fun x => .int (absI x))]
    · intro x hx
      simp
    · exact small (by omega)
  simp [e1, e2, hx, cmp_ne_str hxo hxo, hlc, hmx]
theorem st5 (k c n : Nat) (ls : List Int) (M : Cs) (h1 : 1 ≤ n) (h5 : n ≤ 5) (g : GoodPage n ls) (v2 v3 v4 v5 v6 v7 v9 v10 v11 v12 v13 v14 v15 v16 v17 : Option D) : evS ⟨callF P (k + 6), k + 6⟩ (.ite (.tru (.cmp .NotEq (.call ix_greatest (.cons (.tup (.cons (.var 1) (.cons (.bin .Add (.tup (.cons (.neg (.con (.int 20))) .nil)) (.slc (.idx (.var 8) (.con (.int 1))) (.one (.con (.int 1))) .nil)) .nil))) .nil) .nil []) (.con (.int 20)))) (.cons (.ret (.con (.bl false))) .nil) .nil) [some (.cell c), some (.int n), v2, v3, v4, v5, v6, v7, some (Pg n ls), v9, v10, v11, v12, v13, v14, v15, v16, v17] M = .nx [some (.cell c), some (.int n), v2, v3, v4, v5, v6, v7, some (Pg n ls), v9, v10, v11, v12, v13, v14, v15, v16, v17] M := by
  have hpos := fwd_pos h1
  have hln := g.ln
  have hsm := g.small
  have g2 : GoodPage n (-20 :: ls.tail) := by
    refine ⟨h1, h5, by simp; omega, fun x hx => ?_⟩
    rw [List.mem_cons] at hx
    rcases hx with rfl | hx
    · omega
    · exact g.rg x (List.mem_of_mem_tail hx)
  have e2 := greatest_ok k n _ M g2 (by simp)
  have h20 : mostI ((-20 :: ls.tail).map absI) = 20 := by
    refine mostI_eq ?_ ?_
    · rw [List.map_cons]; exact List.mem_cons_self
    · intro y hy
      rw [List.mem_map] at hy
      obtain ⟨x, hx, rfl⟩ := hy
      have := g2.rg x hx
      rw [absI]; split <;> omega
  rw [h20] at e2
  have s1 : slcD (T ls) (ptD (some 1)) (ptD none) .non = some (T ls.tail) := by rw [slc_T, cut_1]; simp
  have t1 := add_TT [-20] ls.tail (by simp; omega)
  rw [show T [-20] = .tup [.int (-20)] from rfl] at t1
  rw [show [-20] ++ ls.tail = -20 :: ls.tail from rfl] at t1
  have hP : ∀ xs : List Int, D.tup [.int n, T xs] = Pg n xs := fun _ => rfl
  generalize -20 :: ls.tail = L at *
  simp [intD?, s1, t1, hP, e2]

theorem above_ne0 {r : List Int} (h : (0 : Int) ∈ r) : aboveZ r ≠ [] := by
  obtain ⟨i, hi, e⟩ := List.getElem_of_mem h
  refine List.ne_nil_of_mem (a := r.take i ++ [-1] ++ r.drop (i + 1)) ?_
  rw [aboveZ, List.mem_flatMap]
  refine ⟨i, by simpa using hi, ?_⟩
  have : r.getD i 0 = 0 := by
    rw [List.getD_eq_getElem?_getD, List.getElem?_eq_getElem hi, Option.getD_some, e]
  rw [if_pos this]
  exact List.mem_cons_self
theorem leadB_self (r : List Int) : leadB r r = false := by simp [leadB]
theorem vec_one (k c n : Nat) (M : Cs) (h : IsBag M c) (h1 : 1 ≤ n) (h5 : n ≤ 5) : ∃ (r : List Int) (M' : Cs), isVec n r ∧ Bm c M M' ∧ IsBag M' c ∧ callF P (k + 2) ix_law_one [.cell c, .lst ((vecZ n).map T)] M = .ok (T r) M' := by
  have hne : vecZ n ≠ [] := by
    have := fwd_pos h1
    have h2 : (fwdZ n).length ≤ (vecZ n).length := List.length_filter_le _ _
    intro e
    rw [e, List.length_nil] at h2
    omega
  have hl := vec_len n h5
  obtain ⟨v, M', hv, b, g, e⟩ := one_ok_l k c ((vecZ n).map T) M h (by simpa using hne) (by simp; omega) (by simp)
  rw [List.mem_map] at hv
  obtain ⟨r, hr, rfl⟩ := hv
  exact ⟨r, M', vecZ_isVec hr, b, g, e⟩
theorem st7 (k c n : Nat) (ls : List Int) (ks vs : List D) (M : Cs) (h : IsBag M c) (h1 : 1 ≤ n) (h5 : n ≤ 5) (g : GoodPage n ls) (hlk : ∀ x : List Int, lookD (T x) ks vs = (tab ((fwdZ n).zip ls) x).map .int) (v2 v4 v5 v6 v9 v10 v11 v12 v13 v14 v15 v16 v17 : Option D) :
    ∃ (y4 y9 y12 : Option D) (M' : Cs), Bm c M M' ∧ IsBag M' c ∧ forGo [] (kt_evS_for_2 ⟨callF P (k + 6), k + 6⟩ (.nm 4) (.cons (.asg (.tp (.cons (.nm 12) (.cons (.nm 9) .nil))) (.tup (.cons (.call ix_law_one (.cons (.var 0) (.cons (.var 7) .nil)) .nil []) (.cons (.call ix_law_one (.cons (.var 0) (.cons (.var 7) .nil)) .nil []) .nil)))) (.cons (.asg (.nm 9) (.ite (.and (.tru (.cmp .Eq (.call ix_law_draw (.cons (.var 0) (.cons (.con (.int 2)) .nil)) .nil []) (.con (.int 0)))) (.tru (.cmp .In (.con (.int 0)) (.var 12)))) (.call ix_law_one (.cons (.var 0) (.cons (.call ix_law_above (.cons (.var 12) .nil) .nil []) .nil)) .nil []) (.var 9))) (.cons (.ite (.tru (.cmp .NotEq (.blt .repr (.cons (.call ix_opposite .nil (.cons (.var 12) (.cons (.var 1) .nil)) [1, 0]) .nil)) (.blt .repr (.cons (.call ix_law_opposite (.cons (.var 12) .nil) .nil []) .nil)))) (.cons (.ret (.con (.bl false))) .nil) .nil) (.cons (.ite (.tru (.cmp .NotEq (.blt .repr (.cons (.call ix_leads (.cons (.var 1) (.cons (.var 12) (.cons (.var 9) .nil))) .nil []) .nil)) (.blt .repr (.cons (.call ix_law_leads (.cons (.var 12) (.cons (.var 9) .nil)) .nil []) .nil)))) (.cons (.ret (.con (.bl false))) .nil) .nil) (.cons (.ite (.tru (.cmp .IsNot (.call ix_leads .nil (.cons (.var 1) (.cons (.var 12) (.cons (.var 12) .nil))) [0, 2, 1]) (.con (.bl false)))) (.cons (.ret (.con (.bl false))) .nil) .nil) (.cons (.ite (.or (.tru (.cmp .NotEq (.blt .repr (.cons (.call ix_label (.cons (.var 8) (.cons (.var 12) .nil)) .nil []) .nil)) (.blt .repr (.cons (.idx (.var 3) (.var 12)) .nil)))) (.tru (.cmp .NotEq (.blt .repr (.cons (.call ix_label .nil (.cons (.var 9) (.cons (.var 8) .nil)) [1, 0]) .nil)) (.blt .repr (.cons (.idx (.var 3) (.var 9)) .nil))))) (.cons (.ret (.con (.bl false))) .nil) .nil) .nil))))))) (intsD 12) [some (.cell c), some (.int n), v2, some (.dct true ks vs), v4, v5, v6, some (.lst ((vecZ n).map T)), some (Pg n ls), v9, v10, v11, v12, v13, v14, v15, v16, v17] M = .nx [some (.cell c), some (.int n), v2, some (.dct true ks vs), y4, v5, v6, some (.lst ((vecZ n).map T)), some (Pg n ls), y9, v10, v11, y12, v13, v14, v15, v16, v17] M' := by
  have hcl := h.lt
  obtain ⟨σ', M', e, i⟩ := forGo_ind (ws := []) (step := kt_evS_for_2 ⟨callF P (k + 6), k + 6⟩ (.nm 4) (.cons (.asg (.tp (.cons (.nm 12) (.cons (.nm 9) .nil))) (.tup (.cons (.call ix_law_one (.cons (.var 0) (.cons (.var 7) .nil)) .nil []) (.cons (.call ix_law_one (.cons (.var 0) (.cons (.var 7) .nil)) .nil []) .nil)))) (.cons (.asg (.nm 9) (.ite (.and (.tru (.cmp .Eq (.call ix_law_draw (.cons (.var 0) (.cons (.con (.int 2)) .nil)) .nil []) (.con (.int 0)))) (.tru (.cmp .In (.con (.int 0)) (.var 12)))) (.call ix_law_one (.cons (.var 0) (.cons (.call ix_law_above (.cons (.var 12) .nil) .nil []) .nil)) .nil []) (.var 9))) (.cons (.ite (.tru (.cmp .NotEq (.blt .repr (.cons (.call ix_opposite .nil (.cons (.var 12) (.cons (.var 1) .nil)) [1, 0]) .nil)) (.blt .repr (.cons (.call ix_law_opposite (.cons (.var 12) .nil) .nil []) .nil)))) (.cons (.ret (.con (.bl false))) .nil) .nil) (.cons (.ite (.tru (.cmp .NotEq (.blt .repr (.cons (.call ix_leads (.cons (.var 1) (.cons (.var 12) (.cons (.var 9) .nil))) .nil []) .nil)) (.blt .repr (.cons (.call ix_law_leads (.cons (.var 12) (.cons (.var 9) .nil)) .nil []) .nil)))) (.cons (.ret (.con (.bl false))) .nil) .nil) (.cons (.ite (.tru (.cmp .IsNot (.call ix_leads .nil (.cons (.var 1) (.cons (.var 12) (.cons (.var 12) .nil))) [0, 2, 1]) (.con (.bl false)))) (.cons (.ret (.con (.bl false))) .nil) .nil) (.cons (.ite (.or (.tru (.cmp .NotEq (.blt .repr (.cons (.call ix_label (.cons (.var 8) (.cons (.var 12) .nil)) .nil []) .nil)) (.blt .repr (.cons (.idx (.var 3) (.var 12)) .nil)))) (.tru (.cmp .NotEq (.blt .repr (.cons (.call ix_label .nil (.cons (.var 9) (.cons (.var 8) .nil)) [1, 0]) .nil)) (.blt .repr (.cons (.idx (.var 3) (.var 9)) .nil))))) (.cons (.ret (.con (.bl false))) .nil) .nil) .nil)))))))
    (I := fun ds σ M' => Bm c M M' ∧ IsBag M' c ∧ ∃ y4 y9 y12, σ = [some (.cell c), some (.int n), v2, some (.dct true ks vs), y4, v5, v6, some (.lst ((vecZ n).map T)), some (Pg n ls), y9, v10, v11, y12, v13, v14, v15, v16, v17]) (by
      rintro d ds σ M1 ⟨hB, gB, y4, y9, y12, rfl⟩
      obtain ⟨one, M2, hv1, b2, g2, e2⟩ := vec_one (k + 4) c n M1 gB h1 h5
      obtain ⟨two0, M3, hv20, b3, g3, e3⟩ := vec_one (k + 4) c n M2 g2 h1 h5
      obtain ⟨two, M5, hv2, b5, g5, e5⟩ : ∃ (two : List Int) (M5 : Cs), isVec n two ∧ Bm c M3 M5 ∧ IsBag M5 c ∧ evE ⟨callF P (k + 6), k + 6⟩ (.ite (.and (.tru (.cmp .Eq (.call ix_law_draw (.cons (.var 0) (.cons (.con (.int 2)) .nil)) .nil []) (.con (.int 0)))) (.tru (.cmp .In (.con (.int 0)) (.var 12)))) (.call ix_law_one (.cons (.var 0) (.cons (.call ix_law_above (.cons (.var 12) .nil) .nil []) .nil)) .nil []) (.var 9)) [some (.cell c), some (.int n), v2, some (.dct true ks vs), some d, v5, v6, some (.lst ((vecZ n).map T)), some (Pg n ls), some (T two0), v10, v11, some (T one), v13, v14, v15, v16, v17] M3 = .ok (T two) M5 := by
        obtain ⟨d2, M4, a4, b4, c4, g4, e4⟩ := draw_ok' (k + 5) c 2 M3 g3 (by omega) (by omega)
        have hal := law_above_ok (k + 5) one M4 (by have := hv1.1; omega)
        by_cases hd : d2 = 0
        · by_cases hz : (0 : Int) ∈ one
          · have hl := len_above one
            have := hv1.1
            obtain ⟨v, M6, hv, b6, g6, e6⟩ := one_ok_l (k + 4) c ((aboveZ one).map T) M4 g4 (by simpa using above_ne0 hz) (by simp; omega) (by simp)
            rw [List.mem_map] at hv
            obtain ⟨s, hs, rfl⟩ := hv
            obtain ⟨a1, a2, a3⟩ := above_mem hv1.2.1 hs
            refine ⟨s, M6, ⟨by rw [← a1.1]; exact hv1.1, a2, a3⟩, c4.trans b6, g6, ?_⟩
            simp [e4, hd, hz, hal, e6]
          · exact ⟨two0, M4, hv20, c4, g4, by simp [e4, hd, hz]⟩
        · exact ⟨two0, M4, hv20, c4, g4, by simp [e4, hd]⟩
      have f1 := opposite_ok k n one M5 h1 h5 hv1
      have f2 := law_opposite_ok (k + 5) one M5 (by have := hv1.1; omega)
      obtain ⟨z1, hz1, hzo1⟩ := rep_T (negR one) (by have := hv1.neg.1; omega) (sm1 hv1.neg)
      have f3 := leads_ok k n one two M5 h1 h5 hv1 hv2
      have f4 := law_leads_ok (k + 5) one two M5 (by have := hv1.1; omega)
      obtain ⟨z2, hz2, hzo2⟩ := rep_bl (leadB one two)
      have f5 := leads_ok k n one one M5 h1 h5 hv1 hv1
      rw [leadB_self] at f5
      obtain ⟨w1, hw1⟩ := tab_vec g hv1
      obtain ⟨w2, hw2⟩ := tab_vec g hv2
      have f6 := label_ok k n ls one M5 g hv1 w1 hw1
      have f7 := label_ok k n ls two M5 g hv2 w2 hw2
      have hrg : ∀ x v, tab ((fwdZ n).zip ls) x = some v → -20 ≤ v ∧ v ≤ 20 := fun x v hv => tab_rg _ _ (fun p hp => by
        have := g.rg p.2 (List.of_mem_zip (a := p.1) (b := p.2) hp).2
        omega) (by simp) x v hv
      obtain ⟨z3, hz3, hzo3⟩ := rep_int w1 (by have := hrg one w1 hw1; omega)
      obtain ⟨z4, hz4, hzo4⟩ := rep_int w2 (by have := hrg two w2 hw2; omega)
      have k1 := idx_dct true ks vs (T one) (by simp)
      have k2 := idx_dct true ks vs (T two) (by simp)
      rw [hlk one, hw1] at k1
      rw [hlk two, hw2] at k2
      have p3 : ∀ x y z : D, permD [0, 2, 1] [x, y, z] = [x, z, y] := fun _ _ _ => rfl
      have hnb : cmpD .IsNot (.bl false) (.bl false) = some false := rfl
      have p2 : ∀ x y : D, permD [1, 0] [x, y] = [y, x] := fun _ _ => rfl
      refine ⟨[some (.cell c), some (.int n), v2, some (.dct true ks vs), some d, v5, v6, some (.lst ((vecZ n).map T)), some (Pg n ls), some (T two), v10, v11, some (T one), v13, v14, v15, v16, v17], M5, Or.inl ?_, by simp, hB.trans (b2.trans (b3.trans b5)), g5, _, _, _, rfl⟩
      simp [hnb, e2, e3, e5, p2, p3, f1, f2, hz1, cmp_ne_str hzo1 hzo1, f3, f4, hz2, cmp_ne_str hzo2 hzo2, f5, f6, f7, k1, k2, hz3, hz4, cmp_ne_str hzo3 hzo3, cmp_ne_str hzo4 hzo4, -evE_ite]) (intsD 12) [some (.cell c), some (.int n), v2, some (.dct true ks vs), v4, v5, v6, some (.lst ((vecZ n).map T)), some (Pg n ls), v9, v10, v11, v12, v13, v14, v15, v16, v17] M
    ⟨Bm.refl h, h, _, _, _, rfl⟩
  obtain ⟨hB, gB, y4, y9, y12, rfl⟩ := i
  exact ⟨y4, y9, y12, M', hB, gB, e⟩

def okL (b : Nat) (xs : List D) : Prop := (∀ x ∈ xs, ov 11 x = true) ∧ xs.length ≤ b
theorem okL.app {a b : Nat} {xs ys : List D} (h : okL a xs) (h2 : okL b ys) : okL (a + b) (xs ++ ys) := by
  refine ⟨fun x hx => (List.mem_append.mp hx).elim (h.1 x) (h2.1 x), ?_⟩
  have := h.2
  have := h2.2
  simp; omega
theorem okL.free {b : Nat} {xs : List D} (h : okL b xs) : frees 0 xs = true := frees_of fun x hx => ov_free 11 x (h.1 x hx)
theorem ovT {xs : List Int} (h : xs.length ≤ 2000) (m : Nat) : ov (m + 1) (T xs) = true := ov_T m xs h
theorem rowsT_ov {n : Nat} (h5 : n ≤ 5) {rows : List (List Int)} (hv : ∀ r ∈ rows, isVec n r) (m : Nat) : ∀ x ∈ rows.map T, ov (m + 1) x = true := by
  intro x hx
  rw [List.mem_map] at hx
  obtain ⟨r, hr, rfl⟩ := hx
  exact ov_T m r (by have := (hv r hr).1; omega)
theorem st9 (k c n : Nat) (ls top : List Int) (rows : List (List Int)) (M : Cs) (h1 : 1 ≤ n) (h5 : n ≤ 5) (g : GoodPage n ls) (ht : isVec n top) (hv : ∀ r ∈ rows, isVec n r) (hl : rows.length ≤ 5) (v2 v3 v4 v5 v6 v7 v9 v12 v13 v14 v15 v16 v17 : Option D) :
    ∃ xs, okL 10 xs ∧ evS ⟨callF P (k + 6), k + 6⟩ (.asg (.nm 5) (.new (.lst (.cons (.var 11) (.cons (.var 10) (.cons (.var 8) (.cons (.rev (.var 10)) (.cons (.bin .Add (.var 10) (.slc (.var 10) (.one (.neg (.con (.int 1)))) .nil)) (.cons (.slc (.var 10) .nil (.one (.con (.int 1)))) (.cons (.bin .Add (.var 11) (.tup (.cons (.con (.int 0)) .nil))) (.cons (.slc (.var 11) .nil (.one (.neg (.con (.int 1))))) (.cons (.bin .Mult (.tup (.cons (.con (.int 0)) .nil)) (.var 1)) (.cons (.blt .list (.cons (.var 11) .nil)) .nil))))))))))))) [some (.cell c), some (.int n), v2, v3, v4, v5, v6, v7, some (Pg n ls), v9, some (.tup (rows.map T)), some (T top), v12, v13, v14, v15, v16, v17] M = .nx [some (.cell c), some (.int n), v2, v3, v4, some (.cell M.length), v6, v7, some (Pg n ls), v9, some (.tup (rows.map T)), some (T top), v12, v13, v14, v15, v16, v17] (M ++ [some (.lst xs)]) := by
  have hsm := g.small
  have ht1 := ht.1
  have c1 := cut_any (rows.map T) (some (-1)) none
  have c2 := cut_any (rows.map T) none (some 1)
  have c3 := cut_any top none (some (-1))
  have s1 := slc_tup (rows.map T) (some (-1)) none
  have s2 := slc_tup (rows.map T) none (some 1)
  have s3 := slc_T top none (some (-1))
  have hrT := rowsT_ov h5 hv
  have hcl : (rows.map T).length ≤ 5 := by simpa using hl
  generalize cut (rows.map T) (some (-1)) none = A at *
  generalize cut (rows.map T) none (some 1) = B at *
  generalize cut top none (some (-1)) = C at *
  have t1 := add_tup (rows.map T) A (small (by omega))
  have t2 := add_T1' top 0 (by omega)
  have hz := zeros_mul n h1 (by omega)
  have hok : okL 10 [T top, .tup (rows.map T), Pg n ls, .tup (rows.map T).reverse, .tup (rows.map T ++ A), .tup B, T (top ++ [0]), T C, T (List.replicate n 0), .lst (top.map .int)] := by
    refine ⟨?_, by simp⟩
    rw [← List.all_eq_true]
    simp only [List.all_cons, List.all_nil, Bool.and_true, Bool.and_eq_true]
    refine ⟨ovT (by omega) 10, ov_tupS (hrT 9) (by omega), ?_, ov_tupS (fun x hx => hrT 9 x (by simpa using hx)) (by simp; omega), ov_tupS (fun x hx => (List.mem_append.mp hx).elim (hrT 9 x) fun hx => hrT 9 x (c1.2 x hx)) (by simp at *; omega), ov_tupS (fun x hx => hrT 9 x (c2.2 x hx)) (by omega), ovT (by simp; omega) 10, ovT (by omega) 10, ovT (by simp; omega) 10, ov_lstS (fun x hx => by rw [List.mem_map] at hx; obtain ⟨i, _, rfl⟩ := hx; exact ov_int _ _) (by simp; omega)⟩
    exact Pg_ov (by omega) 9
  have hf := hok.free
  refine ⟨_, hok, ?_⟩
  have hli : listD [T top] = some (.lst (top.map .int)) := rfl
  have hrv : revD (.tup (rows.map T)) = some (.tup (rows.map T).reverse) := rfl
  generalize (rows.map T).reverse = R at *
  generalize rows.map T = cs at *
  have h10 : (10 ≤ sizeLine) = True := by simp [sizeLine]
  simp [hrv, s1, s2, s3, t1, t2, hz, hli, intD?, h10, hf, -frees_cons]
theorem st10 (k c n L : Nat) (top : List Int) (rows : List (List Int)) (xs : List D) (b : Nat) (M : Cs) (h5 : n ≤ 5) (hb : b ≤ 100) (hxs : okL b xs) (hM : rd M (.cell L) = some (.lst xs)) (ht : isVec n top) (hv : ∀ r ∈ rows, isVec n r) (hl : rows.length ≤ 5) (v2 v3 v4 v6 v7 v8 v9 v12 v13 v14 v15 v16 v17 : Option D) :
    ∃ ys, okL (b + 4) ys ∧ evS ⟨callF P (k + 6), k + 6⟩ (.asg (.nm 5) (.new (.bin .Add (.var 5) (.lst (.cons (.blt .tuple (.cons (.lc [16] (.bin .Mult (.con (.int 2)) (.var 16)) (.nm 16) (.seq (.var 11)) .nil) .nil)) (.cons (.blt .tuple (.cons (.lc [16] (.cmp .Eq (.var 16) (.con (.int 1))) (.nm 16) (.seq (.var 11)) .nil) .nil)) (.cons (.lc [17] (.blt .list (.cons (.var 17) .nil)) (.nm 17) (.seq (.var 10)) .nil) (.cons (.tup .nil) .nil)))))))) [some (.cell c), some (.int n), v2, v3, v4, some (.cell L), v6, v7, v8, v9, some (.tup (rows.map T)), some (T top), v12, v13, v14, v15, v16, v17] M = .nx [some (.cell c), some (.int n), v2, v3, v4, some (.cell M.length), v6, v7, v8, v9, some (.tup (rows.map T)), some (T top), v12, v13, v14, v15, v16, v17] (M ++ [some (.lst ys)]) := by
  have ht1 := ht.1
  have q1 : lcGo [] (kt_evE_lc_2 ⟨callF P (k + 6), k + 6⟩ [16] (.bin .Mult (.con (.int 2)) (.var 16)) (.nm 16) .nil [some (.cell c), some (.int n), v2, v3, v4, some (.cell L), v6, v7, v8, v9, some (.tup (rows.map T)), some (T top), v12, v13, v14, v15, v16, v17]) (top.map .int) [] M = .ok (top.map fun x => .int (2 * x)) M := by
    rw [lcGo_one D.int (fun x => .int (2 * x))]
    · intro x hx
      have hm := mulI 2 x (Or.inl (by decide))
      simp [hm]
    · exact small (by omega)
  have q2 : lcGo [] (kt_evE_lc_2 ⟨callF P (k + 6), k + 6⟩ [16] (.cmp .Eq (.var 16) (.con (.int 1))) (.nm 16) .nil [some (.cell c), some (.int n), v2, v3, v4, some (.cell L), v6, v7, v8, v9, some (.tup (rows.map T)), some (T top), v12, v13, v14, v15, v16, v17]) (top.map .int) [] M = .ok (top.map fun x => .bl (decide (x = 1))) M := by
    rw [lcGo_one D.int (fun x => .bl (decide (x = 1)))]
    · intro x hx
      simp
    · exact small (by omega)
  have q3 : lcGo [] (kt_evE_lc_2 ⟨callF P (k + 6), k + 6⟩ [17] (.blt .list (.cons (.var 17) .nil)) (.nm 17) .nil [some (.cell c), some (.int n), v2, v3, v4, some (.cell L), v6, v7, v8, v9, some (.tup (rows.map T)), some (T top), v12, v13, v14, v15, v16, v17]) (rows.map T) [] M = .ok (rows.map fun r => .lst (r.map .int)) M := by
    rw [lcGo_one T (fun r => .lst (r.map .int))]
    · intro r hr
      have hli : listD [T r] = some (.lst (r.map .int)) := rfl
      simp [hli]
    · exact small (by omega)
  have htu : ∀ xs : List D, tupleD [.lst xs] = some (.tup xs) := fun _ => rfl
  have hok : okL 4 [.tup (top.map fun x => .int (2 * x)), .tup (top.map fun x => .bl (decide (x = 1))), .lst (rows.map fun r => .lst (r.map .int)), .tup []] := by
    refine ⟨?_, by simp⟩
    rw [← List.all_eq_true]
    simp only [List.all_cons, List.all_nil, Bool.and_true, Bool.and_eq_true]
    refine ⟨ov_tupS (fun x hx => ?_) (by simp; omega), ov_tupS (fun x hx => ?_) (by simp; omega), ov_lstS (fun x hx => ?_) (by simp; omega), by simp [ov]⟩ <;> rw [List.mem_map] at hx <;> obtain ⟨y, hy, rfl⟩ := hx
    · exact ov_int _ _
    · exact ov_bl _ _
    · refine ov_lstS (fun x hx => ?_) (by have := (hv y hy).1; simp; omega)
      rw [List.mem_map] at hx
      obtain ⟨i, _, rfl⟩ := hx
      exact ov_int _ _
  generalize (top.map fun x => D.int (2 * x)) = A at *
  generalize (top.map fun x => D.bl (decide (x = 1))) = B at *
  generalize (rows.map fun r => D.lst (r.map .int)) = C at *
  have t1 := add_lst' xs [.tup A, .tup B, .lst C, .tup []] (small (by have := hxs.2; simp; omega))
  have hall := hxs.app hok
  have hf := hall.free
  refine ⟨_, hall, ?_⟩
  generalize xs ++ [.tup A, .tup B, .lst C, .tup []] = Z at *
  simp [hM, q1, q2, q3, htu, t1, hf]
theorem st11 (k c n L : Nat) (ls : List Int) (xs : List D) (b : Nat) (M : Cs) (h5 : n ≤ 5) (hb : b ≤ 100) (hxs : okL b xs) (hM : rd M (.cell L) = some (.lst xs)) (g : GoodPage n ls) (v2 v3 v4 v6 v7 v9 v10 v11 v12 v13 v14 v15 v16 v17 : Option D) :
    ∃ ys, okL (b + 5) ys ∧ evS ⟨callF P (k + 6), k + 6⟩ (.asg (.nm 5) (.new (.bin .Add (.var 5) (.lst (.cons (.tup (.cons (.var 1) (.cons (.slc (.idx (.var 8) (.con (.int 1))) .nil (.one (.neg (.con (.int 1))))) .nil))) (.cons (.tup (.cons (.var 1) (.cons (.bin .Add (.idx (.var 8) (.con (.int 1))) (.tup (.cons (.con (.int 1)) .nil))) .nil))) (.cons (.tup (.cons (.var 1) (.cons (.bin .Add (.tup (.cons (.con (.int 0)) .nil)) (.slc (.idx (.var 8) (.con (.int 1))) (.one (.con (.int 1))) .nil)) .nil))) (.cons (.tup (.cons (.con (.int 6)) (.cons (.idx (.var 8) (.con (.int 1))) .nil))) (.cons (.tup (.cons (.con (.int 0)) (.cons (.tup .nil) .nil))) .nil))))))))) [some (.cell c), some (.int n), v2, v3, v4, some (.cell L), v6, v7, some (Pg n ls), v9, v10, v11, v12, v13, v14, v15, v16, v17] M = .nx [some (.cell c), some (.int n), v2, v3, v4, some (.cell M.length), v6, v7, some (Pg n ls), v9, v10, v11, v12, v13, v14, v15, v16, v17] (M ++ [some (.lst ys)]) := by
  have hsm := g.small
  have c1 := cut_any ls none (some (-1))
  have c2 := cut_any ls (some 1) none
  have s1 := slc_T ls none (some (-1))
  have s2 := slc_T ls (some 1) none
  generalize cut ls none (some (-1)) = A at *
  have hdr : ls.tail = cut ls (some 1) none := by simp
  generalize cut ls (some 1) none = B at *
  have t1 := add_T1' ls 1 (by omega)
  have t2 := add_TT [0] B (by simp; omega)
  rw [show T [0] = .tup [.int 0] from rfl] at t2
  have ovp : ∀ (i : Int) (x : D), ov 10 x = true → ov 11 (.tup [.int i, x]) = true := fun i x h => ov_tupS (fun y hy => by simp at hy; rcases hy with rfl | rfl; exact ov_int _ _; exact h) (by simp)
  have hok : okL 5 [.tup [.int n, T A], .tup [.int n, T (ls ++ [1])], .tup [.int n, T ([0] ++ B)], .tup [.int 6, T ls], .tup [.int 0, .tup []]] := by
    refine ⟨?_, by simp⟩
    rw [← List.all_eq_true]
    simp only [List.all_cons, List.all_nil, Bool.and_true, Bool.and_eq_true]
    exact ⟨ovp _ _ (ovT (by omega) 9), ovp _ _ (ovT (by simp; omega) 9), ovp _ _ (ovT (by simp; omega) 9), ovp _ _ (ovT (by omega) 9), ovp _ _ (by simp [ov])⟩
  generalize [0] ++ B = C at *
  have t3 := add_lst' xs [.tup [.int n, T A], .tup [.int n, T (ls ++ [1])], .tup [.int n, T C], .tup [.int 6, T ls], .tup [.int 0, .tup []]] (small (by have := hxs.2; simp; omega))
  have hall := hxs.app hok
  have hf := hall.free
  refine ⟨_, hall, ?_⟩
  generalize ls ++ [1] = E at *
  generalize xs ++ [.tup [.int n, T A], .tup [.int n, T E], .tup [.int n, T C], .tup [.int 6, T ls], .tup [.int 0, .tup []]] = Z at *
  simp [hM, s1, s2, t1, t2, t3, hf, intD?, hdr]
theorem st12 (k c n L : Nat) (xs : List D) (b : Nat) (M : Cs) (hb : b ≤ 100) (hxs : okL b xs) (hM : rd M (.cell L) = some (.lst xs)) (v2 v3 v4 v6 v7 v8 v9 v10 v11 v12 v13 v14 v15 v16 v17 : Option D) :
    ∃ ys, okL (b + 1) ys ∧ evS ⟨callF P (k + 6), k + 6⟩ (.exp (.mut .append (.var 5) (.cons (.tup (.cons (.con (.int 6)) (.cons (.bin .Mult (.tup (.cons (.con (.int 1)) .nil)) (.con (.int 364))) .nil))) .nil))) [some (.cell c), some (.int n), v2, v3, v4, some (.cell L), v6, v7, v8, v9, v10, v11, v12, v13, v14, v15, v16, v17] M = .nx [some (.cell c), some (.int n), v2, v3, v4, some (.cell L), v6, v7, v8, v9, v10, v11, v12, v13, v14, v15, v16, v17] (M.set L (some (.lst ys))) := by
  have hm0 : binD .Mult (.tup [.int 1]) (.int 364) = some (T (List.replicate 364 1)) := by
    simp only [binD]
    have hc : ((1 : Int) ≤ 364 && decide ((364 : Int) ≤ 1000) && decide (([D.int 1] : List D).length ≤ 1000) && !([D.int 1] : List D).isEmpty) = true := by
      simp
    rw [if_pos hc, T]
    simp
  have hok : okL 1 [.tup [.int 6, T (List.replicate 364 1)]] := by
    refine ⟨?_, by simp⟩
    rw [← List.all_eq_true]
    simp only [List.all_cons, List.all_nil, Bool.and_true]
    exact ov_tupS (fun y hy => by rw [List.mem_cons, List.mem_singleton] at hy; rcases hy with rfl | rfl; exact ov_int _ _; exact ovT (by simp) 9) (by simp)
  generalize List.replicate 364 1 = R at *
  have hall := hxs.app hok
  refine ⟨_, hall, ?_⟩
  have hsz : xs.length < sizeLine := by have := hxs.2; show _ < 16777216; omega
  simp [hm0, hM, hsz]

/-- a def's statements by number -/
def nthS : MSs → Nat → MS
  | .cons s _, 0 => s
  | .cons _ r, n + 1 => nthS r n
  | .nil, _ => .nev
theorem pm_vec {n : Nat} (h1 : 1 ≤ n) {r : List Int} (hl : r.length = n) (h : ∀ x ∈ r, x = 1 ∨ x = -1) : isVec n r := by
  refine ⟨hl, fun x hx => by rcases h x hx with e | e <;> omega, ?_⟩
  cases r with
  | nil => simp at hl; omega
  | cons x r =>
    have := h x List.mem_cons_self
    simp only [List.any_cons, Bool.or_eq_true]
    left
    rcases this with e | e <;> rw [e] <;> decide
theorem st13 (k c n : Nat) (r0 : List Int) (rest : List D) (M : Cs) (h : IsBag M c) (h1 : 1 ≤ n) (h5 : n ≤ 5) (hv : isVec n r0) (v2 v3 v4 v5 v6 v7 v8 v9 v11 v12 v13 v14 v15 v16 v17 : Option D) :
    ∃ (far : List Int) (M' : Cs), isVec n far ∧ Bm c M M' ∧ IsBag M' c ∧ evS ⟨callF P (k + 6), k + 6⟩ (nthS m_law_right 13) [some (.cell c), some (.int n), v2, v3, v4, v5, v6, v7, v8, v9, some (.tup (T r0 :: rest)), v11, v12, v13, v14, v15, v16, v17] M = .nx [some (.cell c), some (.int n), v2, v3, v4, v5, some (T far), v7, v8, v9, some (.tup (T r0 :: rest)), v11, v12, v13, v14, v15, v16, v17] M' := by
  have hl := hv.1
  simp [m_law_right, nthS]
  generalize hs : lcGo _ _ _ _ _ = r
  have key : ∃ vs M', vs.length = r0.length ∧ (∀ v ∈ vs, ∃ i : Int, v = .int i ∧ (i = 1 ∨ i = -1)) ∧ Bm c M M' ∧ IsBag M' c ∧ r = .ok vs M' := by
    rw [← hs]
    refine lcGo_bag D.int (fun v => ∃ i : Int, v = .int i ∧ (i = 1 ∨ i = -1)) c r0 M h ?_ (small (by omega))
    intro x hx M hb
    have hrg := hv.2.1 x hx
    by_cases hz : x = 0
    · subst hz
      obtain ⟨v, M', hm, b, g, e⟩ := one_ok (k + 4) c [.int 1, .int (-1)] M hb (by simp) (by simp) (by simp)
      refine ⟨v, M', ?_, b, ?_⟩
      · simp at hm
        rcases hm with rfl | rfl
        · exact ⟨1, rfl, .inl rfl⟩
        · exact ⟨-1, rfl, .inr rfl⟩
      · simp [e]
    · refine ⟨.int x, M, ⟨x, rfl, by omega⟩, Bm.refl hb, ?_⟩
      have c0 : cmpD .NotEq (.int x) (.int 0) = some true := by
        rw [cmp_ne_c 0 (by simp) (by simp) (by omega)]
        simp [hz]
      simp [c0]
  obtain ⟨vs, M', hvl, hq, b, g, rfl⟩ := key
  obtain ⟨is, rfl, his⟩ := ints_of hq
  have htu : tupleD [.lst (is.map .int)] = some (T is) := rfl
  exact ⟨is, pm_vec h1 (by simpa using hvl.trans hl) his, M', b, g, by simp [htu]⟩

theorem st14 (k c n : Nat) (r0 far : List Int) (rs : List (List Int)) (M : Cs) (h1 : 1 ≤ n) (h5 : n ≤ 5) (hv : ∀ r ∈ r0 :: rs, isVec n r) (hf : isVec n far) (v2 v3 v4 v5 v7 v8 v9 v11 v12 v13 v14 v15 v16 v17 : Option D) :
    ∃ (y9 y12 : Option D), evS ⟨callF P (k + 6), k + 6⟩ (nthS m_law_right 14) [some (.cell c), some (.int n), v2, v3, v4, v5, some (T far), v7, v8, v9, some (.tup (T r0 :: rs.map T)), v11, v12, v13, v14, v15, v16, v17] M = .nx [some (.cell c), some (.int n), v2, v3, v4, v5, some (T far), v7, v8, y9, some (.tup (T r0 :: rs.map T)), v11, y12, v13, v14, v15, v16, v17] M := by
  have h0 := hv r0 List.mem_cons_self
  have f2 := law_opposite_ok (k + 5) far M (by have := hf.1; omega)
  obtain ⟨rl, hrl, hl⟩ : ∃ rl, L2.atI (T r0 :: rs.map T) (-1) = some (T rl) ∧ isVec n rl := by
    rw [atI_last' _ (by simp) .non]
    have hm := List.getLast_mem (l := r0 :: rs) (by simp)
    refine ⟨(r0 :: rs).getLast (by simp), ?_, hv _ hm⟩
    congr 1
    rw [show T r0 :: rs.map T = (r0 :: rs).map T from rfl, List.getLastD_eq_getLast?, List.getLast?_eq_some_getLast (by simp), Option.getD_some, List.getLast_map]
  have hi : idxD (.tup (T r0 :: rs.map T)) (.int (-1)) = some (T rl) := hrl
  have hi0 : idxD (.tup (T r0 :: rs.map T)) (.int 0) = some (T r0) := by simp [idxD]
  simp [m_law_right, nthS, f2, hi, hi0]
  generalize hs : forGo _ _ _ _ _ = r
  have key : ∃ (y9 y12 : Option D), r = .nx [some (.cell c), some (.int n), v2, v3, v4, v5, some (T far), v7, v8, y9, some (.tup (T r0 :: rs.map T)), v11, y12, v13, v14, v15, v16, v17] M := by
    rw [← hs]
    obtain ⟨σ', e, i⟩ := forGo_fold (ws := []) (M := M) (step := kt_evS_for_2 ⟨callF P (k + 6), k + 6⟩ (.tp (.cons (.nm 12) (.cons (.nm 9) .nil))) (.cons (.ite (.tru (.cmp .NotEq (.blt .repr (.cons (.call ix_leads (.cons (.var 1) (.cons (.var 12) (.cons (.var 9) .nil))) .nil []) .nil)) (.blt .repr (.cons (.call ix_law_leads (.cons (.var 12) (.cons (.var 9) .nil)) .nil []) .nil)))) (.cons (.ret (.con (.bl false))) .nil) .nil) .nil))
      (fun p : List Int × List Int => .tup [T p.1, T p.2]) (fun (_ : Unit) σ => ∃ (y9 y12 : Option D), σ = [some (.cell c), some (.int n), v2, v3, v4, v5, some (T far), v7, v8, y9, some (.tup (T r0 :: rs.map T)), v11, y12, v13, v14, v15, v16, v17]) (fun b _ => b) [(r0, far), (far, r0), (r0, rl), (r0, negR far)] () [some (.cell c), some (.int n), v2, v3, v4, v5, some (T far), v7, v8, v9, some (.tup (T r0 :: rs.map T)), v11, v12, v13, v14, v15, v16, v17] (by
        rintro ⟨one, two⟩ hp _ σ ⟨y9, y12, rfl⟩
        have hvv : isVec n one ∧ isVec n two := by
          simp only [List.mem_cons, Prod.mk.injEq, List.not_mem_nil, or_false] at hp
          rcases hp with ⟨rfl, rfl⟩ | ⟨rfl, rfl⟩ | ⟨rfl, rfl⟩ | ⟨rfl, rfl⟩
          · exact ⟨h0, hf⟩
          · exact ⟨hf, h0⟩
          · exact ⟨h0, hl⟩
          · exact ⟨h0, hf.neg⟩
        have f3 := leads_ok k n one two M h1 h5 hvv.1 hvv.2
        have f4 := law_leads_ok (k + 5) one two M (by have := hvv.1.1; omega)
        obtain ⟨z2, hz2, hzo2⟩ := rep_bl (leadB one two)
        refine ⟨_, ?_, some (T two), some (T one), rfl⟩
        simp [f3, f4, hz2, cmp_ne_str hzo2 hzo2]) ⟨v9, v12, rfl⟩
    obtain ⟨y9, y12, rfl⟩ := i
    exact ⟨y9, y12, e⟩
  obtain ⟨y9, y12, rfl⟩ := key
  exact ⟨y9, y12, by simp⟩

theorem ovp2 (x y : D) (h : ov 10 x = true) (h2 : ov 10 y = true) : ov 11 (.tup [x, y]) = true :=
  ov_tupS (fun z hz => by simp at hz; rcases hz with rfl | rfl; exact h; exact h2) (by simp)
theorem st15 (k c n L : Nat) (ls : List Int) (xs : List D) (b : Nat) (M : Cs) (h : IsBag M c) (h5 : n ≤ 5) (hb : b ≤ 100) (hxs : okL b xs) (hM : rd M (.cell L) = some (.lst xs)) (hc : c ≠ L) (g : GoodPage n ls) (v2 v3 v4 v6 v7 v9 v10 v11 v12 v13 v14 v15 v16 v17 : Option D) :
    ∃ ys M', okL (b + 4) ys ∧ Bm c M M' ∧ IsBag M' c ∧ evS ⟨callF P (k + 6), k + 6⟩ (nthS m_law_right 15) [some (.cell c), some (.int n), v2, v3, v4, some (.cell L), v6, v7, some (Pg n ls), v9, v10, v11, v12, v13, v14, v15, v16, v17] M = .nx [some (.cell c), some (.int n), v2, v3, v4, some (.cell M.length), v6, v7, some (Pg n ls), v9, v10, v11, v12, v13, v14, v15, v16, v17] (M' ++ [some (.lst ys)]) := by
  have hsm := g.small
  obtain ⟨v, M', hm, bb, gg, e⟩ := one_ok (k + 4) c [.int 20, .int 21, .int (-20), .int (-21)] M h (by simp) (by simp) (by simp)
  obtain ⟨i, rfl⟩ : ∃ i : Int, v = .int i := by
    simp at hm
    rcases hm with rfl | rfl | rfl | rfl <;> exact ⟨_, rfl⟩
  have c1 := cut_any ls none (some (-1))
  have s1 := slc_T ls none (some (-1))
  generalize cut ls none (some (-1)) = A at *
  have t1 := add_T1' A i (by omega)
  have hli : listD [Pg n ls] = some (.lst [.int n, T ls]) := rfl
  have hM' : rd M' (.cell L) = some (.lst xs) := by rw [bb.rd hc, hM]
  have hln : M'.length = M.length := bb.len
  have hok : okL 4 [.tup [.int n, T (A ++ [i])], .lst [.int n, T ls], .tup [.bl true, .tup [.int 1]], .tup [.int 1, .tup [.int 1]]] := by
    refine ⟨?_, by simp⟩
    rw [← List.all_eq_true]
    simp only [List.all_cons, List.all_nil, Bool.and_true, Bool.and_eq_true]
    refine ⟨ovp2 _ _ (ov_int _ _) (ovT (by simp; omega) 9), ov_lstS (fun z hz => ?_) (by simp), ovp2 _ _ (ov_bl _ _) (by simp [ov]), ovp2 _ _ (ov_int _ _) (by simp [ov])⟩
    simp at hz
    rcases hz with rfl | rfl
    · exact ov_int _ _
    · exact ovT (by omega) 9
  generalize A ++ [i] = B at *
  have t3 := add_lst' xs [.tup [.int n, T B], .lst [.int n, T ls], .tup [.bl true, .tup [.int 1]], .tup [.int 1, .tup [.int 1]]] (small (by have := hxs.2; simp; omega))
  have hall := hxs.app hok
  have hf := hall.free
  refine ⟨_, M', hall, bb, gg, ?_⟩
  generalize xs ++ [.tup [.int n, T B], .lst [.int n, T ls], .tup [.bl true, .tup [.int 1]], .tup [.int 1, .tup [.int 1]]] = Z at *
  simp [m_law_right, nthS, hM', s1, t1, t3, hf, intD?, hli, e, hln]
theorem st16 (k c n L : Nat) (ls : List Int) (rows : List (List Int)) (xs : List D) (b : Nat) (M : Cs) (h5 : n ≤ 5) (hb : b ≤ 100) (hxs : okL b xs) (hM : rd M (.cell L) = some (.lst xs)) (g : GoodPage n ls) (hv : ∀ r ∈ rows, isVec n r) (hl : rows.length ≤ 5) (hne : rows ≠ []) (v2 v3 v4 v6 v7 v9 v11 v12 v13 v14 v15 v16 v17 : Option D) :
    ∃ ys, okL (b + 3) ys ∧ evS ⟨callF P (k + 6), k + 6⟩ (nthS m_law_right 16) [some (.cell c), some (.int n), v2, v3, v4, some (.cell L), v6, v7, some (Pg n ls), v9, some (.tup (rows.map T)), v11, v12, v13, v14, v15, v16, v17] M = .nx [some (.cell c), some (.int n), v2, v3, v4, some (.cell M.length), v6, v7, some (Pg n ls), v9, some (.tup (rows.map T)), v11, v12, v13, v14, v15, v16, v17] (M ++ [some (.lst ys)]) := by
  have hsm := g.small
  have hrT := rowsT_ov h5 hv 9
  obtain ⟨rl, hrl, hl2⟩ : ∃ rl, L2.atI (rows.map T) (-1) = some (T rl) ∧ isVec n rl := by
    rw [atI_last' _ (by simpa using hne) .non]
    have hm := List.getLast_mem hne
    refine ⟨rows.getLast hne, ?_, hv _ hm⟩
    rw [List.getLastD_eq_getLast?, List.getLast?_eq_some_getLast (by simpa using hne), Option.getD_some, List.getLast_map]
  have hi : idxD (.tup (rows.map T)) (.int (-1)) = some (T rl) := hrl
  have c1 := cut_any ls none (some (-1))
  have s1 := slc_T ls none (some (-1))
  have c2 := cut_any (rows.map T) none (some (-1))
  have s2 := slc_tup (rows.map T) none (some (-1))
  have hcl : (rows.map T).length ≤ 5 := by simpa using hl
  generalize cut ls none (some (-1)) = A at *
  generalize cut (rows.map T) none (some (-1)) = B at *
  have t1 : binD .Add (T A) (.tup [.bl true]) = some (.tup (A.map .int ++ [.bl true])) := add_tup (A.map .int) [.bl true] (small (by simp; omega))
  have hli : ∀ xs : List Int, listD [T xs] = some (.lst (xs.map .int)) := fun _ => rfl
  have t2 := add_tup B [.lst (rl.map .int)] (small (by simp; omega))
  have hrl1 := hl2.1
  have hIl : ∀ is : List Int, is.length ≤ 2000 → ov 10 (.lst (is.map .int)) = true := fun is hl => ov_lstS (fun z hz => by rw [List.mem_map] at hz; obtain ⟨i, _, rfl⟩ := hz; exact ov_int _ _) (by simpa using hl)
  have hok : okL 3 [.tup [.int n, .lst (ls.map .int)], .tup [.int n, .tup (A.map .int ++ [.bl true])], .tup (B ++ [.lst (rl.map .int)])] := by
    refine ⟨?_, by simp⟩
    rw [← List.all_eq_true]
    simp only [List.all_cons, List.all_nil, Bool.and_true, Bool.and_eq_true]
    refine ⟨ovp2 _ _ (ov_int _ _) (hIl _ (by omega)), ovp2 _ _ (ov_int _ _) (ov_tupS (fun z hz => ?_) (by simp; omega)), ov_tupS (fun z hz => ?_) (by simp; omega)⟩
    · rw [List.mem_append, List.mem_map, List.mem_singleton] at hz
      rcases hz with ⟨i, _, rfl⟩ | rfl
      · exact ov_int _ _
      · exact ov_bl _ _
    · rw [List.mem_append, List.mem_singleton] at hz
      rcases hz with hz | rfl
      · exact hrT z (c2.2 z hz)
      · exact hIl _ (by omega)
  generalize (D.tup (A.map .int ++ [.bl true])) = C at *
  generalize (D.tup (B ++ [.lst (rl.map .int)])) = E at *
  have t3 := add_lst' xs [.tup [.int n, .lst (ls.map .int)], .tup [.int n, C], E] (small (by have := hxs.2; simp; omega))
  have hall := hxs.app hok
  have hf := hall.free
  refine ⟨_, hall, ?_⟩
  generalize xs ++ [.tup [.int n, .lst (ls.map .int)], .tup [.int n, C], E] = Z at *
  simp [m_law_right, nthS, hM, s1, s2, t1, t2, t3, hf, intD?, hli, hi]

theorem it_T (m : Nat) (xs : List Int) (hl : xs.length ≤ 300) (h : ∀ x ∈ xs, -100 ≤ x ∧ x ≤ 100) : it (m + 1) (T xs) = true := by
  rw [T, it_tup]
  simp only [List.length_map, List.all_map, Bool.and_eq_true, decide_eq_true_eq, List.all_eq_true, Function.comp_apply, it_int]
  exact ⟨hl, h⟩
theorem st17 (k c n L : Nat) (ls top : List Int) (rows : List (List Int)) (xs : List D) (b : Nat) (M : Cs) (h : IsBag M c) (h5 : n ≤ 5) (hb : b ≤ 100) (hxs : okL b xs) (hM : rd M (.cell L) = some (.lst xs)) (hc : c ≠ L) (g : GoodPage n ls) (ht : isVec n top) (hv : ∀ r ∈ rows, isVec n r) (hl : rows.length ≤ 5) (v2 v3 v4 v6 v7 v9 v12 v13 v14 v15 v16 v17 : Option D) :
    ∃ ys M', okL (b + 9 + 1) ys ∧ Bm c M M' ∧ IsBag M' c ∧ evS ⟨callF P (k + 6), k + 6⟩ (nthS m_law_right 17) [some (.cell c), some (.int n), v2, v3, v4, some (.cell L), v6, v7, some (Pg n ls), v9, some (.tup (rows.map T)), some (T top), v12, v13, v14, v15, v16, v17] M = .nx [some (.cell c), some (.int n), v2, v3, v4, some (.cell M.length), v6, v7, some (Pg n ls), v9, some (.tup (rows.map T)), some (T top), v12, v13, v14, v15, v16, v17] (M' ++ [some (.lst ys)]) := by
  have hsm := g.small
  have r9 := rng0 9 (by decide)
  rw [show ((9 : Nat) : Int) = 9 from rfl] at r9
  have hits : ∀ x ∈ [T top, .tup (rows.map T), Pg n ls], it 3 x = true := by
    rw [← List.all_eq_true]
    simp only [List.all_cons, List.all_nil, Bool.and_true, Bool.and_eq_true]
    refine ⟨it_T 2 top (by have := ht.1; omega) fun x hx => by have := ht.2.1 x hx; omega, ?_, ?_⟩
    · rw [it_tup]
      simp only [List.length_map, List.all_map, Bool.and_eq_true, decide_eq_true_eq, List.all_eq_true, Function.comp_apply]
      exact ⟨by omega, fun r hr => it_T 1 r (by have := (hv r hr).1; omega) fun x hx => by have := (hv r hr).2.1 x hx; omega⟩
    · rw [Pg, it_tup]
      have := it_T 1 ls (by omega) fun x hx => by have := g.rg x hx; omega
      simp [it_int, this]
      omega
  have hfr : ∀ x ∈ [T top, .tup (rows.map T), Pg n ls], x.free 0 = true := fun x hx => ov_free 3 x (it_ov 3 x (hits x hx))
  generalize hs : evE ⟨callF P (k + 6), k + 6⟩ (.lc [4] (.call ix_law_bent (.cons (.var 0) (.cons (.call ix_law_one (.cons (.var 0) (.cons (.tup (.cons (.var 11) (.cons (.var 10) (.cons (.var 8) .nil)))) .nil)) .nil []) .nil)) .nil []) (.nm 4) (.rng (.con (.int 0)) (.con (.int 9))) .nil) [some (.cell c), some (.int n), v2, v3, v4, some (.cell L), v6, v7, some (Pg n ls), v9, some (.tup (rows.map T)), some (T top), v12, v13, v14, v15, v16, v17] M = r
  have key : ∃ (vs : List D) (M' : Cs), vs.length = 9 ∧ (∀ v ∈ vs, ov 11 v = true) ∧ Bm c M M' ∧ IsBag M' c ∧ r = .ok (.lst vs) M' := by
    simp [r9] at hs
    generalize hq : lcGo _ _ _ _ _ = q at hs
    have key2 : ∃ vs M', vs.length = (List.range 9).length ∧ (∀ v ∈ vs, ov 11 v = true) ∧ Bm c M M' ∧ IsBag M' c ∧ q = .ok vs M' := by
      rw [← hq]
      refine lcGo_bag (fun i : Nat => .int (i : Int)) (fun v => ov 11 v = true) c (List.range 9) M h ?_ (small (by simp))
      intro i _ M hb
      obtain ⟨x, M1, hx, b1, g1, e1⟩ := one_ok (k + 4) c [T top, .tup (rows.map T), Pg n ls] M hb (by simp) (by simp) hfr
      obtain ⟨w, M2, hw, b2, g2, e2⟩ := bent_ok (k + 2) c x M1 g1 (hits x hx)
      exact ⟨w, M2, hw, b1.trans b2, by simp [e1, e2]⟩
    obtain ⟨vs, M', a, b, c, d, rfl⟩ := key2
    exact ⟨vs, M', by simpa using a, b, c, d, by simpa using hs.symm⟩
  obtain ⟨vs, M1, hvl, hvo, b1, g1, rfl⟩ := key
  obtain ⟨o, M2, ho, b2, g2, e2⟩ := odd_thing_ok (k + 3) c M1 g1
  have bb := b1.trans b2
  have hM1 : rd M1 (.cell L) = some (.lst xs) := by rw [b1.rd hc, hM]
  have hM2 : rd M2 (.cell L) = some (.lst xs) := by rw [bb.rd hc, hM]
  have hln : M2.length = M.length := bb.len
  have ok1 : okL 9 vs := ⟨hvo, by omega⟩
  have ok2 : okL 1 [o] := ⟨fun x hx => by rw [List.mem_singleton] at hx; rw [hx]; exact ov_mono 5 11 o (by omega) ho, by simp⟩
  have t1 := add_lst' xs vs (small (by have := hxs.2; omega))
  have hall1 := hxs.app ok1
  have t2 := add_lst' (xs ++ vs) [o] (small (by have := hall1.2; simp at this ⊢; omega))
  have hall := hall1.app ok2
  have hf := hall.free
  refine ⟨_, M2, hall, bb, g2, ?_⟩
  generalize xs ++ vs = Y at *
  generalize Y ++ [o] = Z at *
  simp [m_law_right, nthS, hs, hM1, hM2, t1, t2, hf, e2, hln, -evE_lc]

theorem st18 (k c n L : Nat) (xs : List D) (b : Nat) (M : Cs) (h1 : 1 ≤ n) (h5 : n ≤ 5) (hxs : okL b xs) (hM : rd M (.cell L) = some (.lst xs)) (v2 v3 v4 v6 v7 v8 v9 v10 v11 v12 v13 v14 v15 v16 v17 : Option D) :
    ∃ (y13 y14 y15 : Option D), evS ⟨callF P (k + 6), k + 6⟩ (nthS m_law_right 18) [some (.cell c), some (.int n), v2, v3, v4, some (.cell L), v6, v7, v8, v9, v10, v11, v12, v13, v14, v15, v16, v17] M = .nx [some (.cell c), some (.int n), v2, v3, v4, some (.cell L), v6, v7, v8, v9, v10, v11, v12, y13, y14, y15, v16, v17] M := by
  have hit : itemsD M (.cell L) = some xs := by rw [itemsD, hM]
  simp [m_law_right, nthS, hit]
  generalize hs : forGo _ _ _ _ _ = r
  have key : ∃ (y13 y14 y15 : Option D), r = .nx [some (.cell c), some (.int n), v2, v3, v4, some (.cell L), v6, v7, v8, v9, v10, v11, v12, y13, y14, y15, v16, v17] M := by
    rw [← hs, enumD]
    obtain ⟨σ', e, i⟩ := forGo_fold (ws := watch (.cell L)) (M := M) (step := kt_evS_for_2 ⟨callF P (k + 6), k + 6⟩ (.tp (.cons (.nm 13) (.cons (.nm 14) .nil))) (.cons (.asg (.nm 15) (.ite (.tru (.cmp .Eq (.bin .Mod (.blt .int (.cons (.var 13) .nil)) (.con (.int 2))) (.con (.int 0)))) (.call ix_is_vector (.cons (.var 1) (.cons (.var 14) .nil)) .nil []) (.call ix_is_vector .nil (.cons (.var 14) (.cons (.var 1) .nil)) [1, 0]))) (.cons (.ite (.tru (.cmp .NotEq (.blt .repr (.cons (.var 15) .nil)) (.blt .repr (.cons (.call ix_law_is_vector (.cons (.var 1) (.cons (.var 14) .nil)) .nil []) .nil)))) (.cons (.ret (.con (.bl false))) .nil) .nil) (.cons (.ite (.tru (.cmp .NotEq (.blt .repr (.cons (.call ix_is_chain (.cons (.var 1) (.cons (.var 14) .nil)) .nil []) .nil)) (.blt .repr (.cons (.call ix_law_is_chain (.cons (.var 1) (.cons (.var 14) .nil)) .nil []) .nil)))) (.cons (.ret (.con (.bl false))) .nil) .nil) (.cons (.ite (.tru (.cmp .NotEq (.blt .repr (.cons (.call ix_is_labelling (.cons (.var 14) .nil) .nil []) .nil)) (.blt .repr (.cons (.call ix_law_is_page (.cons (.var 14) .nil) .nil []) .nil)))) (.cons (.ret (.con (.bl false))) .nil) .nil) .nil)))))
      (fun p : D × Nat => .tup [.int p.2, p.1]) (fun (_ : Unit) σ => ∃ (y13 y14 y15 : Option D), σ = [some (.cell c), some (.int n), v2, v3, v4, some (.cell L), v6, v7, v8, v9, v10, v11, v12, y13, y14, y15, v16, v17]) (fun b _ => b) xs.zipIdx () [some (.cell c), some (.int n), v2, v3, v4, some (.cell L), v6, v7, v8, v9, v10, v11, v12, v13, v14, v15, v16, v17] (by
        rintro ⟨v, at_⟩ hp _ σ ⟨y13, y14, y15, rfl⟩
        have hv : ov 11 v = true := hxs.1 v (by
          have := List.mem_zipIdx hp
          simp at this
          rw [this.2]; exact List.getElem_mem _)
        have e1 := is_vector_ok (k + 1) n M h1 h5 v 11 hv
        have e2 := law_is_vector_any (k + 4) n v 11 hv M
        have e3 := is_chain_ok k n M h1 h5 v 11 hv
        have e4 := law_is_chain_any (k + 3) n (by omega) v 11 hv M
        have e5 := is_labelling_ok (k + 1) v 11 hv M
        have e6 := law_is_page_any (k + 4) v 11 hv M
        have p2 : ∀ x y : D, permD [1, 0] [x, y] = [y, x] := fun _ _ => rfl
        obtain ⟨z1, hz1, hzo1⟩ := rep_bl (vecB n v)
        obtain ⟨z2, hz2, hzo2⟩ := rep_bl (chainB n v)
        obtain ⟨z3, hz3, hzo3⟩ := rep_bl (pageB v)
        have hint : ∀ i : Int, intD [.int i] = some (.int i) := fun _ => rfl
        have hmod := modI (at_ : Int) 2 (by decide)
        refine ⟨_, ?_, some (.int at_), some v, some (.bl (vecB n v)), rfl⟩
        by_cases hz : (at_ : Int) % 2 = 0
        · have cz : cmpD .Eq (.int ((at_ : Int) % 2)) (.int 0) = some true := by
            rw [cmp_eq_c 0 (by simp) (by simp) (by omega)]; simp [hz]
          simp [hint, hmod, cz, e1, e2, e3, e4, e5, e6, hz1, hz2, hz3, cmp_ne_str hzo1 hzo1, cmp_ne_str hzo2 hzo2, cmp_ne_str hzo3 hzo3]
        · have cz : cmpD .Eq (.int ((at_ : Int) % 2)) (.int 0) = some false := by
            rw [cmp_eq_c 0 (by simp) (by simp) (by omega)]; simp [hz]
          simp [hint, hmod, cz, p2, e1, e2, e3, e4, e5, e6, hz1, hz2, hz3, cmp_ne_str hzo1 hzo1, cmp_ne_str hzo2 hzo2, cmp_ne_str hzo3 hzo3]) ⟨v13, v14, v15, rfl⟩
    obtain ⟨y13, y14, y15, rfl⟩ := i
    exact ⟨y13, y14, y15, e⟩
  obtain ⟨y13, y14, y15, rfl⟩ := key
  exact ⟨y13, y14, y15, by simp⟩
theorem st19 (k c n : Nat) (ls : List Int) (rows : List (List Int)) (M : Cs) (h1 : 1 ≤ n) (h5 : n ≤ 5) (g : GoodPage n ls) (hv : ∀ r ∈ rows, isVec n r) (hl : rows.length ≤ 5) (hne : rows ≠ []) (hb : beside leadD (rows.map T) = true) (v2 v3 v4 v5 v6 v7 v9 v11 v12 v13 v14 v15 v16 v17 : Option D) :
    evS ⟨callF P (k + 6), k + 6⟩ (nthS m_law_right 19) [some (.cell c), some (.int n), v2, v3, v4, v5, v6, v7, some (Pg n ls), v9, some (.tup (rows.map T)), v11, v12, v13, v14, v15, v16, v17] M = .rt (.bl true) M := by
  have hrT := rowsT_ov h5 hv 9
  have e1 := is_chain_ok k n M h1 h5 (.tup (rows.map T)) 11 (ov_tupS hrT (by simp; omega))
  have e2 := is_labelling_ok (k + 1) (Pg n ls) 11 (Pg_ov (by have := g.small; omega) 9) M
  have hc : chainB n (.tup (rows.map T)) = true := by
    rw [chainB]
    simp only [Bool.and_eq_true, hb, and_true, List.all_map, List.all_eq_true, Function.comp_apply]
    exact ⟨by simpa using hne, fun r hr => (hv r hr).B⟩
  rw [hc] at e1
  rw [g.B] at e2
  have p2 : ∀ x y : D, permD [1, 0] [x, y] = [y, x] := fun _ _ => rfl
  have p1 : ∀ x : D, permD [0] [x] = [x] := fun _ => rfl
  have ht : cmpD .Is (.bl true) (.bl true) = some true := rfl
  simp [m_law_right, nthS, p2, p1, e1, e2, ht, truthD]

def dropS : MSs → Nat → MSs
  | b, 0 => b
  | .cons _ r, n + 1 => dropS r n
  | .nil, _ + 1 => .nil
theorem evSs_at {C : Cl} {b : MSs} {i : Nat} {σ : En} {M : Cs} (h : dropS b i = .cons (nthS b i) (dropS b (i + 1))) : evSs C (dropS b i) σ M = seqS C (dropS b (i + 1)) (evS C (nthS b i) σ M) := by
  conv => lhs; rw [h]
  rw [evSs_cons]
theorem st0 (k c : Nat) (M : Cs) (h : IsBag M c) : ∃ (n : Nat) (M' : Cs), 1 ≤ n ∧ n ≤ 5 ∧ Bm c M M' ∧ IsBag M' c ∧ evS ⟨callF P (k + 6), k + 6⟩ (nthS m_law_right 0) [some (.cell c), none, none, none, none, none, none, none, none, none, none, none, none, none, none, none, none, none] M = .nx [some (.cell c), some (.int n), none, none, none, none, none, none, none, none, none, none, none, none, none, none, none, none] M' := by
  obtain ⟨v, M', hm, b, g, e⟩ := one_ok (k + 4) c [.int 2, .int 3, .int 3, .int 4, .int 1, .int 4, .int 5] M h (by simp) (by simp) (by simp)
  obtain ⟨i, rfl, h1, h5⟩ : ∃ i : Int, v = .int i ∧ 1 ≤ i ∧ i ≤ 5 := by
    simp at hm
    rcases hm with rfl | rfl | rfl | rfl | rfl | rfl <;> exact ⟨_, rfl, by omega, by omega⟩
  obtain ⟨n, rfl⟩ := Int.eq_ofNat_of_zero_le (a := i) (by omega)
  refine ⟨n, M', by omega, by omega, b, g, ?_⟩
  have h7 : (7 ≤ sizeLine) = True := le7
  simp [m_law_right, nthS, e]
theorem st1 (k c n : Nat) (M : Cs) (h : IsBag M c) (hk : 50 ≤ k) (hk2 : k ≤ 80000) (h1 : 1 ≤ n) (h5 : n ≤ 5) : ∃ (ls : List Int) (M' : Cs), GoodPage n ls ∧ Bm c M M' ∧ IsBag M' c ∧ evS ⟨callF P (k + 6), k + 6⟩ (nthS m_law_right 1) [some (.cell c), some (.int n), none, none, none, none, none, none, none, none, none, none, none, none, none, none, none, none] M = .nx [some (.cell c), some (.int n), none, none, none, none, none, some (.lst ((vecZ n).map T)), some (Pg n ls), none, none, none, none, none, none, none, none, none] M' := by
  have e1 := law_vectors_ok (k + 5) n M h1 h5
  obtain ⟨ls, M', g, b, gg, e⟩ := page_ok k c n M h h1 h5 hk hk2
  exact ⟨ls, M', g, b, gg, by simp [m_law_right, nthS, e1, e]⟩
theorem st6 (k c n : Nat) (ls : List Int) (M : Cs) (g : GoodPage n ls) (v2 v3 v4 v5 v6 v7 v9 v10 v11 v12 v13 v14 v15 v16 v17 : Option D) : ∃ ks vs : List D, (∀ x : List Int, lookD (T x) ks vs = (tab ((fwdZ n).zip ls) x).map .int) ∧ evS ⟨callF P (k + 6), k + 6⟩ (nthS m_law_right 6) [some (.cell c), some (.int n), v2, v3, v4, v5, v6, v7, some (Pg n ls), v9, v10, v11, v12, v13, v14, v15, v16, v17] M = .nx [some (.cell c), some (.int n), v2, some (.dct true ks vs), v4, v5, v6, v7, some (Pg n ls), v9, v10, v11, v12, v13, v14, v15, v16, v17] M := by
  obtain ⟨ks, vs, e, hl, _⟩ := law_table_ok (k + 3) n ls M g
  exact ⟨ks, vs, hl, by simp [m_law_right, nthS, e]⟩
theorem st7' (k c n : Nat) (ls : List Int) (ks vs : List D) (M : Cs) (h : IsBag M c) (h1 : 1 ≤ n) (h5 : n ≤ 5) (g : GoodPage n ls) (hlk : ∀ x : List Int, lookD (T x) ks vs = (tab ((fwdZ n).zip ls) x).map .int) (v2 v4 v5 v6 v9 v10 v11 v12 v13 v14 v15 v16 v17 : Option D) :
    ∃ (y4 y9 y12 : Option D) (M' : Cs), Bm c M M' ∧ IsBag M' c ∧ evS ⟨callF P (k + 6), k + 6⟩ (nthS m_law_right 7) [some (.cell c), some (.int n), v2, some (.dct true ks vs), v4, v5, v6, some (.lst ((vecZ n).map T)), some (Pg n ls), v9, v10, v11, v12, v13, v14, v15, v16, v17] M = .nx [some (.cell c), some (.int n), v2, some (.dct true ks vs), y4, v5, v6, some (.lst ((vecZ n).map T)), some (Pg n ls), y9, v10, v11, y12, v13, v14, v15, v16, v17] M' := by
  obtain ⟨y4, y9, y12, M', b, gg, e⟩ := st7 k c n ls ks vs M h h1 h5 g hlk v2 v4 v5 v6 v9 v10 v11 v12 v13 v14 v15 v16 v17
  have r := rng0 12 (by decide)
  rw [show ((12 : Nat) : Int) = 12 from rfl] at r
  exact ⟨y4, y9, y12, M', b, gg, by simp [m_law_right, nthS, r, e]⟩
theorem st8 (k c n : Nat) (M : Cs) (h : IsBag M c) (h1 : 1 ≤ n) (h5 : n ≤ 5) (v2 v3 v4 v5 v6 v8 v9 v10 v11 v12 v13 v14 v15 v16 v17 : Option D) : ∃ (rows : List (List Int)) (top : List Int) (M' : Cs), rows ≠ [] ∧ rows.length ≤ 5 ∧ (∀ r ∈ rows, isVec n r) ∧ beside leadD (rows.map T) = true ∧ isVec n top ∧ Bm c M M' ∧ IsBag M' c ∧ evS ⟨callF P (k + 6), k + 6⟩ (nthS m_law_right 8) [some (.cell c), some (.int n), v2, v3, v4, v5, v6, some (.lst ((vecZ n).map T)), v8, v9, v10, v11, v12, v13, v14, v15, v16, v17] M = .nx [some (.cell c), some (.int n), v2, v3, v4, v5, v6, some (.lst ((vecZ n).map T)), v8, v9, some (.tup (rows.map T)), some (T top), v12, v13, v14, v15, v16, v17] M' := by
  obtain ⟨rows, M1, a1, a2, a3, a4, b1, g1, e1⟩ := part_chain_ok (k + 2) c n M h h1 h5
  obtain ⟨top, M2, ht, b2, g2, e2⟩ := vec_one (k + 4) c n M1 g1 h1 h5
  exact ⟨rows, top, M2, a1, a2, a3, a4, ht, b1.trans b2, g2, by simp [m_law_right, nthS, e1, e2]⟩
theorem IsBag.set {M : Cs} {c L : Nat} (h : IsBag M c) (ne : L ≠ c) (d : Option D) : IsBag (M.set L d) c := by
  obtain ⟨x, y, z, e⟩ := h
  exact ⟨x, y, z, by rw [rd_set_ne _ _ _ _ ne, e]⟩
theorem rd_apL (M : Cs) (a : D) (L : Nat) (h : M.length = L) : rd (M ++ [some a]) (.cell L) = some (a) := by
  subst h
  simp
theorem right_ok (k c : Nat) (M : Cs) (h : IsBag M c) (hk : 50 ≤ k) (hk2 : k ≤ 80000) : ∃ M', callF P (k + 7) ix_law_right [.cell c] M = .ok (.bl true) M' := by
  have hcl := h.lt
  obtain ⟨n, M1, h1, h5, b1, g1, e0⟩ := st0 k c M h
  obtain ⟨ls, M2, g, b2, g2, e1⟩ := st1 k c n M1 g1 hk hk2 h1 h5
  have e2 := st2 k c n M2 h1 h5 none none none none none (some (Pg n ls)) none none none none none none none none none
  have e3 := st3 k c n M2 h1 h5 none none none none none (some (.lst ((vecZ n).map T))) (some (Pg n ls)) none none none none none none none none none
  have e4 := st4 k c n ls M2 h1 h5 g none none none none (some (.lst ((vecZ n).map T))) none none none none none none none none none
  have e5 := st5 k c n ls M2 h1 h5 g (some (Pg n ((fwdZ n).map lastT))) none none none none (some (.lst ((vecZ n).map T))) none none none none none none none none none
  obtain ⟨ks, vs, hlk, e6⟩ := st6 k c n ls M2 g (some (Pg n ((fwdZ n).map lastT))) none none none none (some (.lst ((vecZ n).map T))) none none none none none none none none none
  obtain ⟨y4, y9, y12, M3, b3, g3, e7⟩ := st7' k c n ls ks vs M2 g2 h1 h5 g hlk (some (Pg n ((fwdZ n).map lastT))) none none none none none none none none none none none none
  obtain ⟨rows, top, M4, hne, hrl, hrv, hbs, ht, b4, g4, e8⟩ := st8 k c n M3 g3 h1 h5 (some (Pg n ((fwdZ n).map lastT))) (some (.dct true ks vs)) y4 none none (some (Pg n ls)) y9 none none y12 none none none none none
  have l4 : M4.length = M.length := by rw [b4.len, b3.len, b2.len, b1.len]
  obtain ⟨x9, o9, e9⟩ := st9 k c n ls top rows M4 h1 h5 g ht hrv hrl (some (Pg n ((fwdZ n).map lastT))) (some (.dct true ks vs)) y4 none none (some (.lst ((vecZ n).map T))) y9 y12 none none none none none
  have g5 := g4.ap [some (D.lst x9)]
  obtain ⟨x10, o10, e10⟩ := st10 k c n M4.length top rows x9 10 (M4 ++ [some (D.lst x9)]) h5 (by omega) o9 (rd_apL _ _ _ rfl) ht hrv hrl (some (Pg n ((fwdZ n).map lastT))) (some (.dct true ks vs)) y4 none (some (.lst ((vecZ n).map T))) (some (Pg n ls)) y9 y12 none none none none none
  have g6 := g5.ap [some (D.lst x10)]
  generalize hM5 : M4 ++ [some (D.lst x9)] = M5 at *
  have l5 : M.length ≤ M5.length := by rw [← hM5]; simp; omega
  obtain ⟨x11, o11, e11⟩ := st11 k c n M5.length ls x10 14 (M5 ++ [some (D.lst x10)]) h5 (by omega) o10 (rd_apL _ _ _ rfl) g (some (Pg n ((fwdZ n).map lastT))) (some (.dct true ks vs)) y4 none (some (.lst ((vecZ n).map T))) y9 (some (.tup (rows.map T))) (some (T top)) y12 none none none none none
  have g7 := g6.ap [some (D.lst x11)]
  generalize hM6 : M5 ++ [some (D.lst x10)] = M6 at *
  have l6 : M.length ≤ M6.length := by rw [← hM6]; simp; omega
  obtain ⟨x12, o12, e12⟩ := st12 k c n M6.length x11 19 (M6 ++ [some (D.lst x11)]) (by omega) o11 (rd_apL _ _ _ rfl) (some (Pg n ((fwdZ n).map lastT))) (some (.dct true ks vs)) y4 none (some (.lst ((vecZ n).map T))) (some (Pg n ls)) y9 (some (.tup (rows.map T))) (some (T top)) y12 none none none none none
  have hn6 : M6.length ≠ c := by omega
  have g8 : IsBag ((M6 ++ [some (D.lst x11)]).set M6.length (some (D.lst x12))) c := g7.set hn6 _
  have r8 : rd ((M6 ++ [some (D.lst x11)]).set M6.length (some (D.lst x12))) (.cell M6.length) = some (D.lst x12) := by simp
  generalize hM7 : (M6 ++ [some (D.lst x11)]).set M6.length (some (D.lst x12)) = M7 at *
  have l7 : M.length ≤ M7.length := by rw [← hM7]; simp; omega
  obtain ⟨r0, rs, rfl⟩ : ∃ r0 rs, rows = r0 :: rs := by
    cases rows with
    | nil => exact (hne rfl).elim
    | cons a b => exact ⟨a, b, rfl⟩
  obtain ⟨far, M8, hfar, b8, g9, e13⟩ := st13 k c n r0 (rs.map T) M7 g8 h1 h5 (hrv r0 List.mem_cons_self) (some (Pg n ((fwdZ n).map lastT))) (some (.dct true ks vs)) y4 (some (.cell M6.length)) none (some (.lst ((vecZ n).map T))) (some (Pg n ls)) y9 (some (T top)) y12 none none none none none
  have r9 : rd M8 (.cell M6.length) = some (D.lst x12) := by rw [b8.rd (by omega), r8]
  obtain ⟨z9, z12, e14⟩ := st14 k c n r0 far rs M8 h1 h5 hrv hfar (some (Pg n ((fwdZ n).map lastT))) (some (.dct true ks vs)) y4 (some (.cell M6.length)) (some (.lst ((vecZ n).map T))) (some (Pg n ls)) y9 (some (T top)) y12 none none none none none
  obtain ⟨x15, M9, o15, b9, g10, e15⟩ := st15 k c n M6.length ls x12 20 M8 g9 h5 (by omega) o12 r9 (by omega) g (some (Pg n ((fwdZ n).map lastT))) (some (.dct true ks vs)) y4 (some (T far)) (some (.lst ((vecZ n).map T))) z9 (some (.tup ((r0 :: rs).map T))) (some (T top)) z12 none none none none none
  have l8 : M8.length = M7.length := b8.len
  have l9 : M9.length = M8.length := b9.len
  have g11 := g10.ap [some (D.lst x15)]
  obtain ⟨x16, o16, e16⟩ := st16 k c n M8.length ls (r0 :: rs) x15 24 (M9 ++ [some (D.lst x15)]) h5 (by omega) o15 (rd_apL _ _ _ l9) g hrv hrl (by simp) (some (Pg n ((fwdZ n).map lastT))) (some (.dct true ks vs)) y4 (some (T far)) (some (.lst ((vecZ n).map T))) z9 (some (T top)) z12 none none none none none
  have g12 := g11.ap [some (D.lst x16)]
  generalize hM10 : M9 ++ [some (D.lst x15)] = M10 at *
  have l10 : M.length ≤ M10.length := by rw [← hM10]; simp; omega
  obtain ⟨x17, M11, o17, b11, g13, e17⟩ := st17 k c n M10.length ls top (r0 :: rs) x16 27 (M10 ++ [some (D.lst x16)]) g12 h5 (by omega) o16 (rd_apL _ _ _ rfl) (by omega) g ht hrv hrl (some (Pg n ((fwdZ n).map lastT))) (some (.dct true ks vs)) y4 (some (T far)) (some (.lst ((vecZ n).map T))) z9 z12 none none none none none
  have l11 : M11.length = (M10 ++ [some (D.lst x16)]).length := b11.len
  generalize hL : (M10 ++ [some (D.lst x16)]).length = L at *
  obtain ⟨y13, y14, y15, e18⟩ := st18 k c n L x17 37 (M11 ++ [some (D.lst x17)]) h1 h5 o17 (rd_apL _ _ _ l11) (some (Pg n ((fwdZ n).map lastT))) (some (.dct true ks vs)) y4 (some (T far)) (some (.lst ((vecZ n).map T))) (some (Pg n ls)) z9 (some (.tup ((r0 :: rs).map T))) (some (T top)) z12 none none none none none
  have e19 := st19 k c n ls (r0 :: rs) (M11 ++ [some (D.lst x17)]) h1 h5 g hrv hrl (by simp) hbs (some (Pg n ((fwdZ n).map lastT))) (some (.dct true ks vs)) y4 (some (.cell L)) (some (T far)) (some (.lst ((vecZ n).map T))) z9 (some (T top)) z12 y13 y14 y15 none none
  refine ⟨(M11 ++ [some (D.lst x17)]).take M.length, ?_⟩
  rw [call_eq (F := mf_law_right) rfl rfl]
  show finF false M.length (evSs ⟨callF P (k + 6), k + 6⟩ (dropS m_law_right 0) [some (.cell c), none, none, none, none, none, none, none, none, none, none, none, none, none, none, none, none, none] M) = _
  rw [evSs_at rfl, e0, seqS_nx, evSs_at rfl, e1, seqS_nx]
  rw [evSs_at rfl, show evS ⟨callF P (k + 6), k + 6⟩ (nthS m_law_right 2) _ _ = _ from e2, seqS_nx]
  rw [evSs_at rfl, show evS ⟨callF P (k + 6), k + 6⟩ (nthS m_law_right 3) _ _ = _ from e3, seqS_nx]
  rw [evSs_at rfl, show evS ⟨callF P (k + 6), k + 6⟩ (nthS m_law_right 4) _ _ = _ from e4, seqS_nx]
  rw [evSs_at rfl, show evS ⟨callF P (k + 6), k + 6⟩ (nthS m_law_right 5) _ _ = _ from e5, seqS_nx]
  rw [evSs_at rfl, e6, seqS_nx, evSs_at rfl, e7, seqS_nx, evSs_at rfl, e8, seqS_nx]
  rw [evSs_at rfl, show evS ⟨callF P (k + 6), k + 6⟩ (nthS m_law_right 9) _ _ = _ from e9, seqS_nx]
  rw [evSs_at rfl, show evS ⟨callF P (k + 6), k + 6⟩ (nthS m_law_right 10) _ _ = _ from e10, seqS_nx]
  rw [evSs_at rfl, show evS ⟨callF P (k + 6), k + 6⟩ (nthS m_law_right 11) _ _ = _ from e11, seqS_nx]
  rw [evSs_at rfl, show evS ⟨callF P (k + 6), k + 6⟩ (nthS m_law_right 12) _ _ = _ from e12, seqS_nx]
  rw [List.map_cons] at e15 e16 e17 e18 e19 ⊢
  rw [evSs_at rfl, e13, seqS_nx, evSs_at rfl, e14, seqS_nx, evSs_at rfl, e15, seqS_nx, evSs_at rfl, e16, seqS_nx, evSs_at rfl, e17, seqS_nx, evSs_at rfl, e18, seqS_nx, evSs_at rfl, e19, seqS_rt]
  simp [finF]
theorem law_ok (k : Nat) (ns : List Int) (h : ns.length ≤ 63) (hk : 50 ≤ k) (hk2 : k ≤ 80000) : ∃ M, callF P (k + 8) ix_law [.scr ns] [] = .ok (.bl true) M := by
  rw [call_eq (F := mf_law) rfl rfl]
  simp [m_law, rng1 (max 1 (min (ns.length : Int) 2)) (by omega) (by omega)]
  obtain ⟨M', e⟩ := lcGo_any (step := kt_evE_lc_2 ⟨callF P (k + 7), k + 7⟩ [1] (.call ix_law_right (.cons (.call ix_law_well (.cons (.var 0) (.cons (.var 1) .nil)) .nil []) .nil) .nil []) (.nm 1) .nil [some (.scr ns), none]) (fun i : Nat => .int (i : Int)) (.bl true) (List.range (max 1 (min (ns.length : Int) 2)).toNat) [] (by
    intro i _ M
    obtain ⟨a, b, c, e⟩ := well_ok (k + 6) ns i M
    obtain ⟨M', e2⟩ := right_ok k M.length (M ++ [some (.lst [.int a, .int b, .int c])]) ⟨a, b, c, by simp⟩ hk hk2
    exact ⟨M', by simp [e, e2]⟩) (by rw [List.length_range]; exact small (by omega))
  rw [intsD, e]
  simp
theorem pure (ns : List Int) (h : ns.length ≤ 63) : ∃ M, callF (Ds.map (·.mf)) 60 lawIx [.scr ns] [] = .ok (.bl true) M := by
  have e : Ds.map (·.mf) = P := id rfl
  rw [e]
  exact law_ok 52 ns h (by omega) (by omega)

end Mk
namespace Mk
open PySem PySem.Spec PyProof.Rows L2 Mp

abbrev body : List Stmt := PySem.Challenge.pw_labelledspheres_k02_vectors_chains_label.main.body
def dOf (st : Stmt) : He.DefD := match st with
  | .FunctionDef n a b _ _ _ sc _ _ _ => ⟨(n, none), n, n, a, b, sc, [], []⟩
  | _ => ⟨("", none), "", "", defArgs st, [], defScope st, [], []⟩
def isD (st : Stmt) : Bool := match st with
  | .FunctionDef .. => true
  | _ => false
def fn : List He.DefD := (body.filter isD).map dOf
theorem chk : chkDs Ds bi cs Ds fn = true := by kernel_rfl
def fas : List He.Fa := (Ds.map fun d => He.Fa.glo d.nm) ++ (bi.map He.Fa.free) ++ cs.map fun p => He.Fa.int p.1 p.2
abbrev R : PySem.W.OpenRow := PySem.W.OpenLaw.row PySem.Challenge.rw_labelledspheres_k02_vectors_chains_label
abbrev hk : PySem.W.Hook := He.hookD 4 fas fn
def ob (s : PySem.W.SharedT) : He.AlD := He.obsDG 4 fas fn (HandSHeadRun.getT s)
theorem ob_eq (s : PySem.W.SharedT) : ob s = hk.obs s.abs := He.obsDG_eq (HandSHeadRun.getT_eq s)
def names : List PySem.Str := (["is_whole", "is_between", "is_tuple_of", "all_rows", "is_row_of", "is_vector_by", "vectors_by", "first_sign", "forward_by", "turned_about", "does_lead", "is_chain_by", "is_label", "is_labelling_by", "labels_by", "last_thing_by", "last_index", "greatest_by", "check_many", "check_things", "check_vector", "check_labelling", "vectors", "forward_vectors", "is_vector", "is_chain", "opposite", "leads", "is_labelling", "label"] : List PySem.Str) ++ (["last_thing", "greatest", "_law_well", "_law_draw", "_law_one", "_law_mixed", "_law_is_whole", "_law_odd_thing", "_law_bent", "_law_vectors", "_law_opposite", "_law_is_forward", "_law_leads", "_law_fore", "_law_table", "_law_above", "_law_clashes", "_law_is_vector", "_law_is_chain", "_law_is_page", "_law_last", "_law_moved", "_law_sides", "_law_within", "_law_alternation", "_law_rows", "_law_held", "_law_apart", "_law_lots", "_law_family"] : List PySem.Str) ++ (["_law_coloured", "_law_by_colours", "_law_mended", "_law_page", "_law_part_chain", "_law_right", "SphereError", "InvalidNumber", "InvalidVector", "InvalidLabelling", "MOST_LABEL", "MOST_THINGS"] : List PySem.Str)
theorem run (w : World) : HandSHeadRun.RunEq R (PySem.W.view R.prog [80]) hk ob 12000 names w := by
  intro os
  kernel_rfl
end Mk
open PySem PySem.W PySem.Calls PyProof.Rows
theorem PySem.Challenge.cw_labelledspheres_k02_vectors_chains_label_holds : PySem.Challenge.rw_labelledspheres_k02_vectors_chains_label.Holds := by
  w_on; o_law
  refine HandSHeadRun.head_any (r := OpenLaw.row PySem.Challenge.rw_labelledspheres_k02_vectors_chains_label) (q := view (OpenLaw.row PySem.Challenge.rw_labelledspheres_k02_vectors_chains_label).prog [80]) (H := Mk.hk) (ob := Mk.ob) (M := 12000) (loose := Mk.names) (d := HandSHeadRun.topDef (OpenLaw.row PySem.Challenge.rw_labelledspheres_k02_vectors_chains_label).prog 80) (kwd := []) Mk.ob_eq
    (by kernel_rfl) (fun s => by kernel_rfl) Mk.run (by kernel_rfl) (by kernel_rfl) (by kernel_rfl) (by rfl) (by first | assumption | decide +kernel) (by decide +kernel) ⟨rfl, rfl, rfl, rfl, rfl, by decide +kernel⟩ ?hw ?hc
  case hw => w_witness2
  case hc =>
    refine Mp.walk_m (l := PySem.Challenge.rw_labelledspheres_k02_vectors_chains_label) (n := 63) (k := 60) (f := Mk.lawIx) (x := "script") (Ds := Mk.Ds) (fn := Mk.fn) (fas := Mk.fas) (bi := Mk.bi) (cs := Mk.cs) (df := Mk.Ds.getD Mk.lawIx ⟨"", [], [], ⟨0, 0, .nil, false⟩⟩) rfl (by decide) (by kernel_rfl) ⟨rfl, by decide, by decide⟩ (fun w h Y => Y) rfl rfl (by kernel_rfl) rfl Mk.chk Mk.pure
