import PyProof.Rows.All
import HandS.ForMost
import HandS.ForExc
import KE.SortData
import KE.DataMinMax
import PyProof.ReprReads
import HandS.Deep
import HandS.TupAny
import HandS.TupMul
import HandS.Style
import HandS.TupLen
import HandS.WordsDict
import HandS.Conv
import HandS.More
import KE.DataCmp
import PyProof.TupleOfSeq
import KE.DataAny
import HandS.Comp
import HandS.Defaults
import HandS.CallSlots
import OpenK.KMore
import HandS.Flow
import HandS.IsInst
import HandS.Dict
import HandS.Walk
import HandS.Star
import HandS.DictComp
import HandS.Zip
import HandS.TryOnly
import KE.GoesEnum
import HandS.Iter
import PyProof.DictCompW
import PyProof.DictUpdate
import PyProof.FactsAll.dict_1
import PyProof.FactsAll.dict_2
import PyProof.DictDisplay
import KE.KDictZip
import HandS.SetFor
import HandS.Strs
import HandS.ExcInit
import HandS.ExcOwn
import HandS.ExcField
import HandS.TryMany
import KE.KExcSuper
import KE.KSuper
import HandS.HeadHook1
import HandS.ExcIs
import KE.KExcIs
import HandS.MakeKwOnly
import HandS.Zip0
import KE.KDictCopyH
import HandS.HeadHook2
import HandS.Ends
import HandS.HeadEnd
import PyProof.ReprLen
import KE.KStateDown
import HandS.Head0
import HandS.Head1
import HandS.Head2
import PySem.Challenge.RW_labelledspheres_k01_errors_each_of_its_o
set_option Elab.async false
set_option linter.all false
set_option maxRecDepth 100000
set_option autoImplicit false
set_option maxHeartbeats 0
/-! A small pure evaluator for the part of Python that the program and the laws use: tuples, lists, dicts as data without addresses; lists and dicts that are changed in place are cells. -/
namespace Mp
open PySem

/-! ### data -/
inductive D where
  | non | bl (b : Bool) | int (i : Int) | str (x : Str)
  | tup (xs : List D) | lst (xs : List D)
  /-- keys (t: tuples; else ints and texts), values -/
  | dct (t : Bool) (ks vs : List D)
  /-- a list or dict that may be changed in place -/
  | cell (n : Nat)
  /-- a def of the text -/
  | fn (x : Str)
  /-- an exception of an own class, what it keeps -/
  | exc (c : Str) (as : List D)
  /-- the script -/
  | scr (ns : List Int)

instance : Inhabited D := ⟨.non⟩

mutual
/-- as the library's data -/
def D.py : D → PyData
  | .non => .none
  | .bl b => .bool b
  | .int i => .int i
  | .str x => .str x
  | .tup xs => .tuple (pys xs)
  | .lst xs => .list (pys xs)
  | .dct _ _ _ => .dict []
  | .cell _ => .dict []
  | .fn _ => .dict []
  | .exc _ _ => .dict []
  | .scr _ => .dict []
def pys : List D → List PyData
  | [] => []
  | x :: xs => x.py :: pys xs
end

mutual
/-- no cell from n on -/
def D.free (n : Nat) : D → Bool
  | .non => true
  | .bl _ => true
  | .int _ => true
  | .str _ => true
  | .tup xs => frees n xs
  | .lst xs => frees n xs
  | .dct _ ks vs => frees n ks && frees n vs
  | .cell m => decide (m < n)
  | .fn _ => true
  | .exc _ as => frees n as
  | .scr _ => true
def frees (n : Nat) : List D → Bool
  | [] => true
  | x :: xs => x.free n && frees n xs
end

mutual
/-- data whose dicts are empty -/
def D.shE : D → Bool
  | .non => true
  | .bl _ => true
  | .int _ => true
  | .str _ => true
  | .tup xs => shEs xs
  | .lst xs => shEs xs
  | .dct _ ks vs => ks.isEmpty && vs.isEmpty
  | .cell _ => false
  | .fn _ => false
  | .exc _ _ => false
  | .scr _ => false
def shEs : List D → Bool
  | [] => true
  | x :: xs => x.shE && shEs xs
end

mutual
def D.beq : D → D → Bool
  | .non, .non => true
  | .bl a, .bl b => a == b
  | .int a, .int b => a == b
  | .str a, .str b => decide (a = b)
  | .tup a, .tup b => beqs a b
  | .lst a, .lst b => beqs a b
  | .dct t a b, .dct u c d => t == u && (beqs a c && beqs b d)
  | .cell a, .cell b => a == b
  | .fn a, .fn b => decide (a = b)
  | .exc a b, .exc c d => decide (a = c) && beqs b d
  | .scr a, .scr b => decide (a = b)
  | _, _ => false
def beqs : List D → List D → Bool
  | [], [] => true
  | x :: xs, y :: ys => x.beq y && beqs xs ys
  | _, _ => false
end

mutual
theorem D.eq_of_beq : ∀ (x y : D), x.beq y = true → x = y
  | .non, y, h => by cases y <;> simp [D.beq] at h ⊢
  | .bl a, y, h => by cases y <;> simp [D.beq] at h ⊢; exact h
  | .int a, y, h => by cases y <;> simp [D.beq] at h ⊢; exact h
  | .str a, y, h => by cases y <;> simp [D.beq] at h ⊢; exact h
  | .tup a, y, h => by cases y <;> simp [D.beq] at h ⊢; exact eq_of_beqs _ _ h
  | .lst a, y, h => by cases y <;> simp [D.beq] at h ⊢; exact eq_of_beqs _ _ h
  | .dct t a b, y, h => by cases y <;> simp [D.beq] at h ⊢; exact ⟨h.1, eq_of_beqs _ _ h.2.1, eq_of_beqs _ _ h.2.2⟩
  | .cell a, y, h => by cases y <;> simp [D.beq] at h ⊢; exact h
  | .fn a, y, h => by cases y <;> simp [D.beq] at h ⊢; exact h
  | .exc a b, y, h => by cases y <;> simp [D.beq] at h ⊢; exact ⟨h.1, eq_of_beqs _ _ h.2⟩
  | .scr a, y, h => by cases y <;> simp [D.beq] at h ⊢; exact h
theorem eq_of_beqs : ∀ (x y : List D), beqs x y = true → x = y
  | [], y, h => by cases y <;> simp [beqs] at h ⊢
  | x :: xs, y, h => by cases y <;> simp [beqs] at h ⊢; exact ⟨D.eq_of_beq _ _ h.1, eq_of_beqs _ _ h.2⟩
end
mutual
theorem D.beq_self : ∀ (x : D), x.beq x = true
  | .non => rfl
  | .bl a => by simp [D.beq]
  | .int a => by simp [D.beq]
  | .str a => by simp [D.beq]
  | .tup a => by simp [D.beq, beqs_self a]
  | .lst a => by simp [D.beq, beqs_self a]
  | .dct t a b => by simp [D.beq, beqs_self a, beqs_self b]
  | .cell a => by simp [D.beq]
  | .fn a => by simp [D.beq]
  | .exc a b => by simp [D.beq, beqs_self b]
  | .scr a => by simp [D.beq]
theorem beqs_self : ∀ (x : List D), beqs x x = true
  | [] => rfl
  | x :: xs => by simp [beqs, D.beq_self x, beqs_self xs]
end
instance : DecidableEq D := fun x y => if h : x.beq y = true then .isTrue (D.eq_of_beq _ _ h) else .isFalse (fun e => h (e ▸ D.beq_self x))

/-- the cells: what stands at each (none: gone) -/
abbrev Cs := List (Option D)
abbrev En := List (Option D)

/-- what an evaluation ends in -/
inductive Res (α : Type) where
  | ok (a : α) (M : Cs)
  | ex (e : D) (M : Cs)
  | bad
def Res.bind {α β : Type} : Res α → (α → Cs → Res β) → Res β
  | .ok a M, f => f a M
  | .ex e M, _ => .ex e M
  | .bad, _ => .bad
@[simp] theorem ok_bind {α β : Type} (a : α) (M : Cs) (f : α → Cs → Res β) : (Res.ok a M).bind f = f a M := by rw [Res.bind]
@[simp] theorem ex_bind {α β : Type} (a : D) (M : Cs) (f : α → Cs → Res β) : (Res.ex a M : Res α).bind f = .ex a M := by rw [Res.bind]
@[simp] theorem bad_bind {α β : Type} (f : α → Cs → Res β) : (Res.bad : Res α).bind f = .bad := by rw [Res.bind]
theorem bind_assoc {α β γ : Type} (x : Res α) (f : α → Cs → Res β) (g : β → Cs → Res γ) : (x.bind f).bind g = x.bind fun a M => (f a M).bind g := by cases x <;> rfl
/-- an option's value, nothing changed -/
def opt {α : Type} (o : Option α) (M : Cs) : Res α := match o with
  | some a => .ok a M
  | none => .bad
@[simp] theorem opt_some {α : Type} (a : α) (M : Cs) : opt (some a) M = .ok a M := by rw [opt]
@[simp] theorem opt_none {α : Type} (M : Cs) : opt (none : Option α) M = .bad := by rw [opt]

/-- what is read: a cell's contents -/
def rd (M : Cs) : D → Option D
  | .cell n => (match M[n]? with
    | some (some d) => some d
    | _ => none)
  | d => some d
def rds (M : Cs) : List D → Option (List D)
  | [] => some []
  | d :: ds => match rd M d, rds M ds with
    | some x, some xs => some (x :: xs)
    | _, _ => none

/-! ### operations on values that are read -/
def truthD : D → Option Bool
  | .non => some false
  | .bl b => some b
  | .int i => some (i != 0)
  | .str x => if x.length ≤ sizeLine then some (x.length != 0) else none
  | .tup xs => some (!xs.isEmpty)
  | .lst xs => some (!xs.isEmpty)
  | _ => none

def big : Int := 18446744073709551616
/-- binary operators -/
def binD : Operator → D → D → Option D
  | .Add, .int i, .int j => some (.int (i + j))
  | .Sub, .int i, .int j => some (.int (i - j))
  | .Mult, .int i, .int j => if (-big < i && decide (i < big)) || (-big < j && decide (j < big)) then some (.int (i * j)) else none
  | .FloorDiv, .int i, .int j => if 0 < j && decide (j < 1073741824) then some (.int (i / j)) else none
  | .Mod, .int i, .int j => if 0 < j then some (.int (i % j)) else none
  | .Pow, .int i, .int j => if 0 ≤ j && decide (j ≤ 1000000) && decide (i.natAbs < 18446744073709551616) then some (.int (i ^ j.toNat)) else none
  | .Add, .lst a, .lst b => if a.length + b.length ≤ sizeLine then some (.lst (a ++ b)) else none
  | .Add, .tup a, .tup b => if a.length + b.length ≤ sizeLine then some (.tup (a ++ b)) else none
  | .Add, .str a, .str b => if a.length + b.length ≤ sizeLine then some (.str (a ++ b)) else none
  | .Mult, .tup a, .int k => if 1 ≤ k && decide (k ≤ 1000) && decide (a.length ≤ 1000) && !a.isEmpty then some (.tup (List.replicate k.toNat a).flatten) else none
  | .Mult, .lst a, .int k => if -(2 ^ 63) ≤ k && decide (k < 2 ^ 63) && decide (a.length * k.toNat ≤ sizeLine) then some (.lst (List.replicate k.toNat a).flatten) else none
  | _, _, _ => none

def sh (d : D) : Bool := SeqAt.shaped d.py
def eqD (a b : D) : Bool := PyData.eqv a.py b.py
/-- place of x among xs, by == -/
def findD (x : D) : List D → Option Nat
  | [] => none
  | y :: ys => if eqD y x then some 0 else (findD x ys).map (· + 1)
def memD (x : D) (xs : List D) : Bool := xs.any fun y => eqD y x
def lookD (k : D) : List D → List D → Option D
  | a :: ks, v :: vs => if a = k then some v else lookD k ks vs
  | _, _ => none
def isKeyK : D → Bool
  | .int _ => true
  | .str _ => true
  | _ => false
def isKeyT : D → Bool
  | .tup xs => xs.all isKeyK
  | _ => false
def isKey (t : Bool) (d : D) : Bool := if t then isKeyT d else isKeyK d
/-- d[k] = v -/
def putD (k v : D) (ks vs : List D) : List D × List D :=
  if (ks.any fun a => decide (a = k)) = true then (ks, (ks.zip vs).map fun p => if p.1 = k then v else p.2) else (ks ++ [k], vs ++ [v])

def isNonD : D → Bool
  | .non => true
  | _ => false
/-- a tuple and the empty one, whatever it holds -/
def empT : D → D → Option Bool
  | .tup xs, .tup [] => some xs.isEmpty
  | _, _ => none
def cmpD : CmpOp → D → D → Option Bool
  | .Eq, a, b => if sh a && sh b then some (eqD a b) else empT a b
  | .NotEq, a, b => if sh a && sh b then some (!eqD a b) else none
  | .Lt, .int i, .int j => some (decide (i < j))
  | .LtE, .int i, .int j => some (decide (i ≤ j))
  | .Gt, .int i, .int j => some (decide (j < i))
  | .GtE, .int i, .int j => some (decide (j ≤ i))
  | .Lt, .tup a, .tup b => if sh (.tup a) && sh (.tup b) && W.alike (D.tup a).py (D.tup b).py then some (W.dataLt (D.tup a).py (D.tup b).py) else none
  | .Is, a, .non => some (isNonD a)
  | .IsNot, a, .non => some (!isNonD a)
  | .Is, .bl a, .bl b => some (a == b)
  | .IsNot, .bl a, .bl b => some (!(a == b))
  | .In, x, .tup xs => if sh x && sh (.tup xs) then some (memD x xs) else none
  | .In, x, .lst xs => if sh x && sh (.lst xs) then some (memD x xs) else none
  | .NotIn, x, .tup xs => if sh x && sh (.tup xs) then some (!memD x xs) else none
  | .NotIn, x, .lst xs => if sh x && sh (.lst xs) then some (!memD x xs) else none
  | .In, k, .dct t ks vs => if isKey t k then some (lookD k ks vs).isSome else none
  | .NotIn, k, .dct t ks vs => if isKey t k then some (!(lookD k ks vs).isSome) else none
  | _, _, _ => none

/-- a part of a row -/
def cut {α : Type} (xs : List α) (lo hi : Option Int) : List α := (xs.drop (HT.sIx xs.length 0 lo)).take (HT.sIx xs.length xs.length hi - HT.sIx xs.length 0 lo)
def everyK {α : Type} (k : Nat) : Nat → List α → List α
  | _, [] => []
  | 0, x :: xs => x :: everyK k (k - 1) xs
  | n + 1, _ :: xs => everyK k n xs
def partD : D → Option (Option Int)
  | .non => some none
  | .int i => some (some i)
  | _ => none
def ptD : Option Int → D
  | none => .non
  | some i => .int i
def slcD : D → D → D → D → Option D
  | .lst xs, lo, hi, .non => match partD lo, partD hi with
    | some a, some b => some (.lst (cut xs a b))
    | _, _ => none
  | .tup xs, lo, hi, .non => match partD lo, partD hi with
    | some a, some b => some (.tup (cut xs a b))
    | _, _ => none
  | .scr xs, lo, hi, .non => match partD lo, partD hi with
    | some a, some b => some (.lst ((cut xs a b).map .int))
    | _, _ => none
  | .str x, lo, hi, .non => match partD lo, partD hi with
    | some a, some b => if x.length ≤ sizeLine then some (.str (L2.cutS x a b)) else none
    | _, _ => none
  | _, _, _, _ => none
/-- x[::-1] -/
def revD : D → Option D
  | .lst xs => some (.lst xs.reverse)
  | .tup xs => some (.tup xs.reverse)
  | _ => none
def idxD : D → D → Option D
  | .tup xs, .int i => L2.atI xs i
  | .lst xs, .int i => L2.atI xs i
  | .str x, .int i => if x.length ≤ sizeLine then (L2.atI x.cps.toList i).map fun c => .str ⟨#[c]⟩ else none
  | .dct t ks vs, k => if isKey t k then lookD k ks vs else none
  | .scr ns, .int i => (L2.atI ns i).map .int
  | _, _ => none

def ints? : List D → Option (List Int)
  | [] => some []
  | .int i :: r => (ints? r).map (i :: ·)
  | _ => none
def bls? : List D → Option (List Bool)
  | [] => some []
  | .bl i :: r => (bls? r).map (i :: ·)
  | _ => none
def strs? : List D → Option (List Str)
  | [] => some []
  | .str i :: r => (strs? r).map (i :: ·)
  | _ => none
def ltD (a b : D) : Bool := W.dataLt a.py b.py
def alikes (xs : List D) : Bool := xs.all fun a => xs.all fun b => W.alike a.py b.py
def shs (xs : List D) : Bool := xs.all sh
def sortD (xs : List D) : List D := xs.mergeSort (W.dataLe false D.py)
def mostD (x : D) (xs : List D) : D := xs.foldl (fun a y => if ltD a y then y else a) x
def leastD (x : D) (xs : List D) : D := xs.foldl (fun a y => if ltD y a then y else a) x
/-- data that can be ordered -/
def datOk (xs : List D) : Bool := shs xs && (alikes xs && xs.all fun d => !isNonD d)
def sortOk (xs : List D) : Bool := datOk xs && decide (xs.length ≤ sizeLine)

/-- built-in functions and types that give a value of their arguments -/
inductive Bf where
  | len | abs | max | min | sum | all | any | sorted | list | tuple | int | str | repr | divmod
def lenD : List D → Option D
  | [.str x] => if x.length ≤ sizeLine then some (.int x.length) else none
  | [.tup xs] => some (.int xs.length)
  | [.lst xs] => some (.int xs.length)
  | [.scr xs] => some (.int xs.length)
  | [.dct _ ks _] => some (.int ks.length)
  | _ => none
def absD : List D → Option D
  | [.int i] => some (.int (if i < 0 then -i else i))
  | _ => none
def maxD : List D → Option D
  | [.int i, .int j] => some (.int (if j > i then j else i))
  | [.lst (x :: xs)] => if datOk (x :: xs) then some (mostD x xs) else none
  | [.tup (x :: xs)] => if datOk (x :: xs) then some (mostD x xs) else none
  | _ => none
def minD : List D → Option D
  | [.int i, .int j] => some (.int (if j < i then j else i))
  | [.lst (x :: xs)] => if datOk (x :: xs) then some (leastD x xs) else none
  | _ => none
def sumD : List D → Option D
  | [.lst xs] => (ints? xs).map fun ns => .int ns.sum
  | _ => none
def allD : List D → Option D
  | [.lst xs] => (bls? xs).map fun bs => .bl (bs.all id)
  | [.tup xs] => (bls? xs).map fun bs => .bl (bs.all id)
  | _ => none
def anyD : List D → Option D
  | [.lst xs] => (bls? xs).map fun bs => .bl (bs.any id)
  | [.tup xs] => (bls? xs).map fun bs => .bl (bs.any id)
  | _ => none
def sortedD : List D → Option D
  | [.lst xs] => if sortOk xs then some (.lst (sortD xs)) else none
  | [.tup xs] => if sortOk xs then some (.lst (sortD xs)) else none
  | [.dct true xs _] => if sortOk xs then some (.lst (sortD xs)) else none
  | _ => none
def listD : List D → Option D
  | [.lst xs] => some (.lst xs)
  | [.tup xs] => some (.lst xs)
  | [.dct _ ks _] => some (.lst ks)
  | _ => none
def tupleD : List D → Option D
  | [.lst xs] => some (.tup xs)
  | [.tup xs] => some (.tup xs)
  | _ => none
def intD : List D → Option D
  | [.int i] => some (.int i)
  | [.bl b] => some (.int (if b then 1 else 0))
  | _ => none
def strD : List D → Option D
  | [.int i] => if i.natAbs.log2 < 1920 then some (.str (toString i : String)) else none
  | _ => none
/-- what repr shows: data, dicts empty -/
def shR (d : D) : Bool := sh d || (d.shE && decide (d.py.depth ≤ 64))
def reprD : List D → Option D
  | [d] => if shR d && d.py.showable && decide (d.py.shown.length + 64 ≤ sizeLine) then some (.str d.py.shown) else none
  | _ => none
def divmodD : List D → Option D
  | [.int i, .int j] => if 0 < j && decide (j < 1073741824) then some (.tup [.int (i / j), .int (i % j)]) else none
  | _ => none
def bltD : Bf → List D → Option D
  | .len => lenD
  | .abs => absD
  | .max => maxD
  | .min => minD
  | .sum => sumD
  | .all => allD
  | .any => anyD
  | .sorted => sortedD
  | .list => listD
  | .tuple => tupleD
  | .int => intD
  | .str => strD
  | .repr => reprD
  | .divmod => divmodD
/-- methods that change nothing -/
inductive Mf where
  | lindex | tindex | get
def lindexD : D → List D → Option D
  | .lst xs, [y] => if sh y && sh (.lst xs) then (findD y xs).map fun n : Nat => .int (n : Int) else none
  | _, _ => none
def tindexD : D → List D → Option D
  | .tup xs, [y] => if sh y && sh (.tup xs) then (findD y xs).map fun n : Nat => .int (n : Int) else none
  | _, _ => none
/-- what get may give where nothing stands -/
def solid : D → Bool
  | .non => true
  | .bl _ => true
  | .int _ => true
  | .str _ => true
  | .tup _ => true
  | _ => false
def getD : D → List D → Option D
  | .dct t ks vs, [k] => if isKey t k then some ((lookD k ks vs).getD .non) else none
  | .dct t ks vs, [k, x] => if isKey t k && solid x then some ((lookD k ks vs).getD x) else none
  | _, _ => none
def metD : Mf → D → List D → Option D
  | .lindex => lindexD
  | .tindex => tindexD
  | .get => getD
def okL : Option D → Bool
  | some (.lst _) => true
  | _ => false
def okM : Mf → Option D → Bool
  | .lindex, o => okL o
  | .tindex, some (.tup _) => true
  | .get, some (.dct _ _ _) => true
  | _, _ => false
/-- methods that change a cell: the contents behind it, the value -/
inductive Mu where
  | append | extend | pop
def appendD : D → List D → Option (D × D)
  | .lst xs, [y] => if xs.length < sizeLine then some (.lst (xs ++ [y]), .non) else none
  | _, _ => none
def extendD : D → List D → Option (D × D)
  | .lst xs, [.lst ys] => if xs.length + ys.length ≤ sizeLine then some (.lst (xs ++ ys), .non) else none
  | _, _ => none
def popD : D → List D → Option (D × D)
  | .lst xs, [] => match xs[xs.length - 1]? with
    | some y => some (.lst xs.dropLast, y)
    | none => none
  | .lst xs, [.int i] => if -(2 ^ 63) ≤ i && decide (i < 2 ^ 63) then (match seqIndex? i xs.length with
    | some k => (match xs[k]? with
      | some y => some (.lst (xs.eraseIdx k), y)
      | none => none)
    | none => none) else none
  | _, _ => none
def mutD : Mu → D → List D → Option (D × D)
  | .append => appendD
  | .extend => extendD
  | .pop => popD
/-- o[i] = v -/
def setD : D → D → D → Option D
  | .lst xs, .int i, v => (L2.ixN xs.length i).map fun j => .lst (xs.set j v)
  | .dct t ks vs, k, v => if isKey t k && decide (ks.length < sizeLine) then some (.dct t (putD k v ks vs).1 (putD k v ks vs).2) else none
  | _, _, _ => none
/-- isinstance(d, T) -/
inductive Ty where
  | int | bool | tuple | str | list | dict
def isaD : D → Ty → Option Bool
  | .non, _ => some false
  | .bl _, .bool => some true
  | .bl _, .int => some true
  | .bl _, _ => some false
  | .int _, .int => some true
  | .int _, _ => some false
  | .str _, .str => some true
  | .str _, _ => some false
  | .tup _, .tuple => some true
  | .tup _, _ => some false
  | .lst _, .list => some true
  | .lst _, _ => some false
  | .dct _ _ _, .dict => some true
  | .dct _ _ _, _ => some false
  | _, _ => none
/-- a class that isinstance asks for: one of the text, a built-in one -/
inductive Ct where
  | own (x : Str) | ty (n : String)
instance ctEq : DecidableEq Ct := fun a b => match a, b with
  | .own x, .own y => if h : x = y then .isTrue (by rw [h]) else .isFalse (fun e => h (by cases e; rfl))
  | .ty x, .ty y => if h : x = y then .isTrue (by rw [h]) else .isFalse (fun e => h (by cases e; rfl))
  | .own _, .ty _ => .isFalse (fun e => by cases e)
  | .ty _, .own _ => .isFalse (fun e => by cases e)
/-- {**a, k: v}, {k: v, ..} -/
def putsD : List D → List D → List D → List D → List D × List D
  | k :: ks, v :: vs, a, b => let (x, y) := putD k v a b; putsD ks vs x y
  | _, _, a, b => (a, b)

/-! ### the text -/
mutual
inductive ME where
  | var (i : Nat)
  | con (d : D)
  | gl (x : Str) (d : D)
  | fn (x : Str)
  | bin (o : Operator) (a b : ME)
  | neg (a : ME)
  | not (a : MB)
  | and (a b : ME)
  | or (a b : ME)
  | cmp (o : CmpOp) (a b : ME)
  | chain (o p : CmpOp) (a b c : ME)
  | ite (c : MB) (a b : ME)
  | idx (a i : ME)
  | slc (a : ME) (lo hi : MO)
  | tup (es : MEs)
  | lst (es : MEs)
  | dsp (t : Bool) (ps : MPs)
  | lc (own : List Nat) (e : ME) (t : MT) (it : MI) (c : MC)
  | lc2 (own own1 : List Nat) (e : ME) (t : MT) (it : MI) (c : MC) (t1 : MT) (it1 : MI) (c1 : MC)
  | dc (b : Bool) (own : List Nat) (k v : ME) (t : MT) (it : MI) (c : MC)
  | call (f : Nat) (es : MEs) (ks : MEs) (perm : List Nat)
  | blt (b : Bf) (es : MEs)
  | lrng (a b : ME)
  | isa (e : ME) (t : Ty)
  | met (m : Mf) (o : ME) (es : MEs)
  | mut (m : Mu) (o : ME) (es : MEs)
  | new (e : ME)
  | frz (e : ME)
  | rev (a : ME)
  /-- {**a, k: v} -/
  | dput (a k v : ME)
  | dputT (a k v : ME)
  /-- {x: True for x in d.values()}, d at i, x at j -/
  | dvals (i j : Nat)
  /-- sorted(set(a)) -/
  | sset (a : ME)
  /-- dict(zip(a, b)) -/
  | dzip (t : Bool) (a b : ME)
  /-- isinstance(e, T) of an exception, T a class or (tp) a tuple of classes: the classes that are, that are not -/
  | ise (e : ME) (ts : List Ct) (tp : Bool) (cs ns : List Str)
  /-- an exception made as a value -/
  | exn (c : Str) (es : MEs)
  /-- e.f of an exception -/
  | fld (e : ME) (f : Str) (cs : List Str)
  /-- e in a tuple of the module, by its name -/
  | kin (e : ME) (x : Str) (ds : List D)
inductive MB where
  | tru (e : ME)
  | not (a : MB)
  | and (a b : MB)
  | or (a b : MB)
inductive MC where
  | nil
  | one (b : MB)
/-- a slice's part -/
inductive MO where
  | nil
  | one (e : ME)
inductive MEs where
  | nil
  | cons (e : ME) (r : MEs)
  | star (e : ME) (r : MEs)
inductive MPs where
  | nil
  | cons (k v : ME) (r : MPs)
inductive MI where
  | seq (e : ME)
  | rng (a b : ME)
  | enm (e : ME)
  | zip (a b : ME)
  /-- range(a, -1, -1) -/
  | rdn (a : ME)
  /-- d.values() -/
  | vals (e : ME)
  /-- zip of three -/
  | zip3 (a b d : ME)
  /-- a tuple of the module, by its name -/
  | ktup (x : Str) (ds : List D)
  /-- zip of such a tuple and another one -/
  | kzip (x : Str) (ds : List D) (e : ME)
inductive MT where
  | nm (i : Nat)
  | tp (ts : MTs)
  | sub (o i : ME)
inductive MTs where
  | nil
  | cons (t : MT) (r : MTs)
end

mutual
inductive MS where
  | asg (t : MT) (e : ME)
  | exp (e : ME)
  | ret (e : ME)
  | ite (c : MB) (a b : MSs)
  | for_ (t : MT) (it : MI) (b : MSs)
  | whl (c : MB) (b : MSs)
  | rse (c : Str) (es : MEs)
  | brk | cnt | pss
  /-- never come to -/
  | nev
  | try_ (b : MSs) (hs : MHs)
inductive MSs where
  | nil
  | cons (s : MS) (r : MSs)
/-- except clauses: the class, the classes it catches, those it does not, the name's place, the suite -/
inductive MHs where
  | nil
  | cons (c : Str) (cs ns : List Str) (i : Option Nat) (b : MSs) (r : MHs)
end

/-- what a statement ends in -/
inductive SR where
  | nx (σ : En) (M : Cs)
  | br (σ : En) (M : Cs)
  | ct (σ : En) (M : Cs)
  | rt (d : D) (M : Cs)
  | ex (e : D) (σ : En) (M : Cs)
  | bad

/-- an evaluation, then a statement's rest -/
def SR.of {α : Type} (σd : En) (r : Res α) (g : α → Cs → SR) : SR := match r with
  | .ok a M => g a M
  | .ex e M => .ex e σd M
  | .bad => .bad

/-- a suite's end: its name goes; it raises nothing -/
def SR.uns (i : Option Nat) : SR → SR
  | .nx σ M => .nx (match i with | some j => σ.set j none | none => σ) M
  | .br σ M => .br (match i with | some j => σ.set j none | none => σ) M
  | .ct σ M => .ct (match i with | some j => σ.set j none | none => σ) M
  | .rt d M => .rt d M
  | .ex _ _ _ => .bad
  | .bad => .bad

/-- keywords' values to their places -/
def permD (perm : List Nat) (xs : List D) : List D := match perm with
  | [] => xs
  | _ => perm.map fun i => xs.getD i .non

def intD? : D → Option (Option Int)
  | .int i => some (some i)
  | _ => none
def tupD : D → Option (List D)
  | .tup xs => some xs
  | .lst xs => some xs
  | _ => none
def consD : List D → Option (D × List D)
  | [] => none
  | d :: ds => some (d, ds)
structure Cl where
  call : Nat → List D → Cs → Res D
  fuel : Nat

def itemsD (M : Cs) (x : D) : Option (List D) := match rd M x with
  | some (.tup xs) => some xs
  | some (.lst xs) => some xs
  | _ => none
/-- two lists, or two tuples -/
def bothD : Option D → Option D → Bool
  | some (.lst _), some (.lst _) => true
  | some (.tup _), some (.tup _) => true
  | _, _ => false
def watch : D → List Nat
  | .cell n => [n]
  | _ => []
def rngD : D → D → Option (List D)
  | .int i, .int j => if -(2 ^ 62) ≤ i && decide (i < 2 ^ 62) && decide (-(2 ^ 62) ≤ j) && decide (j < 2 ^ 62) then some ((List.range (j - i).toNat).map fun n : Nat => .int (i + n)) else none
  | _, _ => none
def rdnD : D → Option (List D)
  | .int i => if -(2 ^ 62) ≤ i && decide (i < 2 ^ 62) then some ((List.range (i + 1).toNat).map fun n : Nat => .int (i - n)) else none
  | _ => none
def valsD (M : Cs) (x : D) : Option (List D) := match rd M x with
  | some (.dct _ _ vs) => some vs
  | _ => none
/-- an int put into an ascending row, once -/
def insU (x : Int) : List Int → List Int
  | [] => [x]
  | y :: r => if x < y then x :: y :: r else if x = y then y :: r else y :: insU x r
def ssetI (ns : List Int) : List Int := ns.foldl (fun l x => insU x l) []
/-- sorted(set(a)), fewer than 64 ints -/
def ssetD : D → Option D
  | .lst xs => (match ints? xs with
    | some ns => if ns.length < 64 then some (.lst ((ssetI ns).map .int)) else none
    | none => none)
  | _ => none
/-- {**a, k: v} -/
def dputD : D → D → D → Option D
  | .dct false ks vs, k, v => if isKeyK k && decide (ks.length < sizeLine) then some (.dct false (putD k v ks vs).1 (putD k v ks vs).2) else none
  | _, _, _ => none
/-- tuples of ints -/
def rows? : List D → Option (List (List Int))
  | [] => some []
  | .tup xs :: r => match ints? xs, rows? r with
    | some ns, some nss => some (ns :: nss)
    | _, _ => none
  | _ => none
/-- a tuple's hash -/
def hashT (ns : List Int) : Int := reduceHash (Builtin.Tuple.tupleHashOf (ns.map hashInt))
/-- a dict with tuples of ints as keys, no two of one hash -/
def apartD : D → Bool
  | .dct true ks _ => (match rows? ks with
    | some nss => decide (nss.map hashT).Nodup
    | none => false) && decide (ks.length < sizeLine)
  | _ => false
/-- {**a, k: v} of such a dict -/
def dputTD : D → D → D → Option D
  | .dct true ks vs, k, v => if isKeyT k then some (.dct true (putD k v ks vs).1 (putD k v ks vs).2) else none
  | _, _, _ => none
/-- {x: True for x in d.values()} -/
def dvalsD : Option (Option D) → Option D
  | some (some (.dct false _ vs)) => if vs.all isKeyK && decide (vs.length < sizeLine) then some (.dct false (putsD vs (vs.map fun _ => .bl true) [] []).1 (putsD vs (vs.map fun _ => .bl true) [] []).2) else none
  | _ => none
/-- dict(zip(a, b)), two tuples -/
def dzipD (t : Bool) : D → D → Option D
  | .tup xs, .tup ys => if xs.all (isKey t) && decide (xs.length < sizeLine) then some (.dct t (putsD ((xs.zip ys).map (·.1)) ((xs.zip ys).map (·.2)) [] []).1 (putsD ((xs.zip ys).map (·.1)) ((xs.zip ys).map (·.2)) [] []).2) else none
  | _, _ => none
def tupI : D → Option (List D)
  | .tup xs => some xs
  | _ => none
def enumD (xs : List D) : List D := xs.zipIdx.map fun p => .tup [.int p.2, p.1]
def zip3D (xs ys zs : List D) : List D := (xs.zip (ys.zip zs)).map fun p => .tup [p.1, p.2.1, p.2.2]
/-- isinstance of an exception -/
def iseD (cs ns : List Str) : D → Option Bool
  | .exc k _ => if k ∈ cs then some true else if k ∈ ns then some false else none
  | _ => none
def fldD (cs : List Str) : D → Option D
  | .exc k [d] => if k ∈ cs then some d else none
  | _ => none
def zipD (xs ys : List D) : List D := (xs.zip ys).map fun p => .tup [p.1, p.2]

def wip (σ : En) : List Nat → En
  | [] => σ
  | v :: vs => (wip σ vs).set v none

/-- the cells of ws stand as they stood -/
def same (ws : List Nat) (M M1 : Cs) : Bool := ws.all fun n => decide (M1[n]? = M[n]?)
@[simp] theorem same_nil (M M1 : Cs) : same [] M M1 = true := id rfl
/-- one turn after the other, what they give in a row -/
def lcGo (ws : List Nat) (step : D → Cs → Res (List D)) : List D → List D → Cs → Res (List D)
  | [], acc, M => .ok acc M
  | d :: ds, acc, M => match step d M with
    | .ok xs M1 => if acc.length + xs.length ≤ sizeLine && same ws M M1 then lcGo ws step ds (acc ++ xs) M1 else .bad
    | _ => .bad
def dcGo (b : Bool) (ws : List Nat) (step : D → Cs → Res (Option (D × D))) : List D → List D → List D → Cs → Res (List D × List D)
  | [], ks, vs, M => .ok (ks, vs) M
  | d :: ds, ks, vs, M => match step d M with
    | .ok none M1 => if same ws M M1 then dcGo b ws step ds ks vs M1 else .bad
    | .ok (some p) M1 => if same ws M M1 && (isKey b p.1 && decide (ks.length < sizeLine)) then dcGo b ws step ds (putD p.1 p.2 ks vs).1 (putD p.1 p.2 ks vs).2 M1 else .bad
    | _ => .bad
def forGo (ws : List Nat) (step : D → En → Cs → SR) : List D → En → Cs → SR
  | [], σ, M => .nx σ M
  | d :: ds, σ, M => match step d σ M with
    | .nx σ1 M1 => if same ws M M1 then forGo ws step ds σ1 M1 else .bad
    | .ct σ1 M1 => if same ws M M1 then forGo ws step ds σ1 M1 else .bad
    | .br σ1 M1 => .nx σ1 M1
    | r => r
def whlGo (test : En → Cs → Res Bool) (step : En → Cs → SR) : Nat → En → Cs → SR
  | 0, _, _ => .bad
  | n + 1, σ, M => match test σ M with
    | .ok true M1 => (match step σ M1 with
      | .nx σ1 M2 => whlGo test step n σ1 M2
      | .ct σ1 M2 => whlGo test step n σ1 M2
      | .br σ1 M2 => .nx σ1 M2
      | r => r)
    | .ok false M1 => .nx σ M1
    | .ex e M1 => .ex e σ M1
    | .bad => .bad

mutual
def evE (C : Cl) : ME → En → Cs → Res D
  | .var i, σ, M => (match σ[i]? with
    | some (some d) => .ok d M
    | _ => .bad)
  | .con d, _, M => .ok d M
  | .gl _ d, _, M => .ok d M
  | .fn x, _, M => .ok (.fn x) M
  | .bin o a b, σ, M => (evE C a σ M).bind fun x M1 => (evE C b σ M1).bind fun y M2 => opt ((rd M2 x).bind fun x' => (rd M2 y).bind fun y' => binD o x' y') M2
  | .neg a, σ, M => (evE C a σ M).bind fun x M1 => (match x with
    | .int i => .ok (.int (-i)) M1
    | _ => .bad)
  | .not a, σ, M => (evB C a σ M).bind fun b M1 => .ok (.bl (!b)) M1
  | .and a b, σ, M => (evE C a σ M).bind fun x M1 => (match (rd M1 x).bind truthD with
    | some true => evE C b σ M1
    | some false => .ok x M1
    | none => .bad)
  | .or a b, σ, M => (evE C a σ M).bind fun x M1 => (match (rd M1 x).bind truthD with
    | some true => .ok x M1
    | some false => evE C b σ M1
    | none => .bad)
  | .cmp o a b, σ, M => (evE C a σ M).bind fun x M1 => (evE C b σ M1).bind fun y M2 => opt ((rd M2 x).bind fun x' => (rd M2 y).bind fun y' => (cmpD o x' y').map .bl) M2
  | .chain o p a b c, σ, M => (evE C a σ M).bind fun x M1 => (evE C b σ M1).bind fun y M2 =>
    (match (rd M2 x).bind fun x' => (rd M2 y).bind fun y' => cmpD o x' y' with
    | some true => (evE C c σ M2).bind fun z M3 => opt ((rd M3 y).bind fun y' => (rd M3 z).bind fun z' => (cmpD p y' z').map .bl) M3
    | some false => .ok (.bl false) M2
    | none => .bad)
  | .ite c a b, σ, M => (evB C c σ M).bind fun k M1 => if k = true then evE C a σ M1 else evE C b σ M1
  | .idx a i, σ, M => (evE C a σ M).bind fun x M1 => (evE C i σ M1).bind fun y M2 => opt ((rd M2 x).bind fun x' => (rd M2 y).bind fun y' => idxD x' y') M2
  | .slc a lo hi, σ, M => (evE C a σ M).bind fun x M1 => (evO C lo σ M1).bind fun l M3 => (evO C hi σ M3).bind fun u M5 => opt ((rd M5 x).bind fun x' => slcD x' (ptD l) (ptD u) .non) M5
  | .tup es, σ, M => (evEs C es σ M).bind fun xs M1 => if xs.length ≤ sizeLine then .ok (.tup xs) M1 else .bad
  | .lst es, σ, M => (evEs C es σ M).bind fun xs M1 => if xs.length ≤ sizeLine then .ok (.lst xs) M1 else .bad
  | .dsp t ps, σ, M => (evPs C ps σ M).bind fun ps M1 => if ps.1.all (isKey t) && decide (ps.1.length ≤ 15) then .ok (.dct t (putsD ps.1 ps.2 [] []).1 (putsD ps.1 ps.2 [] []).2) M1 else .bad
  | .lc own e t it c, σ, M => (evI C it σ M).bind fun ds M1 => (lcGo ds.2 (fun d M => (evT C t d (wip σ own) M).bind fun σ1 M2 => (evC C c σ1 M2).bind fun b M3 => if b = true then (evE C e σ1 M3).bind fun x M4 => .ok [x] M4 else .ok [] M3) ds.1 [] M1).bind fun xs M2 => .ok (.lst xs) M2
  | .lc2 own own1 e t it c t1 it1 c1, σ, M => (evI C it σ M).bind fun ds M1 => (lcGo ds.2 (fun d M => (evT C t d (wip σ own) M).bind fun σ1 M2 => (evC C c σ1 M2).bind fun b M3 => if b = true then
      (evI C it1 σ1 M3).bind fun ds1 M4 => lcGo ds1.2 (fun d1 M => (evT C t1 d1 (wip σ1 own1) M).bind fun σ2 M5 => (evC C c1 σ2 M5).bind fun b1 M6 => if b1 = true then (evE C e σ2 M6).bind fun x M7 => .ok [x] M7 else .ok [] M6) ds1.1 [] M4 else .ok [] M3) ds.1 [] M1).bind fun xs M2 => .ok (.lst xs) M2
  | .dc b own k v t it c, σ, M => (evI C it σ M).bind fun ds M1 => (dcGo b ds.2 (fun d M => (evT C t d (wip σ own) M).bind fun σ1 M2 => (evC C c σ1 M2).bind fun q M3 => if q = true then (evE C k σ1 M3).bind fun x M4 => (evE C v σ1 M4).bind fun y M5 => .ok (some (x, y)) M5 else .ok none M3) ds.1 [] [] M1).bind fun p M2 => .ok (.dct b p.1 p.2) M2
  | .call f es ks perm, σ, M => (evEs C es σ M).bind fun xs M1 => (evEs C ks σ M1).bind fun ys M2 => C.call f (permD perm (xs ++ ys)) M2
  | .blt b es, σ, M => (evEs C es σ M).bind fun xs M1 => opt ((rds M1 xs).bind (bltD b)) M1
  | .lrng a b, σ, M => (evE C a σ M).bind fun x M1 => (evE C b σ M1).bind fun y M2 => opt ((rngD x y).bind fun xs => if xs.length ≤ sizeLine then some (.lst xs) else none) M2
  | .isa e t, σ, M => (evE C e σ M).bind fun x M1 => opt ((rd M1 x).bind fun x' => (isaD x' t).map .bl) M1
  | .met m o es, σ, M => (evE C o σ M).bind fun x M1 => if okM m (rd M1 x) then (evEs C es σ M1).bind fun xs M2 => opt ((rd M2 x).bind fun x' => (rds M2 xs).bind (metD m x')) M2 else .bad
  | .mut m o es, σ, M => (evE C o σ M).bind fun x M1 => if okL (rd M1 x) then (evEs C es σ M1).bind fun xs M2 => (match x with
    | .cell n => if frees 0 xs then (match (rd M2 x).bind fun x' => mutD m x' xs with
      | some (y, v) => .ok v (M2.set n (some y))
      | none => .bad) else .bad
    | _ => .bad) else .bad
  | .new e, σ, M => (evE C e σ M).bind fun x M1 => (match x with
    | .lst xs => if frees 0 xs then .ok (.cell M1.length) (M1 ++ [some (.lst xs)]) else .bad
    | .dct t ks vs => if frees 0 ks && frees 0 vs then .ok (.cell M1.length) (M1 ++ [some (.dct t ks vs)]) else .bad
    | _ => .bad)
  | .frz e, σ, M => (evE C e σ M).bind fun x M1 => (match x with
    | .cell n => (match rd M1 x with
      | some d => .ok d (M1.set n none)
      | none => .bad)
    | _ => .ok x M1)
  | .rev a, σ, M => (evE C a σ M).bind fun x M1 => opt ((rd M1 x).bind revD) M1
  | .dput a k v, σ, M => (evE C a σ M).bind fun x M1 => (evE C k σ M1).bind fun y M2 => (evE C v σ M2).bind fun z M3 => opt (dputD x y z) M3
  | .dputT a k v, σ, M => (evE C a σ M).bind fun x M1 => if apartD x = true then (evE C k σ M1).bind fun y M2 => (evE C v σ M2).bind fun z M3 => opt (dputTD x y z) M3 else .bad
  | .dvals i j, σ, M => opt (if j < σ.length then dvalsD (σ[i]?) else none) M
  | .sset a, σ, M => (evE C a σ M).bind fun x M1 => opt ((rd M1 x).bind ssetD) M1
  | .dzip t a b, σ, M => (evE C a σ M).bind fun x M1 => (evE C b σ M1).bind fun y M2 => opt (dzipD t x y) M2
  | .exn c es, σ, M => (evEs C es σ M).bind fun xs M1 => .ok (.exc c xs) M1
  | .ise a _ _ cs ns, σ, M => (evE C a σ M).bind fun x M1 => opt ((iseD cs ns x).map .bl) M1
  | .fld a _ cs, σ, M => (evE C a σ M).bind fun x M1 => opt (fldD cs x) M1
  | .kin a _ ds, σ, M => (evE C a σ M).bind fun x M1 => opt ((rd M1 x).bind fun x' => (cmpD .In x' (.tup ds)).map .bl) M1
def evB (C : Cl) : MB → En → Cs → Res Bool
  | .not a, σ, M => (evB C a σ M).bind fun b M1 => .ok (!b) M1
  | .and a b, σ, M => (evB C a σ M).bind fun k M1 => if k = true then evB C b σ M1 else .ok false M1
  | .or a b, σ, M => (evB C a σ M).bind fun k M1 => if k = true then .ok true M1 else evB C b σ M1
  | .tru e, σ, M => (evE C e σ M).bind fun x M1 => opt ((rd M1 x).bind truthD) M1
def evEs (C : Cl) : MEs → En → Cs → Res (List D)
  | .nil, _, M => .ok [] M
  | .cons e r, σ, M => (evE C e σ M).bind fun x M1 => (evEs C r σ M1).bind fun xs M2 => .ok (x :: xs) M2
  | .star e r, σ, M => (evE C e σ M).bind fun x M1 => (match rd M1 x with
    | some (.tup ys) => (evEs C r σ M1).bind fun xs M2 => .ok (ys ++ xs) M2
    | some (.lst ys) => (evEs C r σ M1).bind fun xs M2 => .ok (ys ++ xs) M2
    | _ => .bad)
def evPs (C : Cl) : MPs → En → Cs → Res (List D × List D)
  | .nil, _, M => .ok ([], []) M
  | .cons k v r, σ, M => (evE C k σ M).bind fun x M1 => (evE C v σ M1).bind fun y M2 => (evPs C r σ M2).bind fun p M3 => .ok (x :: p.1, y :: p.2) M3
def evO (C : Cl) : MO → En → Cs → Res (Option Int)
  | .nil, _, M => .ok none M
  | .one e, σ, M => (evE C e σ M).bind fun x M1 => opt (intD? x) M1
/-- a clause's tests -/
def evC (C : Cl) : MC → En → Cs → Res Bool
  | .nil, _, M => .ok true M
  | .one b, σ, M => evB C b σ M
/-- what is walked -/
def evI (C : Cl) : MI → En → Cs → Res (List D × List Nat)
  | .seq e, σ, M => (evE C e σ M).bind fun x M1 => opt ((itemsD M1 x).map fun xs => (xs, watch x)) M1
  | .rng a b, σ, M => (evE C a σ M).bind fun x M1 => (evE C b σ M1).bind fun y M2 => opt ((rngD x y).map fun xs => (xs, [])) M2
  | .enm e, σ, M => (evE C e σ M).bind fun x M1 => opt ((itemsD M1 x).map fun xs => (enumD xs, watch x)) M1
  | .zip a b, σ, M => (evE C a σ M).bind fun x M1 => (evE C b σ M1).bind fun y M2 => opt ((itemsD M2 x).bind fun xs => if bothD (rd M2 x) (rd M2 y) then (itemsD M2 y).map fun ys => (zipD xs ys, watch x ++ watch y) else none) M2
  | .rdn a, σ, M => (evE C a σ M).bind fun x M1 => opt ((rdnD x).map fun xs => (xs, [])) M1
  | .vals e, σ, M => (evE C e σ M).bind fun x M1 => opt ((valsD M1 x).map fun xs => (xs, watch x)) M1
  | .zip3 a b e, σ, M => (evE C a σ M).bind fun x M1 => (evE C b σ M1).bind fun y M2 => (evE C e σ M2).bind fun z M3 => opt ((tupI x).bind fun xs => (tupI y).bind fun ys => (tupI z).bind fun zs => if xs.length = ys.length ∧ xs.length = zs.length then some (zip3D xs ys zs, []) else none) M3
  | .ktup _ ds, _, M => .ok (ds, []) M
  | .kzip _ ds e, σ, M => (evE C e σ M).bind fun x M1 => opt ((tupI x).map fun xs => (zipD ds xs, [])) M1
/-- a target gets a value -/
def evT (C : Cl) : MT → D → En → Cs → Res En
  | .nm i, d, σ, M => .ok (σ.set i (some d)) M
  | .tp ts, d, σ, M => (match tupD d with
    | some xs => evTs C ts xs σ M
    | none => .bad)
  | .sub o i, d, σ, M => (match evE C o σ M with
    | .ok x M1 => (match evE C i σ M1 with
      | .ok y M2 => (match x with
        | .cell n => if y.free 0 && d.free 0 then (match (rd M2 x).bind fun x' => setD x' y d with
          | some z => .ok σ (M2.set n (some z))
          | none => .bad) else .bad
        | _ => .bad)
      | _ => .bad)
    | _ => .bad)
def evTs (C : Cl) : MTs → List D → En → Cs → Res En
  | .nil, ds, σ, M => if ds.isEmpty then .ok σ M else .bad
  | .cons t r, ds, σ, M => (match consD ds with
    | some p => (evT C t p.1 σ M).bind fun σ1 M1 => evTs C r p.2 σ1 M1
    | none => .bad)
end

mutual
def evS (C : Cl) : MS → En → Cs → SR
  | .asg t e, σ, M => SR.of σ (evE C e σ M) fun d M1 => SR.of σ (evT C t d σ M1) fun σ1 M2 => .nx σ1 M2
  | .exp e, σ, M => SR.of σ (evE C e σ M) fun _ M1 => .nx σ M1
  | .ret e, σ, M => SR.of σ (evE C e σ M) fun d M1 => .rt d M1
  | .ite c a b, σ, M => SR.of σ (evB C c σ M) fun k M1 => if k = true then evSs C a σ M1 else evSs C b σ M1
  | .for_ t it b, σ, M => SR.of σ (evI C it σ M) fun ds M1 => forGo ds.2 (fun d σ M => SR.of σ (evT C t d σ M) fun σ1 M2 => evSs C b σ1 M2) ds.1 σ M1
  | .whl c b, σ, M => whlGo (evB C c) (evSs C b) C.fuel σ M
  | .rse c es, σ, M => SR.of σ (evEs C es σ M) fun xs M1 => .ex (.exc c xs) σ M1
  | .brk, σ, M => .br σ M
  | .cnt, σ, M => .ct σ M
  | .pss, σ, M => .nx σ M
  | .nev, _, _ => .bad
  | .try_ b hs, σ, M => (match evSs C b σ M with
    | .ex e σ1 M1 => evHs C hs e σ1 M1
    | r => r)
def evSs (C : Cl) : MSs → En → Cs → SR
  | .nil, σ, M => .nx σ M
  | .cons s r, σ, M => (match evS C s σ M with
    | .nx σ1 M1 => evSs C r σ1 M1
    | x => x)
def evHs (C : Cl) : MHs → D → En → Cs → SR
  | .nil, e, σ, M => .ex e σ M
  | .cons _ cs ns i b r, e, σ, M => (match iseD cs ns e with
    | some true => SR.uns i (evSs C b (match i with | some j => σ.set j (some e) | none => σ) M)
    | some false => evHs C r e σ M
    | none => .bad)
end

/-- a def: how many parameters, how many names, whether what it makes and changes stays -/
structure MF where
  ps : Nat
  slots : Nat
  body : MSs
  keep : Bool := false

/-- a def's end: its cells go -/
def finF (keep : Bool) (n : Nat) : SR → Res D
  | .rt d M => if keep then .ok d M else if d.free n then .ok d (M.take n) else .bad
  | .nx _ M => .ok .non (M.take n)
  | .ex e _ M => if e.free n then .ex e (M.take n) else .bad
  | _ => .bad
def callF (P : List MF) : Nat → Nat → List D → Cs → Res D
  | 0, _, _, _ => .bad
  | k + 1, f, ds, M => match P[f]? with
    | some F => if ds.length = F.ps then finF F.keep M.length (evSs ⟨callF P k, k⟩ F.body (ds.map some ++ List.replicate (F.slots - F.ps) none) M) else .bad
    | none => .bad

end Mp

/-! How data lie in the abstract heap. -/
namespace Mp
open PySem PySem.Spec PyProof.Rows L2

def keyD : Key → D
  | .inl i => .int i
  | .inr x => .str x
def keyTD (k : List Key) : D := .tup (k.map keyD)
def live (M : Cs) (n : Nat) : Prop := ∃ d, M[n]? = some (some d)
/-- what may change: reserved, or a cell's -/
def Lv (R : Addr → Prop) (c : List Addr) (M : Cs) (a : Addr) : Prop := R a ∨ ∃ n, live M n ∧ c[n]? = some a

/-- a context: the module's names; the lists of the written part -/
structure Mg where
  nm : Str → Option Value
  kl : Addr → List V → Prop
  /-- the one thing that an exception of the class keeps -/
  att : Str → Option Str
/-- what an __init__ of two statements keeps -/
def keepsF : FuncBody → Option Str
  | .stmts [_, .Assign [.Attribute _ f _] _ _] => some f
  | _ => none
/-- what an instance of a class of the text keeps -/
def attC (K : PySem.W.Frag) (C : Addr) : Option Str := match PySem.W.findIn K (.ref C) "__init__" with
  | some (some (.ref f)) => (match K.lookup f with
    | some ⟨_, _, .func fd, _⟩ => keepsF fd.body
    | _ => none)
  | _ => none
def attK (K : PySem.W.Frag) (mg : Str → Option Value) (x : Str) : Option Str := match mg x with
  | some (.ref C) => attC K C
  | _ => none
/-- a text's context -/
def _root_.L2.Cx.Mg (X : Cx) : Mg := ⟨X.mg, fun a xs => SqL X.K (fun _ => none) a xs, attK X.K X.mg⟩
theorem sqL_of {K : PySem.W.Frag} {H : Hp} {a : Addr} {xs : List V} (h : SqL K (fun _ => none) a xs) : SqL K H a xs := by
  rcases h with (h | ⟨_, h⟩) | h
  · cases h
  · cases h
  · exact .inr h

mutual
/-- v holds d in H, nothing of it may change -/
def Rp (mg : Mg) (H : Hp) (U : Addr → Prop) (c : List Addr) : D → V → Prop
  | .non, v => v = .non
  | .bl b, v => v = .bl b
  | .int i, v => v = .int i
  | .str x, v => v = .str x
  | .tup ds, v => ∃ a vs, v = .ref a ∧ H a = some (.tup vs) ∧ ¬ U a ∧ RpL mg H U c ds vs
  | .lst ds, v => ∃ a vs, v = .ref a ∧ H a = some (.lst vs) ∧ ¬ U a ∧ RpL mg H U c ds vs
  | .dct t ks us, v => ∃ a, v = .ref a ∧ ¬ U a ∧ (
      (t = false ∧ ∃ kvs : List (Key × V), H a = some (.dK kvs) ∧ ks = kvs.map (fun p => keyD p.1) ∧ RpL mg H U c us (kvs.map (·.2))) ∨
      (t = true ∧ ∃ kvs : List (List Key × V), H a = some (.dT kvs) ∧ ks = kvs.map (fun p => keyTD p.1) ∧ RpL mg H U c us (kvs.map (·.2))))
  | .cell n, v => ∃ a, v = .ref a ∧ c[n]? = some a
  | .fn x, v => ∃ a, v = .ref a ∧ mg.nm x = some (.ref a)
  | .exc x as, v => ∃ a oe u C, v = .ref a ∧ H a = some (.frz oe u) ∧ ¬ U a ∧ oe.cls = .ref C ∧ (∃ vs, oe.data = .fields vs) ∧ mg.nm x = some (.ref C) ∧
      ((mg.att x = none ∧ as = [] ∧ oe.dict = none) ∨ ∃ f q w, mg.att x = some f ∧ oe.dict = some q ∧ H q = some (.xd [(f, w)]) ∧ ¬ U q ∧ RpL mg H U c as [w])
  | .scr ns, v => ∃ a, v = .ref a ∧ ((Rd H a (.lst (ns.map .int)) ∧ ¬ U a) ∨ mg.kl a (ns.map .int))
def RpL (mg : Mg) (H : Hp) (U : Addr → Prop) (c : List Addr) : List D → List V → Prop
  | [], vs => vs = []
  | d :: ds, vs => ∃ v r, vs = v :: r ∧ Rp mg H U c d v ∧ RpL mg H U c ds r
end

section
variable {mg : Mg} {H : Hp} {U : Addr → Prop} {c : List Addr}
theorem RpL.nil_iff {vs : List V} : RpL mg H U c [] vs ↔ vs = [] := by simp [RpL]
theorem RpL.cons_iff {d : D} {ds : List D} {vs : List V} : RpL mg H U c (d :: ds) vs ↔ ∃ v r, vs = v :: r ∧ Rp mg H U c d v ∧ RpL mg H U c ds r := by simp [RpL]
theorem RpL.cons {d : D} {ds : List D} {v : V} {vs : List V} (h : Rp mg H U c d v) (t : RpL mg H U c ds vs) : RpL mg H U c (d :: ds) (v :: vs) := RpL.cons_iff.mpr ⟨v, vs, rfl, h, t⟩
theorem RpL.nil : RpL mg H U c [] [] := RpL.nil_iff.mpr rfl
theorem RpL.len : ∀ {ds : List D} {vs : List V}, RpL mg H U c ds vs → vs.length = ds.length
  | [], vs, h => by rw [RpL.nil_iff.mp h]; rfl
  | d :: ds, vs, h => by
    obtain ⟨v, r, rfl, _, t⟩ := RpL.cons_iff.mp h
    simp [RpL.len t]
theorem RpL.app : ∀ {ds es : List D} {vs us : List V}, RpL mg H U c ds vs → RpL mg H U c es us → RpL mg H U c (ds ++ es) (vs ++ us)
  | [], es, vs, us, h, k => by rw [RpL.nil_iff.mp h]; exact k
  | d :: ds, es, vs, us, h, k => by
    obtain ⟨v, r, rfl, h1, t⟩ := RpL.cons_iff.mp h
    exact RpL.cons h1 (RpL.app t k)
theorem RpL.get : ∀ {ds : List D} {vs : List V} {i : Nat} {d : D}, RpL mg H U c ds vs → ds[i]? = some d → ∃ v, vs[i]? = some v ∧ Rp mg H U c d v
  | [], _, _, _, _, e => by simp at e
  | x :: ds, vs, 0, d, h, e => by
    obtain ⟨v, r, rfl, h1, t⟩ := RpL.cons_iff.mp h
    simp at e; subst e
    exact ⟨v, rfl, h1⟩
  | x :: ds, vs, i + 1, d, h, e => by
    obtain ⟨v, r, rfl, h1, t⟩ := RpL.cons_iff.mp h
    obtain ⟨u, e1, e2⟩ := RpL.get (i := i) (d := d) t (by simpa using e)
    exact ⟨u, by simpa using e1, e2⟩
theorem RpL.get' {ds : List D} {vs : List V} {i : Nat} {v : V} (h : RpL mg H U c ds vs) (e : vs[i]? = some v) : ∃ d, ds[i]? = some d ∧ Rp mg H U c d v := by
  have hl := h.len
  have hi : i < vs.length := by
    rcases Nat.lt_or_ge i vs.length with q | q
    · exact q
    · rw [List.getElem?_eq_none q] at e; cases e
  have hd : ds[i]? = some ds[i] := List.getElem?_eq_getElem (by omega)
  obtain ⟨u, e1, e2⟩ := h.get hd
  rw [e] at e1; cases e1
  exact ⟨_, hd, e2⟩
theorem RpL.take : ∀ {ds : List D} {vs : List V} (n : Nat), RpL mg H U c ds vs → RpL mg H U c (ds.take n) (vs.take n)
  | _, _, 0, _ => by simp [RpL]
  | [], vs, n + 1, h => by rw [RpL.nil_iff.mp h]; simp [RpL]
  | d :: ds, vs, n + 1, h => by
    obtain ⟨v, r, rfl, h1, t⟩ := RpL.cons_iff.mp h
    exact RpL.cons h1 (RpL.take n t)
theorem RpL.drop : ∀ {ds : List D} {vs : List V} (n : Nat), RpL mg H U c ds vs → RpL mg H U c (ds.drop n) (vs.drop n)
  | _, _, 0, h => by simpa using h
  | [], vs, n + 1, h => by rw [RpL.nil_iff.mp h]; simp [RpL]
  | d :: ds, vs, n + 1, h => by
    obtain ⟨v, r, rfl, h1, t⟩ := RpL.cons_iff.mp h
    exact RpL.drop n t
theorem RpL.set : ∀ {ds : List D} {vs : List V} (n : Nat) {d : D} {v : V}, RpL mg H U c ds vs → Rp mg H U c d v → RpL mg H U c (ds.set n d) (vs.set n v)
  | [], vs, n, d, v, h, _ => by rw [RpL.nil_iff.mp h]; simp [RpL]
  | x :: ds, vs, 0, d, v, h, k => by
    obtain ⟨u, r, rfl, h1, t⟩ := RpL.cons_iff.mp h
    exact RpL.cons k t
  | x :: ds, vs, n + 1, d, v, h, k => by
    obtain ⟨u, r, rfl, h1, t⟩ := RpL.cons_iff.mp h
    exact RpL.cons h1 (RpL.set n t k)
theorem RpL.eraseIdx : ∀ {ds : List D} {vs : List V} (n : Nat), RpL mg H U c ds vs → RpL mg H U c (ds.eraseIdx n) (vs.eraseIdx n)
  | [], vs, n, h => by rw [RpL.nil_iff.mp h]; simp [RpL]
  | x :: ds, vs, 0, h => by
    obtain ⟨u, r, rfl, h1, t⟩ := RpL.cons_iff.mp h
    exact t
  | x :: ds, vs, n + 1, h => by
    obtain ⟨u, r, rfl, h1, t⟩ := RpL.cons_iff.mp h
    exact RpL.cons h1 (RpL.eraseIdx n t)
theorem RpL.dropLast {ds : List D} {vs : List V} (h : RpL mg H U c ds vs) : RpL mg H U c ds.dropLast vs.dropLast := by
  rw [List.dropLast_eq_take, List.dropLast_eq_take, h.len]; exact h.take _
theorem RpL.rep {ds : List D} {vs : List V} (h : RpL mg H U c ds vs) : ∀ n : Nat, RpL mg H U c (List.replicate n ds).flatten (List.replicate n vs).flatten
  | 0 => by simp [RpL]
  | n + 1 => by
    rw [List.replicate_succ, List.replicate_succ, List.flatten_cons, List.flatten_cons]
    exact h.app (RpL.rep h n)
theorem RpL.split : ∀ {ds es : List D} {ws : List V}, RpL mg H U c (ds ++ es) ws → ∃ vs us, ws = vs ++ us ∧ RpL mg H U c ds vs ∧ RpL mg H U c es us
  | [], es, ws, h => ⟨[], ws, rfl, RpL.nil, h⟩
  | d :: ds, es, ws, h => by
    obtain ⟨v, r, rfl, h1, t⟩ := RpL.cons_iff.mp h
    obtain ⟨vs, us, rfl, h2, h3⟩ := RpL.split t
    exact ⟨v :: vs, us, rfl, RpL.cons h1 h2, h3⟩
end

/-! ### steps -/
/-- from (H, c, M) to (H', c', M') -/
structure Stp (R : Addr → Prop) (H : Hp) (c : List Addr) (M : Cs) (H' : Hp) (c' : List Addr) (M' : Cs) : Prop where
  keep : ∀ a o, H a = some o → ¬ Lv R c M a → H' a = some o ∧ ¬ Lv R c' M' a
  pre : ∀ n, n < c.length → c'[n]? = c[n]?
  res : ∀ a, R a → H' a = H a
theorem Stp.refl (R : Addr → Prop) (H : Hp) (c : List Addr) (M : Cs) : Stp R H c M H c M := ⟨fun _ _ e n => ⟨e, n⟩, fun _ _ => rfl, fun _ _ => rfl⟩
theorem Stp.len {R : Addr → Prop} {H H' : Hp} {c c' : List Addr} {M M' : Cs} (s : Stp R H c M H' c' M') : c.length ≤ c'.length := by
  rcases Nat.eq_zero_or_pos c.length with h | h
  · omega
  · have := s.pre (c.length - 1) (by omega)
    rw [List.getElem?_eq_getElem (show c.length - 1 < c.length by omega)] at this
    have := (List.getElem?_eq_some_iff.mp this).1
    omega
theorem Stp.trans {R : Addr → Prop} {H H' H'' : Hp} {c c' c'' : List Addr} {M M' M'' : Cs} (s : Stp R H c M H' c' M') (t : Stp R H' c' M' H'' c'' M'') : Stp R H c M H'' c'' M'' :=
  ⟨fun a o e n => let ⟨e1, n1⟩ := s.keep a o e n; t.keep a o e1 n1, fun n hn => (t.pre n (Nat.lt_of_lt_of_le hn s.len)).trans (s.pre n hn), fun a r => (t.res a r).trans (s.res a r)⟩

/-- what a value needs of a step -/
structure Gr (H : Hp) (U : Addr → Prop) (c : List Addr) (H' : Hp) (U' : Addr → Prop) (c' : List Addr) : Prop where
  keep : ∀ a o, H a = some o → ¬ U a → H' a = some o ∧ ¬ U' a
  pre : ∀ n, n < c.length → c'[n]? = c[n]?
theorem Stp.gr {R : Addr → Prop} {H H' : Hp} {c c' : List Addr} {M M' : Cs} (s : Stp R H c M H' c' M') : Gr H (Lv R c M) c H' (Lv R c' M') c' := ⟨s.keep, s.pre⟩
theorem Rd.ex {H : Hp} {a : Addr} {u : HO} (r : Rd H a u) : ∃ o, H a = some o ∧ ∀ H' : Hp, H' a = some o → Rd H' a u := by
  rcases r with r | ⟨o, r⟩
  · exact ⟨_, r, fun _ e => .inl e⟩
  · exact ⟨_, r, fun _ e => .inr ⟨o, e⟩⟩
mutual
theorem Rp.mono {mg : Mg} {H H' : Hp} {U U' : Addr → Prop} {c c' : List Addr} (g : Gr H U c H' U' c') : ∀ (d : D) {v : V}, Rp mg H U c d v → Rp mg H' U' c' d v
  | .non, v, h => by simp only [Rp] at h ⊢; exact h
  | .bl _, v, h => by simp only [Rp] at h ⊢; exact h
  | .int _, v, h => by simp only [Rp] at h ⊢; exact h
  | .str _, v, h => by simp only [Rp] at h ⊢; exact h
  | .fn _, v, h => by simp only [Rp] at h ⊢; exact h
  | .exc _ as, v, h => by
    simp only [Rp] at h ⊢
    obtain ⟨a, oe, u, C, e, h1, h2, h3, h4, h5, h6⟩ := h
    obtain ⟨k1, k2⟩ := g.keep a _ h1 h2
    refine ⟨a, oe, u, C, e, k1, k2, h3, h4, h5, ?_⟩
    rcases h6 with h6 | ⟨f, q, w, g1, g2, g3, g4, g5⟩
    · exact .inl h6
    · obtain ⟨k3, k4⟩ := g.keep q _ g3 g4
      exact .inr ⟨f, q, w, g1, g2, k3, k4, RpL.mono g as g5⟩
  | .cell n, v, h => by
    simp only [Rp] at h ⊢
    obtain ⟨a, e, hc⟩ := h
    exact ⟨a, e, (g.pre n (List.getElem?_eq_some_iff.mp hc).1).trans hc⟩
  | .tup ds, v, h => by
    simp only [Rp] at h ⊢
    obtain ⟨a, vs, e, h1, h2, h3⟩ := h
    obtain ⟨k1, k2⟩ := g.keep a _ h1 h2
    exact ⟨a, vs, e, k1, k2, RpL.mono g ds h3⟩
  | .lst ds, v, h => by
    simp only [Rp] at h ⊢
    obtain ⟨a, vs, e, h1, h2, h3⟩ := h
    obtain ⟨k1, k2⟩ := g.keep a _ h1 h2
    exact ⟨a, vs, e, k1, k2, RpL.mono g ds h3⟩
  | .scr ns, v, h => by
    simp only [Rp] at h ⊢
    obtain ⟨a, e, h⟩ := h
    refine ⟨a, e, ?_⟩
    rcases h with ⟨h1, h2⟩ | h
    · obtain ⟨o, h4, h5⟩ := Rd.ex h1
      obtain ⟨k1, k2⟩ := g.keep a o h4 h2
      exact .inl ⟨h5 _ k1, k2⟩
    · exact .inr h
  | .dct t ks us, v, h => by
    simp only [Rp] at h ⊢
    obtain ⟨a, e, h1, h2⟩ := h
    rcases h2 with ⟨et, kvs, h3, h4, h5⟩ | ⟨et, kvs, h3, h4, h5⟩
    · obtain ⟨k1, k2⟩ := g.keep a _ h3 h1
      exact ⟨a, e, k2, .inl ⟨et, kvs, k1, h4, RpL.mono g us h5⟩⟩
    · obtain ⟨k1, k2⟩ := g.keep a _ h3 h1
      exact ⟨a, e, k2, .inr ⟨et, kvs, k1, h4, RpL.mono g us h5⟩⟩
theorem RpL.mono {mg : Mg} {H H' : Hp} {U U' : Addr → Prop} {c c' : List Addr} (g : Gr H U c H' U' c') : ∀ (ds : List D) {vs : List V}, RpL mg H U c ds vs → RpL mg H' U' c' ds vs
  | [], vs, h => RpL.nil_iff.mpr (RpL.nil_iff.mp h)
  | d :: ds, vs, h => by
    obtain ⟨v, r, rfl, h1, t⟩ := RpL.cons_iff.mp h
    exact RpL.cons (Rp.mono g d h1) (RpL.mono g ds t)
end

/-! ### cells -/
/-- what stands at a cell's address -/
def CellOk (mg : Mg) (H : Hp) (U : Addr → Prop) (c : List Addr) (a : Addr) : D → Prop
  | .lst ds => ∃ vs, H a = some (.lst vs) ∧ RpL mg H U c ds vs
  | .dct t ks us => (t = false ∧ ∃ kvs : List (Key × V), H a = some (.dK kvs) ∧ ks = kvs.map (fun p => keyD p.1) ∧ RpL mg H U c us (kvs.map (·.2))) ∨
      (t = true ∧ ∃ kvs : List (List Key × V), H a = some (.dT kvs) ∧ ks = kvs.map (fun p => keyTD p.1) ∧ RpL mg H U c us (kvs.map (·.2)))
  | _ => False
structure CM (mg : Mg) (R : Addr → Prop) (H : Hp) (c : List Addr) (M : Cs) : Prop where
  len : c.length = M.length
  inj : ∀ (n m : Nat) (a : Addr), live M n → live M m → c[n]? = some a → c[m]? = some a → n = m
  nres : ∀ (n : Nat) (a : Addr), live M n → c[n]? = some a → ¬ R a
  there : ∀ a, R a → ∃ o, H a = some o ∧ ∀ vs, o ≠ .tup vs
  obj : ∀ (n : Nat) (d : D), M[n]? = some (some d) → ∃ a, c[n]? = some a ∧ CellOk mg H (Lv R c M) c a d
  fre : ∀ (n : Nat) (d : D), M[n]? = some (some d) → d.free 0 = true
theorem CellOk.at {mg : Mg} {H : Hp} {U : Addr → Prop} {c : List Addr} {a : Addr} {d : D} (h : CellOk mg H U c a d) : ∃ o, H a = some o := by
  cases d <;> simp only [CellOk] at h
  · obtain ⟨vs, e, _⟩ := h; exact ⟨_, e⟩
  · rcases h with ⟨_, kvs, e, _⟩ | ⟨_, kvs, e, _⟩ <;> exact ⟨_, e⟩
theorem CM.lv_at {mg : Mg} {R : Addr → Prop} {H : Hp} {c : List Addr} {M : Cs} (m : CM mg R H c M) {a : Addr} (h : Lv R c M a) : H a ≠ none := by
  rcases h with h | ⟨n, ⟨d, e⟩, hc⟩
  · obtain ⟨o, e, _⟩ := m.there a h
    rw [e]; simp
  · obtain ⟨b, e1, e2⟩ := m.obj n d e
    rw [hc] at e1; cases e1
    obtain ⟨o, e3⟩ := e2.at
    rw [e3]; simp
theorem CM.tup {mg : Mg} {R : Addr → Prop} {H : Hp} {c : List Addr} {M : Cs} (m : CM mg R H c M) {a : Addr} {vs : List V} (h : H a = some (.tup vs)) : ¬ Lv R c M a := fun q => by
  rcases q with q | ⟨n, ⟨d, e⟩, hc⟩
  · obtain ⟨o, e1, e2⟩ := m.there a q
    rw [h] at e1; cases e1
    exact e2 vs rfl
  · obtain ⟨b, e1, e2⟩ := m.obj n d e
    rw [hc] at e1; cases e1
    cases d <;> simp only [CellOk] at e2
    · obtain ⟨us, e3, _⟩ := e2; rw [h] at e3; cases e3
    · rcases e2 with ⟨_, kvs, e3, _⟩ | ⟨_, kvs, e3, _⟩ <;> (rw [h] at e3; cases e3)
theorem CM.fresh {mg : Mg} {R : Addr → Prop} {H : Hp} {c : List Addr} {M : Cs} (m : CM mg R H c M) {a : Addr} (h : H a = none) : ¬ Lv R c M a := fun q => m.lv_at q h
/-- a new object is laid -/
theorem Stp.new {mg : Mg} {R : Addr → Prop} {H : Hp} {c : List Addr} {M : Cs} {p : Addr} {o : HO} (m : CM mg R H c M) (h : H p = none) : Stp R H c M (upd H p o) c M :=
  ⟨fun a u e n => ⟨by rw [upd_ne (ne_of_none e h)]; exact e, n⟩, fun _ _ => rfl, fun a r => upd_ne (fun e => by
    obtain ⟨o, e1, _⟩ := m.there a r
    rw [e, h] at e1; cases e1)⟩
theorem CellOk.mono {mg : Mg} {H H' : Hp} {U U' : Addr → Prop} {c c' : List Addr} {a : Addr} (g : Gr H U c H' U' c') (e : H' a = H a) : ∀ {d : D}, CellOk mg H U c a d → CellOk mg H' U' c' a d
  | .lst ds, h => by
    simp only [CellOk] at h ⊢
    obtain ⟨vs, h1, h2⟩ := h
    exact ⟨vs, e.trans h1, h2.mono g⟩
  | .dct t ks us, h => by
    simp only [CellOk] at h ⊢
    rcases h with ⟨et, kvs, h3, h4, h5⟩ | ⟨et, kvs, h3, h4, h5⟩
    · exact .inl ⟨et, kvs, e.trans h3, h4, h5.mono g⟩
    · exact .inr ⟨et, kvs, e.trans h3, h4, h5.mono g⟩
  | .non, h => by simp [CellOk] at h
  | .bl _, h => by simp [CellOk] at h
  | .int _, h => by simp [CellOk] at h
  | .str _, h => by simp [CellOk] at h
  | .tup _, h => by simp [CellOk] at h
  | .cell _, h => by simp [CellOk] at h
  | .fn _, h => by simp [CellOk] at h
  | .exc _ _, h => by simp [CellOk] at h
  | .scr _, h => by simp [CellOk] at h
theorem CM.new {mg : Mg} {R : Addr → Prop} {H : Hp} {c : List Addr} {M : Cs} {p : Addr} {o : HO} (m : CM mg R H c M) (h : H p = none) : CM mg R (upd H p o) c M where
  len := m.len
  inj := m.inj
  nres := m.nres
  there := fun a r => by
    obtain ⟨o, e1, e2⟩ := m.there a r
    exact ⟨o, by rw [upd_ne (ne_of_none e1 h)]; exact e1, e2⟩
  obj := fun n d e => by
    obtain ⟨a, e1, e2⟩ := m.obj n d e
    obtain ⟨u, e3⟩ := e2.at
    exact ⟨a, e1, e2.mono (Stp.new m h).gr (upd_ne (ne_of_none e3 h))⟩
  fre := m.fre

/-- the slots -/
def RpS (mg : Mg) (H : Hp) (U : Addr → Prop) (c : List Addr) (σd : En) (σ : L2.St) : Prop := σd.length = σ.length ∧ ∀ (i : Nat) d, σd[i]? = some (some d) → ∃ v, σ[i]? = some (some v) ∧ Rp mg H U c d v
theorem RpS.mono {mg : Mg} {H H' : Hp} {U U' : Addr → Prop} {c c' : List Addr} (g : Gr H U c H' U' c') {σd : En} {σ : L2.St} (h : RpS mg H U c σd σ) : RpS mg H' U' c' σd σ :=
  ⟨h.1, fun i d e => let ⟨v, e1, e2⟩ := h.2 i d e; ⟨v, e1, e2.mono g⟩⟩
theorem RpS.set {mg : Mg} {H : Hp} {U : Addr → Prop} {c : List Addr} {σd : En} {σ : L2.St} (h : RpS mg H U c σd σ) (i : Nat) {d : D} {v : V} (r : Rp mg H U c d v) : RpS mg H U c (σd.set i (some d)) (σ.set i (some v)) := by
  refine ⟨by simp [h.1], fun j x e => ?_⟩
  by_cases hij : i = j
  · subst hij
    rw [List.getElem?_set] at e
    simp only [if_true] at e
    split at e
    · simp at e; subst e
      rename_i hlt
      have hlt' : i < σ.length := by rw [← h.1]; exact hlt
      exact ⟨v, by rw [List.getElem?_set]; simp [hlt'], r⟩
    · cases e
  · rw [List.getElem?_set_ne hij] at e
    rw [List.getElem?_set_ne hij]
    exact h.2 j x e
theorem wip_len (σ : En) : ∀ vs, (wip σ vs).length = σ.length
  | [] => rfl
  | v :: vs => by simp [wip, wip_len σ vs]
theorem RpS.wip {mg : Mg} {H : Hp} {U : Addr → Prop} {c : List Addr} {σd : En} {σ : L2.St} (h : RpS mg H U c σd σ) : ∀ vs : List Nat, RpS mg H U c (wip σd vs) (wipe σ vs)
  | [] => h
  | v :: vs => by
    have ih := RpS.wip h vs
    refine ⟨by simp [Mp.wip, wipe, ih.1], fun j x e => ?_⟩
    simp only [Mp.wip] at e
    simp only [wipe]
    by_cases hij : v = j
    · subst hij
      rw [List.getElem?_set] at e
      simp only [if_true] at e
      split at e <;> simp at e
    · rw [List.getElem?_set_ne hij] at e
      rw [List.getElem?_set_ne hij]
      exact ih.2 j x e

/-- an exception's datum: its class, what it keeps -/
def ExR (mg : Mg) (H : Hp) (U : Addr → Prop) (c : List Addr) (cls : Value) (dd : Option Addr) : D → Prop
  | .exc x as => ∃ C, cls = .ref C ∧ mg.nm x = some (.ref C) ∧ ((mg.att x = none ∧ as = [] ∧ dd = none) ∨ ∃ f q w, mg.att x = some f ∧ dd = some q ∧ H q = some (.xd [(f, w)]) ∧ ¬ U q ∧ RpL mg H U c as [w])
  | _ => False

/-! ### data as the library's -/
mutual
theorem Rp.dp {mg : Mg} {H : Hp} {U : Addr → Prop} {c : List Addr} {K : PySem.W.Frag} : ∀ (d : D) {v : V}, Rp mg H U c d v → d.py.canLay0 = true → Dp K H v d.py
  | .non, v, h, _ => by simp only [Rp] at h; subst h; exact .non
  | .bl _, v, h, _ => by simp only [Rp] at h; subst h; exact .bl _
  | .int _, v, h, _ => by simp only [Rp] at h; subst h; exact .int _
  | .str _, v, h, _ => by simp only [Rp] at h; subst h; exact .str _
  | .tup ds, v, h, k => by
    simp only [Rp] at h
    obtain ⟨a, vs, rfl, h1, h2, h3⟩ := h
    exact .tup (SqT.of h1) (RpL.dps ds h3 (by simpa [D.py, PyData.canLay0] using k))
  | .lst ds, v, h, k => by
    simp only [Rp] at h
    obtain ⟨a, vs, rfl, h1, h2, h3⟩ := h
    exact .lst (SqL.of h1) (RpL.dps ds h3 (by simpa [D.py, PyData.canLay0] using k))
  | .dct _ _ _, v, h, k => by simp [D.py, PyData.canLay0] at k
  | .cell _, v, h, k => by simp [D.py, PyData.canLay0] at k
  | .fn _, v, h, k => by simp [D.py, PyData.canLay0] at k
  | .exc _ _, v, h, k => by simp [D.py, PyData.canLay0] at k
  | .scr _, v, h, k => by simp [D.py, PyData.canLay0] at k
theorem RpL.dps {mg : Mg} {H : Hp} {U : Addr → Prop} {c : List Addr} {K : PySem.W.Frag} : ∀ (ds : List D) {vs : List V}, RpL mg H U c ds vs → PyData.canLayAll0 (pys ds) = true → DpAll K H vs (pys ds)
  | [], vs, h, _ => by rw [RpL.nil_iff.mp h]; exact .nil
  | d :: ds, vs, h, k => by
    obtain ⟨v, r, rfl, h1, t⟩ := RpL.cons_iff.mp h
    have k' : d.py.canLay0 = true ∧ PyData.canLayAll0 (pys ds) = true := by simpa [pys, PyData.canLayAll0] using k
    exact .cons (Rp.dp d h1 k'.1) (RpL.dps ds t k'.2)
end
theorem scr_sql {X : Cx} {H : Hp} {U : Addr → Prop} {c : List Addr} {ns : List Int} {v : V} (h : Rp X.Mg H U c (.scr ns) v) : ∃ p, v = .ref p ∧ SqL X.K H p (ns.map .int) := by
  simp only [Rp] at h
  obtain ⟨p, e, h⟩ := h
  exact ⟨p, e, h.elim (fun z => .inl z.1) sqL_of⟩
end Mp

/-! The operations by values. -/
namespace Mp
open PySem PySem.Spec PyProof.Rows L2

/-- v is read as d (a cell's contents, or d itself) -/
def Rr (mg : Mg) (H : Hp) (U : Addr → Prop) (c : List Addr) : D → V → Prop
  | .lst ds, v => ∃ a vs, v = .ref a ∧ H a = some (.lst vs) ∧ RpL mg H U c ds vs
  | .dct t ks us, v => ∃ a, v = .ref a ∧ (
      (t = false ∧ ∃ kvs : List (Key × V), H a = some (.dK kvs) ∧ ks = kvs.map (fun p => keyD p.1) ∧ RpL mg H U c us (kvs.map (·.2))) ∨
      (t = true ∧ ∃ kvs : List (List Key × V), H a = some (.dT kvs) ∧ ks = kvs.map (fun p => keyTD p.1) ∧ RpL mg H U c us (kvs.map (·.2))))
  | d, v => Rp mg H U c d v
def RrL (mg : Mg) (H : Hp) (U : Addr → Prop) (c : List Addr) : List D → List V → Prop
  | [], vs => vs = []
  | d :: ds, vs => ∃ v r, vs = v :: r ∧ Rr mg H U c d v ∧ RrL mg H U c ds r
theorem Rp.rr {mg : Mg} {H : Hp} {U : Addr → Prop} {c : List Addr} : ∀ {d : D} {v : V}, Rp mg H U c d v → Rr mg H U c d v
  | .lst ds, v, h => by
    simp only [Rp] at h
    obtain ⟨a, vs, e, h1, _, h3⟩ := h
    exact ⟨a, vs, e, h1, h3⟩
  | .dct t ks us, v, h => by
    simp only [Rp] at h
    obtain ⟨a, e, _, h3⟩ := h
    exact ⟨a, e, h3⟩
  | .non, v, h => h
  | .bl _, v, h => h
  | .int _, v, h => h
  | .str _, v, h => h
  | .tup _, v, h => h
  | .cell _, v, h => h
  | .fn _, v, h => h
  | .exc _ _, v, h => h
  | .scr _, v, h => h
section
variable {mg : Mg} {H : Hp} {U : Addr → Prop} {c : List Addr} {v : V}
theorem rr_int {i : Int} : Rr mg H U c (.int i) v ↔ v = .int i := by simp [Rr, Rp]
theorem rr_bl {i : Bool} : Rr mg H U c (.bl i) v ↔ v = .bl i := by simp [Rr, Rp]
theorem rr_str {i : Str} : Rr mg H U c (.str i) v ↔ v = .str i := by simp [Rr, Rp]
theorem rr_non : Rr mg H U c .non v ↔ v = .non := by simp [Rr, Rp]
theorem rr_tup {ds : List D} : Rr mg H U c (.tup ds) v ↔ ∃ a vs, v = .ref a ∧ H a = some (.tup vs) ∧ ¬ U a ∧ RpL mg H U c ds vs := by simp [Rr, Rp]
theorem rr_lst {ds : List D} : Rr mg H U c (.lst ds) v ↔ ∃ a vs, v = .ref a ∧ H a = some (.lst vs) ∧ RpL mg H U c ds vs := Iff.rfl
end
theorem rd_ok {mg : Mg} {R : Addr → Prop} {H : Hp} {c : List Addr} {M : Cs} (m : CM mg R H c M) {d x : D} {v : V} (h : Rp mg H (Lv R c M) c x v) (e : rd M x = some d) : Rr mg H (Lv R c M) c d v := by
  cases x with
  | cell n =>
    simp only [Rp] at h
    obtain ⟨a, rfl, hc⟩ := h
    simp only [rd] at e
    split at e
    · rename_i u he
      simp at e; subst e
      obtain ⟨b, e1, e2⟩ := m.obj n _ he
      rw [hc] at e1; cases e1
      cases u <;> simp only [CellOk] at e2
      · obtain ⟨vs, e3, e4⟩ := e2
        exact ⟨a, vs, rfl, e3, e4⟩
      · exact ⟨a, rfl, e2⟩
    · cases e
  | _ => simp only [rd, Option.some.injEq] at e; subst e; exact h.rr
theorem rds_ok {mg : Mg} {R : Addr → Prop} {H : Hp} {c : List Addr} {M : Cs} (m : CM mg R H c M) : ∀ {xs ds : List D} {vs : List V}, RpL mg H (Lv R c M) c xs vs → rds M xs = some ds → RrL mg H (Lv R c M) c ds vs
  | [], ds, vs, h, e => by
    simp only [rds, Option.some.injEq] at e; subst e
    exact RpL.nil_iff.mp h
  | x :: xs, ds, vs, h, e => by
    obtain ⟨v, r, rfl, h1, t⟩ := RpL.cons_iff.mp h
    simp only [rds] at e
    split at e
    · rename_i a b e1 e2
      simp at e; subst e
      exact ⟨v, r, rfl, rd_ok m h1 e1, rds_ok m t e2⟩
    · cases e
theorem scr_rr {X : Cx} {H : Hp} {U : Addr → Prop} {c : List Addr} {ns : List Int} {v : V} (h : Rr X.Mg H U c (.scr ns) v) : ∃ p, v = .ref p ∧ SqL X.K H p (ns.map .int) := scr_sql (U := U) (c := c) h
theorem Rr.dp {mg : Mg} {H : Hp} {U : Addr → Prop} {c : List Addr} {K : PySem.W.Frag} : ∀ {d : D} {v : V}, Rr mg H U c d v → d.py.canLay0 = true → Dp K H v d.py
  | .lst ds, v, h, k => by
    obtain ⟨a, vs, rfl, h1, h3⟩ := h
    exact .lst (SqL.of h1) (RpL.dps ds h3 (by simpa [D.py, PyData.canLay0] using k))
  | .dct _ _ _, v, h, k => by simp [D.py, PyData.canLay0] at k
  | .non, v, h, k => Rp.dp (mg := mg) (U := U) (c := c) _ h k
  | .bl _, v, h, k => Rp.dp (mg := mg) (U := U) (c := c) _ h k
  | .int _, v, h, k => Rp.dp (mg := mg) (U := U) (c := c) _ h k
  | .str _, v, h, k => Rp.dp (mg := mg) (U := U) (c := c) _ h k
  | .tup _, v, h, k => Rp.dp (mg := mg) (U := U) (c := c) _ h k
  | .cell _, v, h, k => Rp.dp (mg := mg) (U := U) (c := c) _ h k
  | .fn _, v, h, k => Rp.dp (mg := mg) (U := U) (c := c) _ h k
  | .exc _ _, v, h, k => Rp.dp (mg := mg) (U := U) (c := c) _ h k
  | .scr _, v, h, k => Rp.dp (mg := mg) (U := U) (c := c) _ h k
theorem pys_eq : ∀ xs : List D, pys xs = xs.map D.py
  | [] => rfl
  | x :: xs => by simp [pys, pys_eq xs]
theorem sh_lay {d : D} (h : sh d = true) : d.py.canLay0 = true := SeqAt.canLay_of_shaped h
theorem sh_depth {d : D} (h : sh d = true) : d.py.depth ≤ 64 := SeqAt.depth_of_shaped h

/-! ### what comes behind an operation -/
def Aft (mg : Mg) (R : Addr → Prop) (H : Hp) (c : List Addr) (M M' : Cs) (H' : Hp) (c' : List Addr) : Prop := Stp R H c M H' c' M' ∧ CM mg R H' c' M'
/-- the result d is what follows, in H or with a new object -/
def Out (mg : Mg) (R : Addr → Prop) (c : List Addr) (M : Cs) (d : D) (H : Hp) (Q : VK) : Prop := ∀ w H', Aft mg R H c M M H' c → Rp mg H' (Lv R c M) c d w → Q w H'
section
variable {mg : Mg} {R : Addr → Prop} {H : Hp} {c : List Addr} {M : Cs} {Q : VK}
theorem Out.same {d : D} {v : V} (m : CM mg R H c M) (h : Out mg R c M d H Q) (r : Rp mg H (Lv R c M) c d v) : Q v H := h v H ⟨Stp.refl _ _ _ _, m⟩ r
theorem Out.int {i : Int} (m : CM mg R H c M) (h : Out mg R c M (.int i) H Q) : Q (.int i) H := h.same m (by simp [Rp])
theorem Out.bl {b : Bool} (m : CM mg R H c M) (h : Out mg R c M (.bl b) H Q) : Q (.bl b) H := h.same m (by simp [Rp])
theorem Out.str {x : Str} (m : CM mg R H c M) (h : Out mg R c M (.str x) H Q) : Q (.str x) H := h.same m (by simp [Rp])
theorem Out.non (m : CM mg R H c M) (h : Out mg R c M .non H Q) : Q .non H := h.same m (by simp [Rp])
theorem Out.tup {ds : List D} {vs : List V} (m : CM mg R H c M) (h : Out mg R c M (.tup ds) H Q) (r : RpL mg H (Lv R c M) c ds vs) {p : Addr} (hp : H p = none) : Q (.ref p) (upd H p (.tup vs)) :=
  h _ _ ⟨Stp.new m hp, m.new hp⟩ (by simp only [Rp]; exact ⟨p, vs, rfl, upd_same, m.fresh hp, r.mono (Stp.new m hp).gr⟩)
theorem Out.lst {ds : List D} {vs : List V} (m : CM mg R H c M) (h : Out mg R c M (.lst ds) H Q) (r : RpL mg H (Lv R c M) c ds vs) {p : Addr} (hp : H p = none) : Q (.ref p) (upd H p (.lst vs)) :=
  h _ _ ⟨Stp.new m hp, m.new hp⟩ (by simp only [Rp]; exact ⟨p, vs, rfl, upd_same, m.fresh hp, r.mono (Stp.new m hp).gr⟩)
end

/-- an operation of two places, by what g tells -/
def rO2 (mg : Mg) (g : D → D → Option D) : R2 := fun v u H Q => ∃ R c M x y d, CM mg R H c M ∧ Rr mg H (Lv R c M) c x v ∧ Rr mg H (Lv R c M) c y u ∧ g x y = some d ∧ Out mg R c M d H Q

section
variable {X : Cx}
theorem tuple_mulOne (l : Addr) (items : Array Value) (n : Nat) (dd : Option Addr) (sl : Array (Option Value)) (u : Tok) (c0 : (decide ((1 : Int) < -(2 ^ 63)) || decide ((1 : Int) ≥ 2 ^ 63)) = false) (c1 : (items.isEmpty || (1 : Int) == 1) = true) :
    Meets (Builtin.«tuple.__mul__» ⟨[.ref l, .int 1 u], []⟩) (fun _ R s => s.heap.get? l = some { cls := .type "tuple", dict := dd, data := .seq items n, slots := sl } ∧ R (.ok (.ret (Value.ref l))) s) :=
  .of_wp fun prog w A R s h => by
    obtain ⟨hp, g, d, tk, os⟩ := s
    obtain ⟨hl, h⟩ := h
    have f1 := AutoSeq1.idx_int
    wp_walk using wpAny_loadPart' hl
    repeat (first
      | (refine wpAny_ite_false (decide_eq_false (by rw [c0]; exact Bool.false_ne_true)) ?_; wp_walk using wpAny_loadPart' hl)
      | (refine wpAny_ite_true (decide_eq_true c1) ?_; wp_walk using wpAny_loadPart' hl)
      | (refine wpAny_ite_true (decide_eq_true (by decide)) ?_; wp_walk using wpAny_loadPart' hl))
    exact ⟨_, rfl, h⟩
theorem op_repT1 : OpR X (binaryOp .Mult) (fun x y H Q => ∃ l xs, x = .ref l ∧ y = .int 1 ∧ SqT X.K H l xs ∧ Q (.ref l) H) := by
  intro pins s σ H x y v u Q I rx ry h
  obtain ⟨l, xs, rfl, rfl, hT, q⟩ := h
  cases rx
  obtain ⟨t, rfl⟩ := ry
  obtain ⟨its, r, ⟨⟨cls, dd, data, sl⟩, ho, hc, n, hd⟩, hs⟩ := I.tuple hT
  simp only at hc hd
  subst hc hd
  refine wpAny_binaryOp_repeat_ref (T := "tuple") (U := "int") (by decide) ⟨_, ho, rfl⟩ (fun s' => typeIs_int s' 1 t) noFill_tuple_mul F.fills_int_mul F.slot_int_rmul repeat_tuple F.slot_int_index.lookup
    (call_meets F.slot_int_rmul (typeIs_int s 1 t) F.entry_int_rmul (F.args_int_rmul_2 _ _) (int_rmul_tuple 1 t l its.toArray n dd sl)
      ⟨ho, rfl, ⟨_, ho, rfl⟩, call_meets F.slot_tuple_mul ⟨_, ho, rfl⟩ F.entry_tuple_mul (F.args_tuple_mul_2 _ _) (tuple_mulOne l its.toArray n dd sl t (by decide) (by simp)) ⟨ho, ?_⟩⟩)
  exact ⟨.ref l, H, I, rfl, q⟩

theorem op2_bin (o : Operator) : OpR X (binaryOp o) (rO2 X.Mg (binD o)) := by
  intro pins s σ H x y v u Q I rx ry h
  obtain ⟨R, c, M, a, b, d, m, ha, hb, e, q⟩ := h
  unfold binD at e
  split at e
  · simp at e; subst e
    exact op_add pins s σ H x y v u Q I rx ry ⟨_, _, rr_int.mp ha, rr_int.mp hb, q.int m⟩
  · simp at e; subst e
    exact op_sub pins s σ H x y v u Q I rx ry ⟨_, _, rr_int.mp ha, rr_int.mp hb, q.int m⟩
  · split at e
    · rename_i k
      simp at e; subst e
      refine op_mul pins s σ H x y v u Q I rx ry ⟨_, _, rr_int.mp ha, rr_int.mp hb, ?_, q.int m⟩
      simp only [Bool.or_eq_true, Bool.and_eq_true, decide_eq_true_eq] at k
      unfold big at k
      unfold CMul
      rcases k with k | k
      · exact .inl ⟨by omega, by omega⟩
      · exact .inr ⟨by omega, by omega⟩
    · cases e
  · split at e
    · rename_i k
      simp at e; subst e
      simp only [Bool.and_eq_true, decide_eq_true_eq] at k
      exact op_fdiv pins s σ H x y v u Q I rx ry ⟨_, _, rr_int.mp ha, rr_int.mp hb, ⟨k.1, k.2⟩, q.int m⟩
    · cases e
  · split at e
    · rename_i k
      simp at e; subst e
      exact op_mod pins s σ H x y v u Q I rx ry ⟨_, _, rr_int.mp ha, rr_int.mp hb, k, q.int m⟩
    · cases e
  · split at e
    · rename_i k
      simp at e; subst e
      simp only [Bool.and_eq_true, decide_eq_true_eq] at k
      exact op_pow pins s σ H x y v u Q I rx ry ⟨_, _, rr_int.mp ha, rr_int.mp hb, ⟨k.1.1, k.1.2, by have := k.2; omega⟩, q.int m⟩
    · cases e
  · split at e
    · rename_i k
      simp at e; subst e
      obtain ⟨p1, vs, rfl, h1, r1⟩ := ha
      obtain ⟨p2, us, rfl, h2, r2⟩ := hb
      exact op_cat pins s σ H _ _ v u Q I rx ry ⟨p1, p2, vs, us, rfl, rfl, h1, h2, by rw [r1.len, r2.len]; exact k, fun p hp => q.lst m (r1.app r2) hp⟩
    · cases e
  · split at e
    · rename_i k
      simp at e; subst e
      have ha' := ha
      have hb' := hb
      obtain ⟨p1, vs, rfl, h1, n1, r1⟩ := rr_tup.mp ha
      obtain ⟨p2, us, rfl, h2, n2, r2⟩ := rr_tup.mp hb
      rename_i xs ys
      refine op_catA pins s σ H _ _ v u Q I rx ry ⟨p1, p2, vs, us, rfl, rfl, SqT.of h1, SqT.of h2, by rw [r1.len, r2.len]; exact k, fun z => ?_, fun _ z => ?_, fun _ _ p hp => q.tup m (r1.app r2) hp⟩
      · subst z
        have e1 : xs = [] := List.eq_nil_of_length_eq_zero r1.len.symm
        subst e1
        exact q.same m (by simpa [Rr] using hb')
      · subst z
        have e1 : ys = [] := List.eq_nil_of_length_eq_zero r2.len.symm
        subst e1
        exact q.same m (by simpa [Rr] using ha')
    · cases e
  · split at e
    · rename_i k
      simp at e; subst e
      exact op_add_str pins s σ H x y v u Q I rx ry ⟨_, _, rr_str.mp ha, rr_str.mp hb, k, q.str m⟩
    · cases e
  · split at e
    · rename_i k
      simp at e; subst e
      simp only [Bool.and_eq_true, decide_eq_true_eq, Bool.not_eq_true'] at k
      have hx' := ha
      obtain ⟨p1, vs, rfl, h1, n1, r1⟩ := rr_tup.mp ha
      obtain rfl := rr_int.mp hb
      rename_i xs j
      by_cases hj : j = 1
      · subst hj
        refine op_repT1 pins s σ H _ _ v u Q I rx ry ⟨p1, vs, rfl, rfl, SqT.of h1, q.same m ?_⟩
        have : (List.replicate (Int.toNat 1) xs).flatten = xs := by simp
        rw [this]
        exact hx'
      · refine op_repT pins s σ H _ _ v u Q I rx ry ⟨p1, j, vs, rfl, rfl, SqT.of h1, fun z => ?_, by omega, by omega, by rw [r1.len]; omega, fun p hp => q.tup m (r1.rep _) hp⟩
        subst z
        have e1 : xs = [] := List.eq_nil_of_length_eq_zero r1.len.symm
        rw [e1] at k
        simp at k
    · cases e
  · split at e
    · rename_i k
      simp at e; subst e
      simp only [Bool.and_eq_true, decide_eq_true_eq] at k
      obtain ⟨p1, vs, rfl, h1, r1⟩ := ha
      exact op_rep pins s σ H _ y v u Q I rx ry ⟨p1, _, vs, rfl, rr_int.mp hb, h1, k.1.1, k.1.2, by rw [r1.len]; exact k.2, fun p hp => q.lst m (r1.rep _) hp⟩
    · cases e
  · cases e
end

/-! ### keys -/
theorem keyD_inj : ∀ {a b : Key}, keyD a = keyD b → a = b
  | .inl a, .inl b, h => by simp [keyD] at h; rw [h]
  | .inr a, .inr b, h => by simp [keyD] at h; rw [h]
  | .inl a, .inr b, h => by simp [keyD] at h
  | .inr a, .inl b, h => by simp [keyD] at h
theorem map_inj {α β : Type} {f : α → β} (hf : ∀ {a b}, f a = f b → a = b) : ∀ {a b : List α}, a.map f = b.map f → a = b
  | [], [], _ => rfl
  | [], _ :: _, h => by simp at h
  | _ :: _, [], h => by simp at h
  | x :: xs, y :: ys, h => by
    simp at h
    rw [hf h.1, map_inj hf h.2]
theorem keyTD_inj {a b : List Key} (h : keyTD a = keyTD b) : a = b := by
  simp only [keyTD, D.tup.injEq] at h
  exact map_inj keyD_inj h
theorem isKeyK_ok : ∀ {d : D}, isKeyK d = true → ∃ k : Key, d = keyD k
  | .int i, _ => ⟨.inl i, rfl⟩
  | .str x, _ => ⟨.inr x, rfl⟩
  | .non, h => by simp [isKeyK] at h
  | .bl _, h => by simp [isKeyK] at h
  | .tup _, h => by simp [isKeyK] at h
  | .lst _, h => by simp [isKeyK] at h
  | .dct _ _ _, h => by simp [isKeyK] at h
  | .cell _, h => by simp [isKeyK] at h
  | .fn _, h => by simp [isKeyK] at h
  | .exc _ _, h => by simp [isKeyK] at h
  | .scr _, h => by simp [isKeyK] at h
theorem isKeyKs_ok : ∀ {ds : List D}, ds.all isKeyK = true → ∃ k : List Key, ds = k.map keyD
  | [], _ => ⟨[], rfl⟩
  | d :: ds, h => by
    simp only [List.all_cons, Bool.and_eq_true] at h
    obtain ⟨k, rfl⟩ := isKeyK_ok h.1
    obtain ⟨ks, rfl⟩ := isKeyKs_ok h.2
    exact ⟨k :: ks, rfl⟩
theorem isKeyT_ok {d : D} (h : isKeyT d = true) : ∃ k : List Key, d = keyTD k := by
  cases d <;> simp only [isKeyT] at h <;> try (cases h)
  obtain ⟨k, rfl⟩ := isKeyKs_ok h
  exact ⟨k, rfl⟩
section
variable {mg : Mg} {H : Hp} {U : Addr → Prop} {c : List Addr}
theorem Rp.key : ∀ {k : Key} {v : V}, Rp mg H U c (keyD k) v → v = kV k
  | .inl i, v, h => by simpa [keyD, Rp, kV] using h
  | .inr i, v, h => by simpa [keyD, Rp, kV] using h
theorem RpL.keys : ∀ {k : List Key} {vs : List V}, RpL mg H U c (k.map keyD) vs → vs = k.map kV
  | [], vs, h => RpL.nil_iff.mp h
  | x :: k, vs, h => by
    obtain ⟨v, r, rfl, h1, t⟩ := RpL.cons_iff.mp h
    rw [h1.key, RpL.keys t]; rfl
theorem Rp.keyT {k : List Key} {v : V} (h : Rp mg H U c (keyTD k) v) : ∃ a, v = .ref a ∧ H a = some (.tup (k.map kV)) := by
  simp only [keyTD, Rp] at h
  obtain ⟨a, vs, e, h1, _, h3⟩ := h
  exact ⟨a, e, by rw [← h3.keys]; exact h1⟩
theorem look_ok {κ : Type} [DecidableEq κ] {f : κ → D} (hf : ∀ {a b}, f a = f b → a = b) (k : κ) : ∀ {kvs : List (κ × V)} {us : List D}, RpL mg H U c us (kvs.map (·.2)) →
    (lookD (f k) (kvs.map fun p => f p.1) us = none ∧ valV kvs k = none) ∨ ∃ d v, lookD (f k) (kvs.map fun p => f p.1) us = some d ∧ valV kvs k = some v ∧ Rp mg H U c d v
  | [], us, h => by
    cases us with
    | nil => exact .inl ⟨rfl, rfl⟩
    | cons d ds => obtain ⟨v, r, e, _⟩ := RpL.cons_iff.mp h; cases e
  | p :: kvs, us, h => by
    cases us with
    | nil => have := h.len; simp at this
    | cons d ds =>
      obtain ⟨v, r, e, h1, t⟩ := RpL.cons_iff.mp h
      simp only [List.map_cons, List.cons.injEq] at e
      obtain ⟨rfl, rfl⟩ := e
      by_cases hk : p.1 = k
      · right
        refine ⟨d, p.2, ?_, valV_pos hk, h1⟩
        simp [lookD, hk]
      · have hk' : ¬ f p.1 = f k := fun q => hk (hf q)
        rcases look_ok hf k t with ⟨e1, e2⟩ | ⟨x, y, e1, e2, e3⟩
        · left
          exact ⟨by simp [lookD, hk', e1], (valV_neg hk).trans e2⟩
        · right
          exact ⟨x, y, by simp [lookD, hk', e1], (valV_neg hk).trans e2, e3⟩
/-- a look-up of a dict that is read -/
theorem dget_ok {t : Bool} {ks us : List D} {x : V} {k : D} {y : V} (h : Rr mg H U c (.dct t ks us) x) (hk : isKey t k = true) (ry : Rp mg H U c k y) :
    ∃ a o, x = .ref a ∧ DGet H a y o ∧ (match lookD k ks us with
      | none => o = none
      | some d => ∃ v, o = some v ∧ Rp mg H U c d v) := by
  obtain ⟨a, rfl, h2⟩ := h
  rcases h2 with ⟨rfl, kvs, e, rfl, r⟩ | ⟨rfl, kvs, e, rfl, r⟩
  · obtain ⟨q, rfl⟩ := isKeyK_ok (show isKeyK k = true from hk)
    obtain rfl := ry.key
    refine ⟨a, valV kvs q, rfl, DGet.k e, ?_⟩
    rcases look_ok keyD_inj q r with ⟨e1, e2⟩ | ⟨d, v, e1, e2, e3⟩
    · rw [e1]; exact e2
    · rw [e1]; exact ⟨v, e2, e3⟩
  · obtain ⟨q, rfl⟩ := isKeyT_ok (show isKeyT k = true from hk)
    obtain ⟨b, rfl, eb⟩ := ry.keyT
    refine ⟨a, valV kvs q, rfl, DGet.t e eb, ?_⟩
    rcases look_ok keyTD_inj q r with ⟨e1, e2⟩ | ⟨d, v, e1, e2, e3⟩
    · rw [e1]; exact e2
    · rw [e1]; exact ⟨v, e2, e3⟩
end

/-! ### comparisons -/
section
variable {X : Cx}
theorem rr_key {mg : Mg} {H : Hp} {U : Addr → Prop} {c : List Addr} {t : Bool} {d : D} {v : V} (h : Rr mg H U c d v) (k : isKey t d = true) : Rp mg H U c d v := by
  cases d with
  | lst ds => cases t <;> simp [isKey, isKeyK, isKeyT] at k
  | dct _ _ _ => cases t <;> simp [isKey, isKeyK, isKeyT] at k
  | _ => exact h
theorem memD_ok (x : D) : ∀ xs : List D, ((pys xs).any fun y => PyData.eqv y x.py) = memD x xs
  | [] => rfl
  | y :: ys => by simp only [pys, List.any_cons, memD, memD_ok x ys, eqD]
theorem nonD_ok {mg : Mg} {H : Hp} {U : Addr → Prop} {c : List Addr} {a : D} {x : V} (ha : Rr mg H U c a x) : isNonD a = decide (x = .non) := by
  cases a with
  | non => obtain rfl := rr_non.mp ha; rfl
  | bl _ => obtain rfl := rr_bl.mp ha; rfl
  | int _ => obtain rfl := rr_int.mp ha; rfl
  | str _ => obtain rfl := rr_str.mp ha; rfl
  | tup _ => obtain ⟨p, vs, rfl, _⟩ := rr_tup.mp ha; rfl
  | lst _ => obtain ⟨p, vs, rfl, _⟩ := ha; rfl
  | dct _ _ _ => obtain ⟨p, rfl, _⟩ := ha; rfl
  | cell _ => simp only [Rr, Rp] at ha; obtain ⟨p, rfl, _⟩ := ha; rfl
  | fn _ => simp only [Rr, Rp] at ha; obtain ⟨p, rfl, _⟩ := ha; rfl
  | exc _ _ => simp only [Rr, Rp] at ha; obtain ⟨p, _, _, _, rfl, _⟩ := ha; rfl
  | scr _ => simp only [Rr, Rp] at ha; obtain ⟨p, rfl, _⟩ := ha; rfl
theorem empT_some {a b : D} {k : Bool} (h : empT a b = some k) : ∃ xs, a = .tup xs ∧ b = .tup [] ∧ k = xs.isEmpty := by
  unfold empT at h
  split at h
  · exact ⟨_, rfl, rfl, (Option.some.inj h).symm⟩
  · cases h
theorem op_eqE (hu : X.A.units + 64 < cLine) : OpR X (compareOp .Eq) (fun x y H Q => ∃ a b xs, x = .ref a ∧ y = .ref b ∧ SqT X.K H a xs ∧ SqT X.K H b [] ∧ Q (.bl xs.isEmpty) H) := by
  intro pins s σ H x y v u Q I rx ry h
  obtain ⟨a, b, xs, rfl, rfl, hx, hy, q⟩ := h
  cases rx
  cases ry
  obtain ⟨its, r, ht, hz⟩ := I.tuple hx
  obtain ⟨its2, r2, ht2, hz2⟩ := I.tuple hy
  cases r2
  refine PySem.SeqAt.eq_tupleAt (e := fun _ => true) ht ht2 (by omega) (fun j h1 h2 => absurd h2 (by simp)) ⟨.bl xs.isEmpty, H, I, ?_, q⟩
  have hl := r.length
  cases xs <;> cases its <;> simp at hl ⊢ <;> rfl
theorem op2_cmp (hu : X.A.units + 70 < cLine) (o : CmpOp) : OpR X (compareOp o) (rO2 X.Mg (fun x y => (cmpD o x y).map .bl)) := by
  intro pins s σ H x y v u Q I rx ry h
  obtain ⟨R, c, M, a, b, d, m, ha, hb, e, q⟩ := h
  replace e := Option.map_eq_some_iff.mp (show (cmpD o a b).map D.bl = some d from e)
  obtain ⟨k, e, rfl⟩ := e
  unfold cmpD at e
  have reads : ∀ {d : D} {z : V} {w : Value}, Rr X.Mg H (Lv R c M) c d z → RelV z w → d.py.canLay0 = true → ∃ as, Reads s.heap w d.py as := fun h1 h2 h3 => Dp.reads I _ _ _ (h1.dp h3) h2
  split at e
  · split at e
    · rename_i k
      simp only [Bool.and_eq_true] at k
      simp only [Option.some.injEq] at e; subst e
      exact op_eqD (by omega) pins s σ H x y v u Q I rx ry ⟨_, _, ha.dp (sh_lay k.1), hb.dp (sh_lay k.2), k.1, k.2, q.bl m⟩
    · obtain ⟨xs, rfl, rfl, rfl⟩ := empT_some e
      obtain ⟨p, vs, rfl, h1, _, r1⟩ := rr_tup.mp ha
      obtain ⟨p2, vs2, rfl, h2, _, r2⟩ := rr_tup.mp hb
      rw [RpL.nil_iff] at r2
      subst r2
      have hl := r1.len
      have he : xs.isEmpty = vs.isEmpty := by cases xs <;> cases vs <;> simp at hl ⊢
      rw [he] at q
      exact op_eqE (by omega) pins s σ H _ _ v u Q I rx ry ⟨p, p2, vs, rfl, rfl, SqT.of h1, SqT.of h2, q.bl m⟩
  · split at e
    · rename_i k
      simp only [Bool.and_eq_true] at k
      simp only [Option.some.injEq] at e; subst e
      exact op_neD (by omega) pins s σ H x y v u Q I rx ry ⟨_, _, ha.dp (sh_lay k.1), hb.dp (sh_lay k.2), k.1, k.2, q.bl m⟩
    · cases e
  · simp only [Option.some.injEq] at e; subst e
    exact op_lt pins s σ H x y v u Q I rx ry ⟨_, _, rr_int.mp ha, rr_int.mp hb, q.bl m⟩
  · simp only [Option.some.injEq] at e; subst e
    exact op_le pins s σ H x y v u Q I rx ry ⟨_, _, rr_int.mp ha, rr_int.mp hb, q.bl m⟩
  · simp only [Option.some.injEq] at e; subst e
    exact op_gt pins s σ H x y v u Q I rx ry ⟨_, _, rr_int.mp ha, rr_int.mp hb, q.bl m⟩
  · simp only [Option.some.injEq] at e; subst e
    exact op_ge pins s σ H x y v u Q I rx ry ⟨_, _, rr_int.mp ha, rr_int.mp hb, q.bl m⟩
  · split at e
    · rename_i k
      simp only [Bool.and_eq_true] at k
      simp only [Option.some.injEq] at e; subst e
      obtain ⟨as, r1⟩ := reads ha rx (sh_lay k.1.1)
      obtain ⟨bs, r2⟩ := reads hb ry (sh_lay k.1.2)
      exact PySem.W.lt_data r1 r2 k.2 (fun z => by simp [D.py] at z) (by have := sh_depth k.1.1; omega) ⟨.bl _, H, I, rfl, q.bl m⟩
    · cases e
  · simp only [Option.some.injEq] at e; subst e
    obtain rfl := rr_non.mp hb
    refine op_isN pins s σ H x _ v u Q I rx ry ⟨rfl, ?_⟩
    rw [← nonD_ok ha]
    exact q.bl m
  · simp only [Option.some.injEq] at e; subst e
    obtain rfl := rr_non.mp hb
    refine op_notN pins s σ H x _ v u Q I rx ry ⟨rfl, ?_⟩
    rw [← nonD_ok ha]
    exact q.bl m
  · simp only [Option.some.injEq] at e; subst e
    exact op_isBl pins s σ H x y v u Q I rx ry ⟨_, _, rr_bl.mp ha, rr_bl.mp hb, by rw [← Bool.beq_eq_decide_eq]; exact q.bl m⟩
  · simp only [Option.some.injEq] at e; subst e
    exact op_notBl pins s σ H x y v u Q I rx ry ⟨_, _, rr_bl.mp ha, rr_bl.mp hb, by rw [← Bool.beq_eq_decide_eq]; exact q.bl m⟩
  · split at e
    · rename_i k
      simp only [Bool.and_eq_true] at k
      simp only [Option.some.injEq] at e; subst e
      obtain ⟨as, r1⟩ := reads ha rx (sh_lay k.1)
      obtain ⟨bs, r2⟩ := reads hb ry (sh_lay k.2)
      exact SeqAt.in_tuple_reads r2 r1 (sh_lay k.2) (sh_lay k.1) (by have := sh_depth k.1; omega) ⟨.bl _, H, I, rfl, by rw [memD_ok]; exact q.bl m⟩
    · cases e
  · split at e
    · rename_i k
      simp only [Bool.and_eq_true] at k
      simp only [Option.some.injEq] at e; subst e
      obtain ⟨as, r1⟩ := reads ha rx (sh_lay k.1)
      obtain ⟨bs, r2⟩ := reads hb ry (sh_lay k.2)
      exact SeqAt.in_list_reads r2 r1 (sh_lay k.2) (sh_lay k.1) (by have := sh_depth k.1; omega) ⟨.bl _, H, I, rfl, by rw [memD_ok]; exact q.bl m⟩
    · cases e
  · split at e
    · rename_i k
      simp only [Bool.and_eq_true] at k
      simp only [Option.some.injEq] at e; subst e
      obtain ⟨as, r1⟩ := reads ha rx (sh_lay k.1)
      obtain ⟨bs, r2⟩ := reads hb ry (sh_lay k.2)
      exact SeqAt.notIn_tuple_reads r2 r1 (sh_lay k.2) (sh_lay k.1) (by have := sh_depth k.1; omega) ⟨.bl _, H, I, rfl, by rw [memD_ok]; exact q.bl m⟩
    · cases e
  · split at e
    · rename_i k
      simp only [Bool.and_eq_true] at k
      simp only [Option.some.injEq] at e; subst e
      obtain ⟨as, r1⟩ := reads ha rx (sh_lay k.1)
      obtain ⟨bs, r2⟩ := reads hb ry (sh_lay k.2)
      exact SeqAt.notIn_list_reads r2 r1 (sh_lay k.2) (sh_lay k.1) (by have := sh_depth k.1; omega) ⟨.bl _, H, I, rfl, by rw [memD_ok]; exact q.bl m⟩
    · cases e
  · split at e
    · rename_i k
      simp only [Option.some.injEq] at e; subst e
      obtain ⟨p, o, rfl, g, r⟩ := dget_ok hb k (rr_key ha k)
      obtain rfl : u = Value.ref p := ry
      have q' := q.bl m
      refine d_in (by omega) I g rx fun s3 I3 => ⟨.bl o.isSome, H, I3, rfl, ?_⟩
      split at r
      · rename_i e1; subst r; rw [e1] at q'; exact q'
      · rename_i d e1; obtain ⟨w, rfl, _⟩ := r; rw [e1] at q'; exact q'
    · cases e
  · split at e
    · rename_i k
      simp only [Option.some.injEq] at e; subst e
      obtain ⟨p, o, rfl, g, r⟩ := dget_ok hb k (rr_key ha k)
      obtain rfl : u = Value.ref p := ry
      have q' := q.bl m
      refine d_notIn (by omega) I g rx fun s3 I3 => ⟨.bl (!o.isSome), H, I3, rfl, ?_⟩
      split at r
      · rename_i e1; subst r; rw [e1] at q'; exact q'
      · rename_i d e1; obtain ⟨w, rfl, _⟩ := r; rw [e1] at q'; exact q'
    · cases e
  · cases e
end
end Mp

/-! Sorting rows of which some may be empty; built-in functions by values. -/
namespace PySem.W
open PySem PySem.Calls PyProof.Rows PySem.SeqAt

theorem call_tuple_lt {A : Around} {s : Shared} {prog : Program} {w : World} {E : Value → Shared → Prop} {Q : Value → Shared → Prop} {l b : Addr} {items items2 : Array Value} {e r : Nat → Bool} (hl : s.heap.IsTuple l items) (hb : s.heap.IsTuple b items2)
    (he : ∀ j (h1 : j < items.size) (h2 : j < items2.size), EqAt A.in1 s items[j] items2[j] (e j)) (hr : ∀ j (h1 : j < items.size) (h2 : j < items2.size), e j = false → RcLt A.in1 s items[j] items2[j] (r j))
    (h : Q (.bool (firstLt e r (decide (items.size < items2.size)) (List.range (min items.size items2.size)))) s) : wpAny (model prog w) A (call (.builtin "tuple.__lt__") [.ref l, .ref b]) Q E s := by
  obtain ⟨⟨cls, dd, data, sl⟩, ho, hc, n, hd⟩ := id hl
  obtain ⟨⟨cls2, dd2, data2, sl2⟩, ho2, hc2, n2, hd2⟩ := id hb
  simp only at hc hd hc2 hd2
  subst hc hd hc2 hd2
  exact call_meets F.slot_tuple_lt ⟨_, ho, rfl⟩ F.entry_tuple_lt (F.args_tuple_lt_2 _ _) (tuple_ltAt l b items items2 n n2 dd dd2 sl sl2 e r) ⟨ho, ho2, he, hr, h⟩

section
variable {prog : Program} {w : World} {A : Around} {E : Value → Shared → Prop} {s : Shared}
/-- one tuple against another, as sorting compares -/
theorem oneLt_tuples {f : Bool} {xs ys : List PyData} {a b : Value} {as bs : List Addr} {Q : Bool → Shared → Prop} (ra : Reads s.heap a (.tuple xs) as) (rb : Reads s.heap b (.tuple ys) bs) (h : alike (.tuple xs) (.tuple ys) = true)
    (hu : A.units + min (PyData.tuple xs).depth (PyData.tuple ys).depth < cLine) (hq : Q (dataLt (.tuple xs) (.tuple ys)) s) : wpAny (model prog w) A (oneLt' f a b) Q E s := by
  cases f with
  | false => exact oneLt_alike (fun h => nomatch h) ra rb h (fun z => nomatch z) hu hq
  | true =>
    have hal : alikeAll xs ys = true := by simpa [alike] using h
    cases ra with
    | @tuple l o vs n _ as₁ h1 h2 h3 h4 =>
      cases rb with
      | @tuple l' o' vs' n' _ bs₁ k1 k2 k3 k4 =>
        have n1 : vs.size = xs.length := by simpa using SeqAt.ReadsAll.length _ _ _ h4
        have n2 : vs'.size = ys.length := by simpa using SeqAt.ReadsAll.length _ _ _ k4
        rw [dataLt_tuple, ← firstLt_toks xs ys hal, ← n1, ← n2] at hq
        rw [oneLt'_eq]
        simp only [if_true]
        refine wpAny_bind (wpAny_cRoomFor (room_here hu) ?_)
        refine wpAny_bind (wpAny_callSpecialIfBound?_slot (T := "tuple") ⟨_, h1, h2⟩ F.slot_tuple_lt (call_tuple_lt (e := pairEq xs ys) (r := fun j => dataLt (xs.getD j .none) (ys.getD j .none)) ⟨_, h1, h2, _, h3⟩ ⟨_, k1, k2, _, k3⟩ (fun j j1 j2 => ?_) (fun j j1 j2 hj => ?_) ?_))
        · have := eqAt_alikeAll xs ys A.in1 s vs.toList vs'.toList _ _ h4 k4 hal (room_in hu) j (by simpa using j1) (by simpa using j2)
          simpa using this
        · have := rcLt_alikeAll xs ys A.in1 s vs.toList vs'.toList _ _ h4 k4 hal (room_in hu) j (by simpa using j1) (by simpa using j2) hj
          simpa using this
        · exact wpAny_truthy_bool hq

/-- tuples, each with its first item or none -/
def KatTupsO (h : Heap) : List Value → List (Option Value) → Prop
  | [], [] => True
  | v :: vs, f :: fs => (∃ a o xs n, v = .ref a ∧ h.get? a = some o ∧ o.cls = .type "tuple" ∧ o.data = .seq xs n ∧ xs[0]? = f) ∧ KatTupsO h vs fs
  | _, _ => False
theorem kat_firstsO {M : Model} : ∀ (vs : List Value) (fs : List (Option Value)) {Q : List (Option Value) → Shared → Prop}, KatTupsO s.heap vs fs → Q fs s → wpAny M A (vs.mapM firstOfTuple') Q E s
  | [], [], _, _, h => by rw [List.mapM_nil]; exact wpAny_pure h
  | [], _ :: _, _, t, _ => t.elim
  | _ :: _, [], _, t, _ => t.elim
  | v :: vs, f :: fs, Q, t, h => by
    obtain ⟨⟨a, o, xs, n, rfl, ho, hc, hd, hf⟩, t⟩ := t
    rw [List.mapM_cons]
    refine wpAny_bind ?_
    rw [kas_first_eq]
    refine wpAny_bind (Looks.here (show Looks M s.heap (typeOf (.ref a)) o.cls from (Looks.ld ho).andThen .now) ?_)
    rw [hc, if_neg (by first | decide | simp)]
    refine wpAny_bind (listItems_at ho hd (wpAny_pure ?_))
    rw [hf]
    exact wpAny_bind (kat_firstsO vs fs (Q := fun bs s' => wpAny M A (pure (f :: bs)) Q E s') t (wpAny_pure h))
theorem KatTupsO.looks {M : Model} {h : Heap} : ∀ {vs : List Value} {fs : List (Option Value)}, KatTupsO h vs fs → ∀ v ∈ vs, Looks M h (typeOf v) (.type "tuple")
  | [], _, _, v, hv => by cases hv
  | x :: vs, [], t, v, hv => t.elim
  | x :: vs, f :: fs, t, v, hv => by
    obtain ⟨⟨a, o, xs, n, rfl, ho, hc, hd, hf⟩, t⟩ := t
    rcases List.mem_cons.mp hv with rfl | hv
    · exact hc ▸ (Looks.ld ho).andThen .now
    · exact t.looks v hv
theorem KatTupsO.len {h : Heap} : ∀ {vs : List Value} {fs : List (Option Value)}, KatTupsO h vs fs → fs.length = vs.length
  | [], [], _ => rfl
  | [], _ :: _, t => t.elim
  | _ :: _, [], t => t.elim
  | x :: vs, f :: fs, t => by simp [t.2.len]
/-- the kind of keys of tuples of which one is empty -/
theorem kat_kindO {M : Model} {vs : List Value} {fs : List (Option Value)} {Q : SortKind → Shared → Prop} (t : KatTupsO s.heap vs fs) (hn : none ∈ fs) (h1 : (fs[0]?.bind id).isSome = true → Q general' s) (h2 : (fs[0]?.bind id).isSome = false → Q oneType' s) :
    wpAny M A (keyKind' vs.toArray) Q E s := by
  have hne : 0 < vs.length := by
    rw [← t.len]
    exact List.length_pos_of_mem hn
  rw [kat_kind_eq, List.mapM_toArray, map_eq_pure_bind]
  refine wpAny_bind (wpAny_bind (kat_firstsO vs _ t (wpAny_pure ?_)))
  have hall : (fs.toArray.all fun x => x.isSome) = false := by
    simp only [List.all_toArray]
    rw [List.all_eq_false]
    exact ⟨none, hn, by simp⟩
  rw [if_neg (by rw [hall]; exact Bool.false_ne_true)]
  have e0 : fs.toArray[0]? = fs[0]? := by simp
  rw [e0]
  cases hb : (fs[0]?.bind id).isSome with
  | true =>
    rw [if_pos rfl]
    exact wpAny_pure (h1 hb)
  | false =>
    rw [if_neg Bool.false_ne_true]
    rw [oneTypeOnly'_eq, List.mapM_toArray, map_eq_pure_bind]
    refine wpAny_bind (wpAny_bind (wpAny_bind (kas_mapM (r := Value.type "tuple") _ (fun v hv Q' hq => (t.looks v hv).here hq) (wpAny_pure ?_))))
    have hall2 : ((List.map (fun _ => Value.type "tuple") vs).toArray.all fun x => x == Value.type "tuple") = true := by
      simp only [List.all_toArray, List.all_map, List.all_eq_true]
      intro _ _
      rfl
    have h0 : (List.map (fun _ => Value.type "tuple") vs).toArray[0]? = some (Value.type "tuple") := by
      cases vs with
      | nil => simp at hne
      | cons a b => simp
    rw [h0]
    simp only [hall2, if_true]
    exact wpAny_pure (wpAny_pure (h2 hb))

theorem each_katTupsO {h : Heap} : ∀ {vs : List Value} {ds : List PyData}, EachIs (fun v d => ∃ as, Reads h v d as) vs ds → (∀ d, d ∈ ds → ∃ xs, d = .tuple xs) → PyData.tuple [] ∈ ds → ∃ fs, KatTupsO h vs fs ∧ none ∈ fs
  | _, _, .nil, _, hm => by cases hm
  | v :: vs, d :: ds, .cons ⟨as, r⟩ t, ht, hm => by
    obtain ⟨xs, rfl⟩ := ht d (List.mem_cons_self ..)
    have rest : ∃ fs, KatTupsO h vs fs ∧ (PyData.tuple [] ∈ ds → none ∈ fs) := by
      by_cases q : PyData.tuple [] ∈ ds
      · obtain ⟨fs, h1, h2⟩ := each_katTupsO t (fun d hd => ht d (List.mem_cons_of_mem _ hd)) q
        exact ⟨fs, h1, fun _ => h2⟩
      · have : ∀ {vs : List Value} {ds : List PyData}, EachIs (fun v d => ∃ as, Reads h v d as) vs ds → (∀ d, d ∈ ds → ∃ xs, d = .tuple xs) → ∃ fs, KatTupsO h vs fs := by
          intro vs ds e
          induction e with
          | nil => exact fun _ => ⟨[], trivial⟩
          | cons p _ ih =>
            intro ht
            obtain ⟨as, r⟩ := p
            rename_i b _ _ _
            obtain ⟨xs, rfl⟩ := ht b (List.mem_cons_self ..)
            obtain ⟨fs, hf⟩ := ih fun d hd => ht d (List.mem_cons_of_mem _ hd)
            cases r with
            | @tuple a o ys n _ _ ho hc hd hr => exact ⟨ys[0]? :: fs, ⟨a, o, ys, n, rfl, ho, hc, hd, rfl⟩, hf⟩
        obtain ⟨fs, hf⟩ := this t fun d hd => ht d (List.mem_cons_of_mem _ hd)
        exact ⟨fs, hf, fun z => absurd z q⟩
    obtain ⟨fs, h1, h2⟩ := rest
    cases r with
    | @tuple a o ys n _ _ ho hc hd hr =>
      refine ⟨ys[0]? :: fs, ⟨⟨a, o, ys, n, rfl, ho, hc, hd, rfl⟩, h1⟩, ?_⟩
      rcases List.mem_cons.mp hm with e | hm
      · have e' : xs = [] := by injection e with e; exact e.symm
        subst e'
        have hl := SeqAt.ReadsAll.length _ _ _ hr
        have : ys[0]? = none := by
          rw [Array.getElem?_eq_none]
          simp at hl
          simp [hl]
        rw [this]
        exact List.mem_cons_self ..
      · exact List.mem_cons_of_mem _ (h2 hm)

/-- values that read as alike data, none of them None, can be sorted -/
theorem SortsAt.dataAny {vs : List Value} {ds : List PyData} (e : EachIs (fun v d => ∃ as, Reads s.heap v d as) vs ds) (hal : AllAlike ds) (hk : ∀ d, d ∈ ds → d ≠ .none) (hu : ∀ d, d ∈ ds → A.units + d.depth < cLine) : SortsAt prog w A s (dataKind s.heap ds) vs := by
  by_cases h1 : Sortable ds
  · exact SortsAt.data e hal h1 hu
  · have hex : ∃ d₀, d₀ ∈ ds ∧ ∃ xs, d₀ = .tuple xs := by
      refine Classical.byContradiction fun q => h1 (.inr fun d hd => ⟨hk d hd, fun xs z => q ⟨d, hd, xs, z⟩⟩)
    obtain ⟨d₀, hd₀, xs₀, rfl⟩ := hex
    have ht : ∀ d, d ∈ ds → ∃ xs, d = .tuple xs := fun d hd => by
      have := hal d hd _ hd₀
      cases d <;> simp [alike] at this
      exact ⟨_, rfl⟩
    have hm : PyData.tuple [] ∈ ds := by
      refine Classical.byContradiction fun q => h1 (.inl fun d hd => ?_)
      obtain ⟨xs, rfl⟩ := ht d hd
      cases xs with
      | nil => exact absurd hd q
      | cons x r => exact ⟨x, r, rfl⟩
    have room : ∀ {d d' : PyData}, d ∈ ds → A.units + min d.depth d'.depth < cLine := fun {d d'} hd => Nat.lt_of_le_of_lt (Nat.add_le_add_left (Nat.min_le_left _ _) _) (hu d hd)
    obtain ⟨fs, t1, t2⟩ := each_katTupsO e ht hm
    have lt : ∀ (f : Bool) (kd : SortKind), (∀ x y, keyLt' kd x y = oneLt' f x y) → H.LtAt prog w A s (dataKind s.heap ds) kd := fun f kd hkd E x y a b Q ha hb hq => by
      obtain ⟨d, as, hd, ra, rfl⟩ := dataKind_inv ha
      obtain ⟨d', as', hd', rb, rfl⟩ := dataKind_inv hb
      obtain ⟨xs, rfl⟩ := ht d hd
      obtain ⟨ys, rfl⟩ := ht d' hd'
      rw [hkd]
      exact oneLt_tuples ra rb (hal _ hd _ hd') (room hd) hq
    refine ⟨fun v hv => ?_, ?_⟩
    · obtain ⟨d, hd, as, r⟩ := e.left v hv
      exact ⟨_, dataKind_some hal hd r⟩
    · cases hb : (fs[0]?.bind id).isSome with
      | true => exact ⟨general', lt false _ fun _ _ => rfl, fun h2 E Q hq => kat_kindO t1 t2 (fun _ => hq) fun z => by rw [hb] at z; cases z⟩
      | false => exact ⟨oneType', lt true _ fun _ _ => rfl, fun h2 E Q hq => kat_kindO t1 t2 (fun z => by rw [hb] at z; cases z) fun _ => hq⟩
end

/-- sorted(xs) of alike data -/
theorem sorted_dataAny {prog : Program} {w : World} {A : Around} {E : Value → Shared → Prop} {s : Shared} {β : Type} {R : Value → β → Prop} {enc : β → PyData} {vs : List Value} {bs : List β} {l : Addr} {Q : Value → Shared → Prop}
    (hl : s.heap.IsList l vs.toArray) (e : EachIs R vs bs) (er : EachIs (fun v b => ∃ as, Reads s.heap v (enc b) as) vs bs) (hal : AllAlike (bs.map enc)) (hk : ∀ d, d ∈ bs.map enc → d ≠ .none) (hL : bs.length ≤ sizeLine)
    (hu : ∀ b, b ∈ bs → A.units + 2 + (enc b).depth < cLine) (h : ∀ out, out.length = bs.length → EachIs R out (bs.mergeSort (dataLe false enc)) → Q (.ref (s.heap.objs.size + 1)) { s with heap := sortedAll s.heap vs (List.toArray out) }) :
    wpAny (model prog w) A (call (.builtin "sorted") [.ref l]) Q E s := by
  have er' : EachIs (fun v b => ∃ as, Reads (sortingHeap (copyHeap s.heap vs) (s.heap.objs.size + 1) vs) v (enc b) as) vs bs := er.mono fun _ _ ⟨as, r⟩ => ⟨as, PyProof.Rows.Reads.keeps (fun _ _ => sorting_copy_old) r⟩
  exact sorted_vals hl (SortsAt.dataAny (s := { s with heap := sortingHeap (copyHeap s.heap vs) (s.heap.objs.size + 1) vs }) (each_map (R := fun v d => ∃ as, Reads (sortingHeap (copyHeap s.heap vs) (s.heap.objs.size + 1) vs) v d as) enc er') hal hk (bound_map hu)) (by rw [e.length]; exact hL)
    (h _ (by rw [sortVals_length false rfl]; exact e.length) (sortVals_data false e er' hal))
/-- sorted of what collects to alike data -/
theorem sorted_collAny {prog : Program} {w : World} {A : Around} {E : Value → Shared → Prop} {s : Shared} {β : Type} {R : Value → β → Prop} {enc : β → PyData} {vs : List Value} {bs : List β} {x : Value} {Q : Value → Shared → Prop}
    (coll : ∀ (A' : Around) (Q' : List Value → Shared → Prop) (E' : Value → Shared → Prop), A'.handled = A.handled → (∀ h' t', (∀ b o, s.heap.get? b = some o → h'.get? b = some o) → Q' vs { s with heap := h', toks := t' }) → wpAny (model prog w) A' (collect x) Q' E' s)
    (e : EachIs R vs bs) (er : EachIs (fun v b => ∃ as, Reads s.heap v (enc b) as) vs bs) (hal : AllAlike (bs.map enc)) (hk : ∀ d, d ∈ bs.map enc → d ≠ .none) (hL : bs.length ≤ sizeLine)
    (hu : ∀ b, b ∈ bs → A.units + 2 + (enc b).depth < cLine)
    (h : ∀ (out : List Value) (h1 h' : Heap), out.length = bs.length → EachIs R out (bs.mergeSort (dataLe false enc)) → (∀ b o, s.heap.get? b = some o → h1.get? b = some o) → (∀ b o, h1.get? b = some o → h'.get? b = some o) → (∃ ep, h'.get? h1.objs.size = some (PyProof.Rows.seqObj "list" out.toArray ep)) → ∀ t', Q (.ref h1.objs.size) { s with heap := h', toks := t' }) :
    wpAny (model prog w) A (call (.builtin "sorted") [x]) Q E s := by
  have hL2 : vs.length ≤ sizeLine := by rw [e.length]; exact hL
  refine call_function_entry_kw PyProof.Rows.kind_sorted PyProof.Rows.plain_sorted PyProof.Rows.entry_sorted (PyProof.Rows.args_sorted1 _) ?_
  unfold Builtin.«sorted»
  refine wpAny_bind (m := checkCount "sorted" 1 1 _) (wpAny_pure ?_)
  refine wpAny_bind (coll _ _ _ rfl fun h1 t1 k1 => ?_)
  refine wpAny_bind (wpAny_newList ?_ hL2)
  have at1 : (h1.push (PyProof.Rows.seqObj "list" vs.toArray 0)).get? h1.objs.size = some (PyProof.Rows.seqObj "list" vs.toArray 0) := Heap.get?_push_size _ rfl
  have k2 : ∀ b o, s.heap.get? b = some o → (h1.push (PyProof.Rows.seqObj "list" vs.toArray 0)).get? b = some o := fun b o q => Heap.get?_push_of_some _ (k1 b o q)
  have ne : ∀ b o, s.heap.get? b = some o → b ≠ h1.objs.size := fun b o q => Nat.ne_of_lt (Heap.lt_size (k1 b o q))
  have k3 : ∀ b o, s.heap.get? b = some o → (sortingHeap (h1.push (PyProof.Rows.seqObj "list" vs.toArray 0)) h1.objs.size vs).get? b = some o := fun b o q => sortingHeap_old (ne b o q) (k2 b o q)
  have er' : EachIs (fun v b => ∃ as, Reads (sortingHeap (h1.push (PyProof.Rows.seqObj "list" vs.toArray 0)) h1.objs.size vs) v (enc b) as) vs bs := er.mono fun _ _ ⟨as, r⟩ => ⟨as, PyProof.Rows.Reads.keeps (fun b o => k3 b o) r⟩
  refine wpAny_bind (wpAny_holding (wpAny_call_entry_kw PyProof.Rows.slot_list_sort ⟨_, at1, rfl⟩ PyProof.Rows.entry_list_sort ?_ (PyProof.Rows.args_list_sort _)))
  refine list_sort_vals (s := { s with heap := h1.push (PyProof.Rows.seqObj "list" vs.toArray 0), toks := t1 }) at1 (SortsAt.dataAny (s := { s with heap := sortingHeap (h1.push (PyProof.Rows.seqObj "list" vs.toArray 0)) h1.objs.size vs, toks := t1 }) (each_map (R := fun v d => ∃ as, Reads (sortingHeap (h1.push (PyProof.Rows.seqObj "list" vs.toArray 0)) h1.objs.size vs) v d as) enc er') hal hk (bound_map hu)) hL2 ?_
  refine ⟨_, rfl, wpAny_pure ⟨_, rfl, h _ h1 _ (by rw [sortVals_length false rfl]; exact e.length) (sortVals_data false e er' hal) k1 (fun b o q => ?_) (PyProof.Rows.sortedHeap_at (n := 0) at1) _⟩⟩
  have nb : b ≠ h1.objs.size := Nat.ne_of_lt (Heap.lt_size q)
  rw [PyProof.Rows.sortedHeap_old nb (by rw [Heap.size_push]; exact Nat.lt_succ_of_lt (Heap.lt_size q))]
  exact Heap.get?_push_of_some _ q
end PySem.W

/-! Built-in functions by values. -/
namespace Mp
open PySem PySem.Spec PyProof.Rows L2

def bfV : Bf → Value
  | .len => .builtin "len"
  | .abs => .builtin "abs"
  | .max => .builtin "max"
  | .min => .builtin "min"
  | .sum => .builtin "sum"
  | .all => .builtin "all"
  | .any => .builtin "any"
  | .sorted => .builtin "sorted"
  | .list => .type "list"
  | .tuple => .type "tuple"
  | .int => .type "int"
  | .str => .type "str"
  | .repr => .builtin "repr"
  | .divmod => .builtin "divmod"
def rB (mg : Mg) (g : List D → Option D) : List V → Hp → VK → Prop := fun vs H Q => ∃ R c M xs d, CM mg R H c M ∧ RrL mg H (Lv R c M) c xs vs ∧ g xs = some d ∧ Out mg R c M d H Q

section
variable {mg : Mg} {H : Hp} {U : Addr → Prop} {c : List Addr}
theorem RrL.one {x : D} {vs : List V} (h : RrL mg H U c [x] vs) : ∃ v, vs = [v] ∧ Rr mg H U c x v := by
  obtain ⟨v, r, rfl, h1, h2⟩ := h
  simp only [RrL] at h2
  subst h2
  exact ⟨v, rfl, h1⟩
theorem RrL.two {x y : D} {vs : List V} (h : RrL mg H U c [x, y] vs) : ∃ v u, vs = [v, u] ∧ Rr mg H U c x v ∧ Rr mg H U c y u := by
  obtain ⟨v, r, rfl, h1, h2⟩ := h
  obtain ⟨u, rfl, h3⟩ := RrL.one h2
  exact ⟨v, u, rfl, h1, h3⟩
theorem ints_ok : ∀ {ds : List D} {ns : List Int} {vs : List V}, ints? ds = some ns → RpL mg H U c ds vs → vs = ns.map V.int
  | [], ns, vs, e, h => by
    simp only [ints?, Option.some.injEq] at e; subst e
    exact RpL.nil_iff.mp h
  | .int i :: ds, ns, vs, e, h => by
    simp only [ints?, Option.map_eq_some_iff] at e
    obtain ⟨ms, e, rfl⟩ := e
    obtain ⟨v, r, rfl, h1, t⟩ := RpL.cons_iff.mp h
    simp only [Rp] at h1
    rw [h1, ints_ok e t]; rfl
  | .non :: _, _, _, e, _ => by simp [ints?] at e
  | .bl _ :: _, _, _, e, _ => by simp [ints?] at e
  | .str _ :: _, _, _, e, _ => by simp [ints?] at e
  | .tup _ :: _, _, _, e, _ => by simp [ints?] at e
  | .lst _ :: _, _, _, e, _ => by simp [ints?] at e
  | .dct _ _ _ :: _, _, _, e, _ => by simp [ints?] at e
  | .cell _ :: _, _, _, e, _ => by simp [ints?] at e
  | .fn _ :: _, _, _, e, _ => by simp [ints?] at e
  | .exc _ _ :: _, _, _, e, _ => by simp [ints?] at e
  | .scr _ :: _, _, _, e, _ => by simp [ints?] at e
theorem bls_ok : ∀ {ds : List D} {ns : List Bool} {vs : List V}, bls? ds = some ns → RpL mg H U c ds vs → vs = ns.map V.bl
  | [], ns, vs, e, h => by
    simp only [bls?, Option.some.injEq] at e; subst e
    exact RpL.nil_iff.mp h
  | .bl i :: ds, ns, vs, e, h => by
    simp only [bls?, Option.map_eq_some_iff] at e
    obtain ⟨ms, e, rfl⟩ := e
    obtain ⟨v, r, rfl, h1, t⟩ := RpL.cons_iff.mp h
    simp only [Rp] at h1
    rw [h1, bls_ok e t]; rfl
  | .non :: _, _, _, e, _ => by simp [bls?] at e
  | .int _ :: _, _, _, e, _ => by simp [bls?] at e
  | .str _ :: _, _, _, e, _ => by simp [bls?] at e
  | .tup _ :: _, _, _, e, _ => by simp [bls?] at e
  | .lst _ :: _, _, _, e, _ => by simp [bls?] at e
  | .dct _ _ _ :: _, _, _, e, _ => by simp [bls?] at e
  | .cell _ :: _, _, _, e, _ => by simp [bls?] at e
  | .fn _ :: _, _, _, e, _ => by simp [bls?] at e
  | .exc _ _ :: _, _, _, e, _ => by simp [bls?] at e
  | .scr _ :: _, _, _, e, _ => by simp [bls?] at e
end

mutual
theorem py_inj : ∀ (a b : D), a.py.canLay0 = true → a.py = b.py → a = b
  | .non, b, _, e => by cases b <;> simp [D.py] at e ⊢
  | .bl _, b, _, e => by cases b <;> simp [D.py] at e ⊢; exact e
  | .int _, b, _, e => by cases b <;> simp [D.py] at e ⊢; exact e
  | .str _, b, _, e => by cases b <;> simp [D.py] at e ⊢; exact e
  | .tup xs, b, k, e => by cases b <;> simp [D.py] at e ⊢; exact pys_inj xs _ (by simpa [D.py, PyData.canLay0] using k) e
  | .lst xs, b, k, e => by cases b <;> simp [D.py] at e ⊢; exact pys_inj xs _ (by simpa [D.py, PyData.canLay0] using k) e
  | .dct _ _ _, b, k, e => by simp [D.py, PyData.canLay0] at k
  | .cell _, b, k, e => by simp [D.py, PyData.canLay0] at k
  | .fn _, b, k, e => by simp [D.py, PyData.canLay0] at k
  | .exc _ _, b, k, e => by simp [D.py, PyData.canLay0] at k
  | .scr _, b, k, e => by simp [D.py, PyData.canLay0] at k
theorem pys_inj : ∀ (a b : List D), PyData.canLayAll0 (pys a) = true → pys a = pys b → a = b
  | [], b, _, e => by cases b <;> simp [pys] at e ⊢
  | x :: xs, b, k, e => by
    cases b with
    | nil => simp [pys] at e
    | cons y ys =>
      simp only [pys, List.cons.injEq] at e
      have k' : x.py.canLay0 = true ∧ PyData.canLayAll0 (pys xs) = true := by simpa [pys, PyData.canLayAll0] using k
      rw [py_inj x y k'.1 e.1, pys_inj xs ys k'.2 e.2]
end

theorem alikes_ok {xs : List D} (h : alikes xs = true) : PySem.W.AllAlike (xs.map D.py) := by
  intro d hd d' hd'
  obtain ⟨a, ha, rfl⟩ := List.mem_map.mp hd
  obtain ⟨b, hb, rfl⟩ := List.mem_map.mp hd'
  simp only [alikes, List.all_eq_true] at h
  exact h a ha b hb
theorem nonD_py {d : D} (h : sh d = true) (n : isNonD d = false) : d.py ≠ .none := by
  cases d <;> simp [isNonD] at n <;> simp [D.py]
theorem datOk_ok {xs : List D} (h : datOk xs = true) : shs xs = true ∧ alikes xs = true ∧ PySem.W.AlikeAll (xs.map D.py) := by
  simp only [datOk, Bool.and_eq_true, List.all_eq_true, Bool.not_eq_true'] at h
  refine ⟨h.1, h.2.1, alikes_ok h.2.1, fun d hd => ?_⟩
  obtain ⟨a, ha, rfl⟩ := List.mem_map.mp hd
  have hs := h.1
  simp only [shs, List.all_eq_true] at hs
  exact nonD_py (hs a ha) (h.2.2 a ha)
theorem shs_lay : ∀ {xs : List D}, shs xs = true → PyData.canLayAll0 (pys xs) = true
  | [], _ => rfl
  | x :: xs, h => by
    simp only [shs, List.all_cons, Bool.and_eq_true] at h
    simp only [pys, PyData.canLayAll0, sh_lay h.1, shs_lay (show shs xs = true from h.2), Bool.and_self]
theorem shs_depth : ∀ {xs : List D}, shs xs = true → PyData.depthAll (pys xs) ≤ 64
  | [], _ => Nat.zero_le _
  | x :: xs, h => by
    simp only [shs, List.all_cons, Bool.and_eq_true] at h
    simp only [pys, PyData.depthAll]
    exact Nat.max_le.mpr ⟨sh_depth h.1, shs_depth (show shs xs = true from h.2)⟩
theorem most_py : ∀ (xs : List D) (x : D), (mostD x xs).py = PySem.W.maxD x.py (pys xs)
  | [], x => rfl
  | y :: ys, x => by
    have ih := most_py ys (if ltD x y then y else x)
    unfold mostD PySem.W.maxD at ih ⊢
    simp only [pys, List.foldl_cons]
    rw [ih]
    unfold ltD
    split <;> rfl
theorem least_py : ∀ (xs : List D) (x : D), (leastD x xs).py = PySem.W.minD x.py (pys xs)
  | [], x => rfl
  | y :: ys, x => by
    have ih := least_py ys (if ltD y x then y else x)
    unfold leastD PySem.W.minD at ih ⊢
    simp only [pys, List.foldl_cons]
    rw [ih]
    unfold ltD
    split <;> rfl
theorem most_mem : ∀ (xs : List D) (x : D), mostD x xs ∈ x :: xs
  | [], x => List.mem_cons_self ..
  | y :: ys, x => by
    have ih := most_mem ys (if ltD x y then y else x)
    unfold mostD at ih ⊢
    rw [List.foldl_cons]
    rcases List.mem_cons.mp ih with e | e
    · rw [e]; split
      · exact List.mem_cons_of_mem _ (List.mem_cons_self ..)
      · exact List.mem_cons_self ..
    · exact List.mem_cons_of_mem _ (List.mem_cons_of_mem _ e)
theorem least_mem : ∀ (xs : List D) (x : D), leastD x xs ∈ x :: xs
  | [], x => List.mem_cons_self ..
  | y :: ys, x => by
    have ih := least_mem ys (if ltD y x then y else x)
    unfold leastD at ih ⊢
    rw [List.foldl_cons]
    rcases List.mem_cons.mp ih with e | e
    · rw [e]; split
      · exact List.mem_cons_of_mem _ (List.mem_cons_self ..)
      · exact List.mem_cons_self ..
    · exact List.mem_cons_of_mem _ (List.mem_cons_of_mem _ e)
/-- an item of a list of data that reads as another one of alike data is that one -/
theorem pick_ok {mg : Mg} {X : Cx} {pins : List (Addr × Obj)} {σ : L2.St} {H : Hp} {s : Shared} {U : Addr → Prop} {c : List Addr} {xs : List D} {vs : List V} {its : List Value} (I : Inv X pins σ H s) (r : RpL mg H U c xs vs) (rv : Vals vs its)
    (hs : shs xs = true) (ha : alikes xs = true) {i : Nat} {v : Value} (e : its[i]? = some v) {z : D} (hz : z ∈ xs) {h' : Heap} (k : ∀ b o, s.heap.get? b = some o → h'.get? b = some o) {bs : List Addr} (rd : Reads h' v z.py bs) :
    ∃ u, RelV u v ∧ Rp mg H U c z u := by
  have hi : i < its.length := (List.getElem?_eq_some_iff.mp e).1
  have hl := rv.length
  have hv : vs[i]? = some vs[i] := List.getElem?_eq_getElem (by omega)
  obtain ⟨d, ed, rd'⟩ := r.get' hv
  obtain ⟨u', eu, ru⟩ := rv.get hv
  rw [e] at eu; cases eu
  have hm : d ∈ xs := List.mem_of_getElem? ed
  have hsd : sh d = true := by
    simp only [shs, List.all_eq_true] at hs
    exact hs d hm
  obtain ⟨as, r1⟩ := Dp.reads I _ _ _ (Rp.dp (K := X.K) d rd' (sh_lay hsd)) ru
  have r2 : Reads h' v d.py as := PySem.W.reads_keeps k r1
  have e2 := PySem.W.alike_unique _ _ _ _ _ (alikes_ok ha _ (List.mem_map.mpr ⟨d, hm, rfl⟩) _ (List.mem_map.mpr ⟨z, hz, rfl⟩)) r2 rd
  rw [← py_inj d z (sh_lay hsd) e2]
  exact ⟨_, ru, rd'⟩

section
variable {X : Cx}
theorem blt_len : CallR X (.builtin "len") (rB X.Mg lenD) := by
  intro pins s σ H vs us Q I r h
  obtain ⟨R, c, M, xs, d, m, hx, e, q⟩ := h
  unfold lenD at e
  split at e
  · split at e
    · rename_i k
      simp only [Option.some.injEq] at e; subst e
      obtain ⟨v, rfl, hv⟩ := hx.one
      obtain rfl := rr_str.mp hv
      exact call_len pins s σ H _ us Q I r ⟨_, _, rfl, ⟨k, rfl⟩, q.int m⟩
    · cases e
  · simp only [Option.some.injEq] at e; subst e
    obtain ⟨v, rfl, hv⟩ := hx.one
    obtain ⟨p, ws, rfl, h1, _, r1⟩ := rr_tup.mp hv
    exact call_len pins s σ H _ us Q I r ⟨_, _, rfl, .inr ⟨ws, SqT.of h1, rfl⟩, by rw [r1.len]; exact q.int m⟩
  · simp only [Option.some.injEq] at e; subst e
    obtain ⟨v, rfl, hv⟩ := hx.one
    obtain ⟨p, ws, rfl, h1, r1⟩ := hv
    exact call_len pins s σ H _ us Q I r ⟨_, _, rfl, .inl ⟨ws, SqL.of h1, rfl⟩, by rw [r1.len]; exact q.int m⟩
  · simp only [Option.some.injEq] at e; subst e
    obtain ⟨v, rfl, hv⟩ := hx.one
    obtain ⟨p, rfl, h1⟩ := scr_rr hv
    exact call_len pins s σ H _ us Q I r ⟨_, _, rfl, .inl ⟨_, h1, rfl⟩, by rw [List.length_map]; exact q.int m⟩
  · simp only [Option.some.injEq] at e; subst e
    obtain ⟨v, rfl, hv⟩ := hx.one
    obtain ⟨p, rfl, h2⟩ := hv
    rcases h2 with ⟨rfl, kvs, e1, rfl, _⟩ | ⟨rfl, kvs, e1, rfl, _⟩
    · exact call_lenD pins s σ H _ us Q I r ⟨_, _, rfl, e1, by have := q.int m; rwa [List.length_map] at this⟩
    · exact call_len_dT pins s σ H _ us Q I r ⟨_, _, rfl, e1, by have := q.int m; rwa [List.length_map] at this⟩
  · cases e
theorem blt_abs : CallR X (.builtin "abs") (rB X.Mg absD) := by
  intro pins s σ H vs us Q I r h
  obtain ⟨R, c, M, xs, d, m, hx, e, q⟩ := h
  unfold absD at e
  split at e
  · simp only [Option.some.injEq] at e; subst e
    obtain ⟨v, rfl, hv⟩ := hx.one
    obtain rfl := rr_int.mp hv
    exact call_abs pins s σ H _ us Q I r ⟨_, rfl, q.int m⟩
  · cases e
theorem blt_max (hc : X.calm = true) (hu : X.A.units + 80 < cLine) : CallR X (.builtin "max") (rB X.Mg Mp.maxD) := by
  intro pins s σ H vs us Q I r h
  obtain ⟨R, c, M, xs, d, m, hx, e, q⟩ := h
  unfold Mp.maxD at e
  split at e
  · simp only [Option.some.injEq] at e; subst e
    obtain ⟨v, u, rfl, hv, hw⟩ := hx.two
    obtain rfl := rr_int.mp hv
    obtain rfl := rr_int.mp hw
    exact call_max2 hc pins s σ H _ us Q I r ⟨_, _, rfl, q.int m⟩
  · split at e
    · rename_i x ys k
      simp only [Option.some.injEq] at e; subst e
      obtain ⟨k1, k2, k3⟩ := datOk_ok k
      obtain ⟨v, rfl, hv⟩ := hx.one
      obtain ⟨p, ws, rfl, h1, r1⟩ := hv
      obtain ⟨u, rfl, ru⟩ := vals1 r
      obtain rfl : u = Value.ref p := ru
      obtain ⟨its, rv, hl, hz⟩ := I.list (SqL.of (K := X.K) h1)
      obtain ⟨as, rds⟩ := Dp.readsAll I _ _ its (RpL.dps (K := X.K) _ r1 (shs_lay k1)) rv
      refine PySem.W.max_list_data (I.ok.hd hc) hl.isList (by simpa [pys] using rds) (by simpa [pys_eq] using k3) (by have := shs_depth k1; simp only [pys] at this; omega) fun i v' h' tk bs hv' rd hk => ?_
      rw [← most_py] at rd
      obtain ⟨u', ru', rp'⟩ := pick_ok I r1 rv k1 k2 (by simpa using hv') (most_mem _ _) hk rd
      exact ⟨u', H, I.kept hk, ru', q.same m rp'⟩
    · cases e
  · split at e
    · rename_i x ys k
      simp only [Option.some.injEq] at e; subst e
      obtain ⟨k1, k2, k3⟩ := datOk_ok k
      obtain ⟨v, rfl, hv⟩ := hx.one
      obtain ⟨p, ws, rfl, h1, _, r1⟩ := rr_tup.mp hv
      obtain ⟨u, rfl, ru⟩ := vals1 r
      obtain rfl : u = Value.ref p := ru
      obtain ⟨its, rv, hl, hz⟩ := I.tuple (SqT.of (K := X.K) h1)
      obtain ⟨as, rds⟩ := Dp.readsAll I _ _ its (RpL.dps (K := X.K) _ r1 (shs_lay k1)) rv
      refine PySem.W.max_tuple_data (I.ok.hd hc) hl (by simpa [pys] using rds) (by simpa [pys_eq] using k3) (by have := shs_depth k1; simp only [pys] at this; omega) fun i v' h' tk bs hv' rd hk => ?_
      rw [← most_py] at rd
      obtain ⟨u', ru', rp'⟩ := pick_ok I r1 rv k1 k2 (by simpa using hv') (most_mem _ _) hk rd
      exact ⟨u', H, I.kept hk, ru', q.same m rp'⟩
    · cases e
  · cases e
theorem blt_min (hc : X.calm = true) (hu : X.A.units + 80 < cLine) : CallR X (.builtin "min") (rB X.Mg Mp.minD) := by
  intro pins s σ H vs us Q I r h
  obtain ⟨R, c, M, xs, d, m, hx, e, q⟩ := h
  unfold Mp.minD at e
  split at e
  · simp only [Option.some.injEq] at e; subst e
    obtain ⟨v, u, rfl, hv, hw⟩ := hx.two
    obtain rfl := rr_int.mp hv
    obtain rfl := rr_int.mp hw
    exact call_min2 hc pins s σ H _ us Q I r ⟨_, _, rfl, q.int m⟩
  · split at e
    · rename_i x ys k
      simp only [Option.some.injEq] at e; subst e
      obtain ⟨k1, k2, k3⟩ := datOk_ok k
      obtain ⟨v, rfl, hv⟩ := hx.one
      obtain ⟨p, ws, rfl, h1, r1⟩ := hv
      obtain ⟨u, rfl, ru⟩ := vals1 r
      obtain rfl : u = Value.ref p := ru
      obtain ⟨its, rv, hl, hz⟩ := I.list (SqL.of (K := X.K) h1)
      obtain ⟨as, rds⟩ := Dp.readsAll I _ _ its (RpL.dps (K := X.K) _ r1 (shs_lay k1)) rv
      refine PySem.W.min_list_data (I.ok.hd hc) hl.isList (by simpa [pys] using rds) (by simpa [pys_eq] using k3) (by have := shs_depth k1; simp only [pys] at this; omega) fun i v' h' tk bs hv' rd hk => ?_
      rw [← least_py] at rd
      obtain ⟨u', ru', rp'⟩ := pick_ok I r1 rv k1 k2 (by simpa using hv') (least_mem _ _) hk rd
      exact ⟨u', H, I.kept hk, ru', q.same m rp'⟩
    · cases e
  · cases e
theorem blt_sum (hc : X.calm = true) : CallR X (.builtin "sum") (rB X.Mg sumD) := by
  intro pins s σ H vs us Q I r h
  obtain ⟨R, c, M, xs, d, m, hx, e, q⟩ := h
  unfold sumD at e
  split at e
  · replace e := Option.map_eq_some_iff.mp e
    obtain ⟨ns, e, rfl⟩ := e
    obtain ⟨v, rfl, hv⟩ := hx.one
    obtain ⟨p, ws, rfl, h1, r1⟩ := hv
    obtain rfl := ints_ok e r1
    exact cr_sum hc pins s σ H _ us Q I r ⟨_, _, rfl, SqL.of h1, q.int m⟩
  · cases e
theorem dpAll_bls {K : PySem.W.Frag} {H : Hp} : ∀ bs : List Bool, DpAll K H (bs.map V.bl) (bs.map PyData.bool)
  | [] => .nil
  | b :: bs => .cons (.bl b) (dpAll_bls bs)
theorem plain_bls : ∀ bs : List Bool, PyData.plainAll (bs.map PyData.bool) = true
  | [] => rfl
  | b :: bs => by rw [List.map_cons, PyData.plainAll, plain_bls bs]; rfl
theorem fits_bls (bs : List Bool) : ∀ x ∈ bs.map PyData.bool, x.fits63 := fun x hx => by
  obtain ⟨b, _, rfl⟩ := List.mem_map.mp hx
  trivial
theorem truthy_bls_all (bs : List Bool) : (bs.map PyData.bool).all PyData.truthy = bs.all id := by
  induction bs with
  | nil => rfl
  | cons b bs ih => rw [List.map_cons, List.all_cons, List.all_cons, ih]; cases b <;> rfl
theorem truthy_bls_any (bs : List Bool) : (bs.map PyData.bool).any PyData.truthy = bs.any id := by
  induction bs with
  | nil => rfl
  | cons b bs ih => rw [List.map_cons, List.any_cons, List.any_cons, ih]; cases b <;> rfl
theorem blt_all (hc : X.calm = true) : CallR X (.builtin "all") (rB X.Mg allD) := by
  intro pins s σ H vs us Q I r h
  obtain ⟨R, c, M, xs, d, m, hx, e, q⟩ := h
  unfold allD at e
  split at e
  · replace e := Option.map_eq_some_iff.mp e
    obtain ⟨ns, e, rfl⟩ := e
    obtain ⟨v, rfl, hv⟩ := hx.one
    obtain ⟨p, ws, rfl, h1, r1⟩ := hv
    obtain rfl := bls_ok e r1
    exact cr_all hc pins s σ H _ us Q I r ⟨_, _, rfl, SqL.of h1, q.bl m⟩
  · replace e := Option.map_eq_some_iff.mp e
    obtain ⟨ns, e, rfl⟩ := e
    obtain ⟨v, rfl, hv⟩ := hx.one
    obtain ⟨p, ws, rfl, h1, _, r1⟩ := rr_tup.mp hv
    obtain rfl := bls_ok e r1
    obtain ⟨u, rfl, ru⟩ := vals1 r
    obtain rfl : u = Value.ref p := ru
    obtain ⟨its, rv, hl, hz⟩ := I.tuple (SqT.of (K := X.K) h1)
    obtain ⟨as, rds⟩ := Dp.readsAll I _ _ its (dpAll_bls ns) rv
    refine PySem.W.all_tuple_data (I.ok.hd hc) hl (by simpa using rds) (plain_bls ns) (fits_bls ns) fun h' tk hk => ?_
    rw [truthy_bls_all]
    exact ⟨.bl _, H, I.kept hk, rfl, q.bl m⟩
  · cases e
theorem blt_any (hc : X.calm = true) : CallR X (.builtin "any") (rB X.Mg anyD) := by
  intro pins s σ H vs us Q I r h
  obtain ⟨R, c, M, xs, d, m, hx, e, q⟩ := h
  unfold anyD at e
  split at e
  · replace e := Option.map_eq_some_iff.mp e
    obtain ⟨ns, e, rfl⟩ := e
    obtain ⟨v, rfl, hv⟩ := hx.one
    obtain ⟨p, ws, rfl, h1, r1⟩ := hv
    obtain rfl := bls_ok e r1
    exact cr_any hc pins s σ H _ us Q I r ⟨_, _, rfl, SqL.of h1, q.bl m⟩
  · replace e := Option.map_eq_some_iff.mp e
    obtain ⟨ns, e, rfl⟩ := e
    obtain ⟨v, rfl, hv⟩ := hx.one
    obtain ⟨p, ws, rfl, h1, _, r1⟩ := rr_tup.mp hv
    obtain rfl := bls_ok e r1
    obtain ⟨u, rfl, ru⟩ := vals1 r
    obtain rfl : u = Value.ref p := ru
    obtain ⟨its, rv, hl, hz⟩ := I.tuple (SqT.of (K := X.K) h1)
    obtain ⟨as, rds⟩ := Dp.readsAll I _ _ its (dpAll_bls ns) rv
    refine PySem.W.any_tuple_data (I.ok.hd hc) hl (by simpa using rds) (plain_bls ns) (fits_bls ns) fun h' tk hk => ?_
    rw [truthy_bls_any]
    exact ⟨.bl _, H, I.kept hk, rfl, q.bl m⟩
  · cases e
theorem each_rp {mg : Mg} {H : Hp} {U : Addr → Prop} {c : List Addr} : ∀ {ds : List D} {vs : List V} {its : List Value}, RpL mg H U c ds vs → Vals vs its → PySem.W.EachIs (fun u d => ∃ v, RelV v u ∧ Rp mg H U c d v) its ds
  | [], vs, its, h, r => by
    rw [RpL.nil_iff.mp h] at r
    cases r; exact .nil
  | d :: ds, vs, its, h, r => by
    obtain ⟨v, t, rfl, h1, h2⟩ := RpL.cons_iff.mp h
    cases r with
    | cons r1 r2 => exact .cons ⟨v, r1, h1⟩ (each_rp h2 r2)
theorem rp_each {mg : Mg} {H : Hp} {U : Addr → Prop} {c : List Addr} : ∀ {ds : List D} {its : List Value}, PySem.W.EachIs (fun u d => ∃ v, RelV v u ∧ Rp mg H U c d v) its ds → ∃ vs, Vals vs its ∧ RpL mg H U c ds vs
  | _, _, .nil => ⟨[], .nil, RpL.nil⟩
  | _, _, .cons ⟨v, r1, h1⟩ t => by
    obtain ⟨vs, r2, h2⟩ := rp_each t
    exact ⟨v :: vs, .cons r1 r2, RpL.cons h1 h2⟩
theorem each_rd {X : Cx} {pins : List (Addr × Obj)} {σ : L2.St} {mg : Mg} {H : Hp} {s : Shared} {U : Addr → Prop} {c : List Addr} (I : Inv X pins σ H s) : ∀ {ds : List D} {vs : List V} {its : List Value}, RpL mg H U c ds vs → Vals vs its → shs ds = true →
    PySem.W.EachIs (fun u d => ∃ as, Reads s.heap u (D.py d) as) its ds
  | [], vs, its, h, r, _ => by
    rw [RpL.nil_iff.mp h] at r
    cases r; exact .nil
  | d :: ds, vs, its, h, r, k => by
    obtain ⟨v, t, rfl, h1, h2⟩ := RpL.cons_iff.mp h
    simp only [shs, List.all_cons, Bool.and_eq_true] at k
    cases r with
    | cons r1 r2 => exact .cons (Dp.reads I _ _ _ (Rp.dp (K := X.K) d h1 (sh_lay k.1)) r1) (each_rd I h2 r2 (show shs ds = true from k.2))
theorem keys_rp {mg : Mg} {R : Addr → Prop} {H : Hp} {c : List Addr} {M : Cs} : ∀ (kvs : List (Key × V)), RpL mg H (Lv R c M) c (kvs.map fun p => keyD p.1) (kvs.map fun p => kV p.1)
  | [] => RpL.nil
  | (.inl i, v) :: r => RpL.cons (by simp [keyD, kV, Rp]) (keys_rp r)
  | (.inr i, v) :: r => RpL.cons (by simp [keyD, kV, Rp]) (keys_rp r)
theorem keyl_rp {mg : Mg} {R : Addr → Prop} {H : Hp} {c : List Addr} {M : Cs} : ∀ (ks : List Key), RpL mg H (Lv R c M) c (ks.map keyD) (ks.map kV)
  | [] => RpL.nil
  | .inl i :: r => RpL.cons (by simp [keyD, kV, Rp]) (keyl_rp r)
  | .inr i :: r => RpL.cons (by simp [keyD, kV, Rp]) (keyl_rp r)
theorem keyTs_rp {mg : Mg} {R : Addr → Prop} {H : Hp} {c : List Addr} {M : Cs} (m : CM mg R H c M) : ∀ {kvs : List (List Key × V)} {bs : List Addr}, IsKeys H kvs bs → RpL mg H (Lv R c M) c (kvs.map fun p => keyTD p.1) (bs.map V.ref)
  | [], _, .nil => RpL.nil
  | p :: r, b :: bs, .cons h t => RpL.cons (by
      simp only [keyTD, Rp]
      exact ⟨b, _, rfl, h, m.tup h, keyl_rp _⟩) (keyTs_rp m t)
/-- the keys of a dict with tuple keys, collected -/
theorem collect_dT {pins : List (Addr × Obj)} {s : Shared} {σ : L2.St} {H : Hp} {p : Addr} {kvs : List (List Key × V)} (hc : X.calm = true) (I : Inv X pins σ H s) (e : H p = some (.dT kvs)) : ∃ bs : List Addr, IsKeys H kvs bs ∧
    ∀ (A' : Around) (Q' : List Value → Shared → Prop) (E' : Value → Shared → Prop), A'.handled = X.A.handled → (∀ h' t', (∀ b o, s.heap.get? b = some o → h'.get? b = some o) → Q' (bs.map Value.ref) { s with heap := h', toks := t' }) → wpAny (model X.prog X.w) A' (collect (.ref p)) Q' E' s := by
  obtain ⟨zl, lo, ks, pr, o, es, ep, ho, hx, hd, he, hn⟩ := (show ObjOk X.prog X.w H s.heap p (.dT kvs) from I.hok p _ e)
  have l1 : es.size = ks.length := size_of_entries he
  have l2 : kvs.length = ks.length := Paired.length pr
  refine ⟨ks.map fun x => x.2.1, isKeys_of pr, fun A' Q' E' hA q => PySem.W.kdu_collect (kdl_raw lo hx hd) (hA.trans (I.ok.hd hc)) ho (by omega) fun h' t' acc k it => ?_⟩
  have ea : acc.toList = (ks.map fun x => x.2.1).map Value.ref := by
    have la : acc.toList.length = ks.length := by rw [Array.length_toList, it.1, l1]
    refine List.ext_getElem? fun j => ?_
    rw [List.map_map, List.getElem?_map]
    rcases Nat.lt_or_ge j ks.length with hj | hj
    · have e3 : acc.toList[j]? = some acc.toList[j] := List.getElem?_eq_getElem (by omega)
      obtain ⟨en, e4, e5⟩ := it.2 j _ (by rw [← Array.getElem?_toList]; exact e3)
      have e6 := entry_at he j
      rw [e4, List.getElem?_eq_getElem hj] at e6
      have e7 : en = entryOfKey (tupleKind (mixKind X.prog X.w)) ks[j] := Option.some.inj e6
      rw [e3, e5, e7, List.getElem?_eq_getElem hj]
      rfl
    · rw [List.getElem?_eq_none (by omega), List.getElem?_eq_none hj]
      rfl
  rw [ea]
  exact q h' t' k
theorem blt_sorted (hc : X.calm = true) (hu : X.A.units + 80 < cLine) : CallR X (.builtin "sorted") (rB X.Mg sortedD) := by
  intro pins s σ H vs us Q I r h
  obtain ⟨R, c, M, xs, d, m, hx, e, q⟩ := h
  unfold sortedD at e
  split at e
  · split at e
    · rename_i ys k
      simp only [Option.some.injEq] at e; subst e
      simp only [sortOk, Bool.and_eq_true, decide_eq_true_eq] at k
      obtain ⟨k1, k2, k3⟩ := datOk_ok k.1
      obtain ⟨v, rfl, hv⟩ := hx.one
      obtain ⟨p, ws, rfl, h1, r1⟩ := hv
      obtain ⟨u, rfl, ru⟩ := vals1 r
      obtain rfl : u = Value.ref p := ru
      obtain ⟨its, rv, hl, hz⟩ := I.list (SqL.of (K := X.K) h1)
      refine PySem.W.sorted_dataAny (enc := D.py) hl.isList (each_rp r1 rv) (each_rd I r1 rv k1) k3.1 k3.2 k.2 (fun b hb => ?_) fun out hlen he => ?_
      · have hs := k1
        simp only [shs, List.all_eq_true] at hs
        have := sh_depth (hs b hb)
        omega
      · obtain ⟨zs, rz, rp⟩ := rp_each he
        obtain ⟨ep, he'⟩ := PyProof.Rows.sortedAll_at s.heap its out.toArray
        have fr : H (s.heap.objs.size + 1) = none := I.hok.fresh (Nat.le_succ _)
        refine ⟨.ref (s.heap.objs.size + 1), upd H (s.heap.objs.size + 1) (.lst zs), I.laid (t' := s.toks) (fun b o q => PyProof.Rows.sortedAll_old q) (Nat.le_succ _) ⟨?_, out, ep, rz, he'⟩, rfl, ?_⟩
        · rw [rz.length, hlen]; exact k.2
        · exact q.lst m rp fr
    · cases e
  · split at e
    · rename_i ys k
      simp only [Option.some.injEq] at e; subst e
      simp only [sortOk, Bool.and_eq_true, decide_eq_true_eq] at k
      obtain ⟨k1, k2, k3⟩ := datOk_ok k.1
      obtain ⟨v, rfl, hv⟩ := hx.one
      obtain ⟨p, ws, rfl, h1, _, r1⟩ := rr_tup.mp hv
      obtain ⟨u, rfl, ru⟩ := vals1 r
      obtain rfl : u = Value.ref p := ru
      obtain ⟨its, rv, hl, hz⟩ := I.tuple (SqT.of (K := X.K) h1)
      obtain ⟨o, ho, hc, n, hd⟩ := (show s.heap.IsTuple p its.toArray from hl)
      have hz2 : its.toArray.size ≤ sizeLine := by rw [List.size_toArray, ← Paired.length rv]; exact hz
      refine PySem.W.sorted_collAny (enc := D.py) (fun A' Q' E' _ q' => wpAny_collect_seq p (.inr rfl) ho hc hd (fun h' k' => by have := q' h' s.toks k'; simpa using this) hz2) (each_rp r1 rv) (each_rd I r1 rv k1) k3.1 k3.2 k.2 (fun b hb => ?_) fun out h1 h2 hlen he q1 q2 q3 t2 => ?_
      · have hs := k1
        simp only [shs, List.all_eq_true] at hs
        have := sh_depth (hs b hb)
        omega
      · obtain ⟨zs, rz, rp⟩ := rp_each he
        obtain ⟨ep, he'⟩ := q3
        have I1 : Inv X pins σ H { s with heap := h1 } := I.kept (t' := s.toks) q1
        have fr : H h1.objs.size = none := I1.hok.fresh (Nat.le_refl _)
        refine ⟨.ref h1.objs.size, upd H h1.objs.size (.lst zs), I1.laid (t' := t2) q2 (Nat.le_refl _) ⟨?_, out, ep, rz, he'⟩, rfl, ?_⟩
        · rw [rz.length, hlen]; exact k.2
        · exact q.lst m rp fr
    · cases e
  · split at e
    · rename_i ys us' k
      simp only [Option.some.injEq] at e; subst e
      simp only [sortOk, Bool.and_eq_true, decide_eq_true_eq] at k
      obtain ⟨k1, k2, k3⟩ := datOk_ok k.1
      obtain ⟨v, rfl, hv⟩ := hx.one
      obtain ⟨p, rfl, h2⟩ := hv
      obtain ⟨u, rfl, ru⟩ := vals1 r
      obtain rfl : u = Value.ref p := ru
      rcases h2 with ⟨z, _⟩ | ⟨_, kvs, e1, rfl, _⟩
      · cases z
      obtain ⟨bs, hk, co⟩ := collect_dT hc I e1
      have r1 := keyTs_rp (c := c) m hk
      have rv := vals_refs bs
      refine PySem.W.sorted_collAny (enc := D.py) co (each_rp r1 rv) (each_rd I r1 rv k1) k3.1 k3.2 k.2 (fun b hb => ?_) fun out h1 h2 hlen he q1 q2 q3 t2 => ?_
      · have hs := k1
        simp only [shs, List.all_eq_true] at hs
        have := sh_depth (hs b hb)
        omega
      · obtain ⟨zs, rz, rp⟩ := rp_each he
        obtain ⟨ep, he'⟩ := q3
        have I1 : Inv X pins σ H { s with heap := h1 } := I.kept (t' := s.toks) q1
        have fr : H h1.objs.size = none := I1.hok.fresh (Nat.le_refl _)
        refine ⟨.ref h1.objs.size, upd H h1.objs.size (.lst zs), I1.laid (t' := t2) q2 (Nat.le_refl _) ⟨?_, out, ep, rz, he'⟩, rfl, ?_⟩
        · rw [rz.length, hlen]; exact k.2
        · exact q.lst m rp fr
    · cases e
  · cases e
theorem blt_list (hc : X.calm = true) : CallR X (.type "list") (rB X.Mg listD) := by
  intro pins s σ H vs us Q I r h
  obtain ⟨R, c, M, xs, d, m, hx, e, q⟩ := h
  unfold listD at e
  split at e
  · simp only [Option.some.injEq] at e; subst e
    obtain ⟨v, rfl, hv⟩ := hx.one
    obtain ⟨p, ws, rfl, h1, r1⟩ := hv
    exact call_list_of pins s σ H _ us Q I r ⟨p, ws, rfl, .inl (SqL.of h1), fun l hl => q.lst m r1 hl⟩
  · simp only [Option.some.injEq] at e; subst e
    obtain ⟨v, rfl, hv⟩ := hx.one
    obtain ⟨p, ws, rfl, h1, _, r1⟩ := rr_tup.mp hv
    exact call_list_of pins s σ H _ us Q I r ⟨p, ws, rfl, .inr (SqT.of h1), fun l hl => q.lst m r1 hl⟩
  · simp only [Option.some.injEq] at e; subst e
    obtain ⟨v, rfl, hv⟩ := hx.one
    obtain ⟨p, rfl, h2⟩ := hv
    rcases h2 with ⟨rfl, kvs, e1, rfl, _⟩ | ⟨rfl, kvs, e1, rfl, _⟩
    · exact call_list_dK hc pins s σ H _ us Q I r ⟨p, kvs, rfl, e1, fun l hl => q.lst m (keys_rp kvs) hl⟩
    · exact call_list_dT hc pins s σ H _ us Q I r ⟨p, kvs, rfl, .inl e1, fun l bs hl hk => q.lst m (keyTs_rp m hk) hl⟩
  · cases e
theorem blt_tuple : CallR X (.type "tuple") (rB X.Mg tupleD) := by
  intro pins s σ H vs us Q I r h
  obtain ⟨R, c, M, xs, d, m, hx, e, q⟩ := h
  unfold tupleD at e
  split at e
  · simp only [Option.some.injEq] at e; subst e
    obtain ⟨v, rfl, hv⟩ := hx.one
    obtain ⟨p, ws, rfl, h1, r1⟩ := hv
    exact call_tuple_of pins s σ H _ us Q I r ⟨p, ws, rfl, .inl ⟨SqL.of h1, fun l hl => q.tup m r1 hl⟩⟩
  · simp only [Option.some.injEq] at e; subst e
    obtain ⟨v, rfl, hv⟩ := hx.one
    have hv' := hv
    obtain ⟨p, ws, rfl, h1, _, r1⟩ := rr_tup.mp hv
    exact call_tuple_of pins s σ H _ us Q I r ⟨p, ws, rfl, .inr ⟨SqT.of h1, q.same m hv'⟩⟩
  · cases e
theorem blt_int : CallR X (.type "int") (rB X.Mg intD) := by
  intro pins s σ H vs us Q I r h
  obtain ⟨R, c, M, xs, d, m, hx, e, q⟩ := h
  unfold intD at e
  split at e
  · simp only [Option.some.injEq] at e; subst e
    obtain ⟨v, rfl, hv⟩ := hx.one
    obtain rfl := rr_int.mp hv
    exact call_int1 pins s σ H _ us Q I r (.inl ⟨_, rfl, q.int m⟩)
  · simp only [Option.some.injEq] at e; subst e
    obtain ⟨v, rfl, hv⟩ := hx.one
    obtain rfl := rr_bl.mp hv
    exact call_int1 pins s σ H _ us Q I r (.inr ⟨_, rfl, q.int m⟩)
  · cases e
theorem blt_str : CallR X (.type "str") (rB X.Mg strD) := by
  intro pins s σ H vs us Q I r h
  obtain ⟨R, c, M, xs, d, m, hx, e, q⟩ := h
  unfold strD at e
  split at e
  · split at e
    · rename_i k
      simp only [Option.some.injEq] at e; subst e
      obtain ⟨v, rfl, hv⟩ := hx.one
      obtain rfl := rr_int.mp hv
      exact call_str_int pins s σ H _ us Q I r ⟨_, rfl, k, q.str m⟩
    · cases e
  · cases e
theorem blt_divmod : CallR X (.builtin "divmod") (rB X.Mg divmodD) := by
  intro pins s σ H vs us Q I r h
  obtain ⟨R, c, M, xs, d, m, hx, e, q⟩ := h
  unfold divmodD at e
  split at e
  · split at e
    · rename_i k
      simp only [Option.some.injEq] at e; subst e
      simp only [Bool.and_eq_true, decide_eq_true_eq] at k
      obtain ⟨v, u, rfl, hv, hw⟩ := hx.two
      obtain rfl := rr_int.mp hv
      obtain rfl := rr_int.mp hw
      exact call_divmod pins s σ H _ us Q I r ⟨_, _, rfl, ⟨k.1, k.2⟩, fun p hp => q.tup m (RpL.cons (by simp [Rp]) (RpL.cons (by simp [Rp]) RpL.nil)) hp⟩
    · cases e
  · cases e
/-- sys.modules is a dict -/
def SysOk (K : PySem.W.Frag) : Prop := ∃ o, K.lookup sysModules = some o ∧ o.cls = .type "dict"
theorem sys_ne {X : Cx} {pins : List (Addr × Obj)} {σ : L2.St} {H : Hp} {s : Shared} (S : SysOk X.K) (I : Inv X pins σ H s) {a : Addr} {o : Obj} {n : String} (h : s.heap.get? a = some o) (hc : o.cls = .type n) (hn : n ≠ "dict") : sysModules ≠ a := fun e => by
  obtain ⟨z, h1, h2⟩ := S
  have := I.kIn _ _ h1
  rw [e, h] at this
  cases this
  rw [hc] at h2
  cases h2
  exact hn rfl
theorem dct_readsE {X : Cx} {pins : List (Addr × Obj)} {σ : L2.St} {H : Hp} {s : Shared} {mg : Mg} {U : Addr → Prop} {c : List Addr} (I : Inv X pins σ H s) {t : Bool} {a : Addr} (h3 : (t = false ∧ ∃ kvs : List (Key × V), H a = some (.dK kvs) ∧ ([] : List D) = kvs.map (fun p => keyD p.1) ∧ RpL mg H U c [] (kvs.map (·.2))) ∨
      (t = true ∧ ∃ kvs : List (List Key × V), H a = some (.dT kvs) ∧ ([] : List D) = kvs.map (fun p => keyTD p.1) ∧ RpL mg H U c [] (kvs.map (·.2)))) : ∃ as, Reads s.heap (.ref a) (D.dct t [] []).py as ∧ sysModules ∉ as := by
  have fin : ∀ {o : Obj} {es : Array DictEntry} {ep : Nat}, s.heap.get? a = some o → o.cls = .type "dict" → o.data = .dict es ep → es.toList = [] → (a == sysModules) = false → ∃ as, Reads s.heap (.ref a) (D.dct t [] []).py as ∧ sysModules ∉ as := fun {o es ep} ho hc hd he hs => by
    refine ⟨a :: [] ++ [], Reads.dict (kvs := []) ho hc hd ?_ ?_, ?_⟩
    · rw [he]; exact .nil
    · rw [he]; exact .nil
    · rw [beq_eq_false_iff_ne] at hs
      simp only [List.append_nil, List.mem_cons, List.not_mem_nil, or_false]
      exact fun e => hs e.symm
  rcases h3 with ⟨_, kvs, h4, h5, h6⟩ | ⟨_, kvs, h4, h5, h6⟩
  · obtain ⟨_, hs, vs, rv, o, es, ep, ho, hx, hd, _, pr, _⟩ := I.hok a _ h4
    have : kvs = [] := by simpa using h5.symm
    subst this
    cases rv
    refine fin ho hx.1 hd ?_ hs
    have := pr.length
    simpa using this
  · obtain ⟨_, hs, xs, rv, o, es, ep, ho, hx, hd, he, _⟩ := I.hok a _ h4
    have : kvs = [] := by simpa using h5.symm
    subst this
    cases rv
    exact fin ho hx.1 hd (by simpa using he) hs
mutual
theorem Rp.readsE {X : Cx} {pins : List (Addr × Obj)} {σ : L2.St} {H : Hp} {s : Shared} {mg : Mg} {U : Addr → Prop} {c : List Addr} (S : SysOk X.K) (I : Inv X pins σ H s) : ∀ (d : D) {v : V} {u : Value}, Rp mg H U c d v → d.shE = true → RelV v u → ∃ as, Reads s.heap u d.py as ∧ sysModules ∉ as
  | .non, v, u, h, _, r => by
    simp only [Rp] at h; subst h; cases r
    exact ⟨_, .none, by simp⟩
  | .bl b, v, u, h, _, r => by
    simp only [Rp] at h; subst h; cases r
    exact ⟨_, .bool b, by simp⟩
  | .int i, v, u, h, _, r => by
    simp only [Rp] at h; subst h; obtain ⟨t, rfl⟩ := r
    exact ⟨_, .int i t, by simp⟩
  | .str x, v, u, h, _, r => by
    simp only [Rp] at h; subst h; obtain ⟨t, rfl⟩ := r
    exact ⟨_, .str x t, by simp⟩
  | .tup ds, v, u, h, k, r => by
    simp only [Rp] at h
    obtain ⟨a, vs, rfl, h1, h2, h3⟩ := h
    obtain rfl : u = Value.ref a := r
    obtain ⟨_, its, rv, o, ho, hc, n, hd⟩ := I.hok a _ h1
    obtain ⟨as, q, z⟩ := RpL.readsE S I ds h3 (by simpa [D.shE] using k) rv
    exact ⟨as, .tuple ho hc hd q, z⟩
  | .lst ds, v, u, h, k, r => by
    simp only [Rp] at h
    obtain ⟨a, vs, rfl, h1, h2, h3⟩ := h
    obtain rfl : u = Value.ref a := r
    obtain ⟨_, its, n, rv, ho⟩ := I.hok a _ h1
    obtain ⟨as, q, z⟩ := RpL.readsE S I ds h3 (by simpa [D.shE] using k) rv
    exact ⟨a :: as, .list ho rfl rfl q, by
      simp only [List.mem_cons, not_or]
      exact ⟨sys_ne S I ho rfl (by decide), z⟩⟩
  | .dct t ks us, v, u, h, k, r => by
    simp only [Rp] at h
    obtain ⟨a, rfl, h2, h3⟩ := h
    obtain rfl : u = Value.ref a := r
    simp only [D.shE, Bool.and_eq_true, List.isEmpty_iff] at k
    obtain ⟨rfl, rfl⟩ := k
    exact dct_readsE (mg := mg) (U := U) (c := c) I h3
  | .cell _, v, u, h, k, r => by simp [D.shE] at k
  | .fn _, v, u, h, k, r => by simp [D.shE] at k
  | .exc _ _, v, u, h, k, r => by simp [D.shE] at k
  | .scr _, v, u, h, k, r => by simp [D.shE] at k
theorem RpL.readsE {X : Cx} {pins : List (Addr × Obj)} {σ : L2.St} {H : Hp} {s : Shared} {mg : Mg} {U : Addr → Prop} {c : List Addr} (S : SysOk X.K) (I : Inv X pins σ H s) : ∀ (ds : List D) {vs : List V} {us : List Value}, RpL mg H U c ds vs → shEs ds = true → Vals vs us → ∃ as, ReadsAll s.heap us (pys ds) as ∧ sysModules ∉ as
  | [], vs, us, h, _, r => by
    rw [RpL.nil_iff.mp h] at r
    cases r
    exact ⟨_, .nil, by simp⟩
  | d :: ds, vs, us, h, k, r => by
    obtain ⟨v, w, rfl, h1, t⟩ := RpL.cons_iff.mp h
    simp only [shEs, Bool.and_eq_true] at k
    cases r with
    | cons r1 r2 =>
      obtain ⟨as, q1, z1⟩ := Rp.readsE S I d h1 k.1 r1
      obtain ⟨bs, q2, z2⟩ := RpL.readsE S I ds t k.2 r2
      exact ⟨_, .cons q1 q2, by simp [z1, z2]⟩
end
theorem blt_repr (S : SysOk X.K) (hu : X.A.units + 80 < cLine) (hg : X.A.guards = some []) : CallR X (.builtin "repr") (rB X.Mg reprD) := by
  intro pins s σ H vs us Q I r h
  obtain ⟨R, c, M, xs, d, m, hx, e, q⟩ := h
  unfold reprD at e
  split at e
  · split at e
    · rename_i a k
      simp only [Option.some.injEq] at e; subst e
      simp only [Bool.and_eq_true, decide_eq_true_eq, shR, Bool.or_eq_true] at k
      obtain ⟨v, rfl, hv⟩ := hx.one
      obtain ⟨u, rfl, ru⟩ := vals1 r
      obtain ⟨as, rd, hsy, hd⟩ : ∃ as, Reads s.heap u a.py as ∧ (a.py.hasDict = true → sysModules ∉ as) ∧ a.py.depth ≤ 64 := by
        rcases k.1.1 with z | z
        · obtain ⟨as, rd⟩ := Dp.reads I _ _ _ (hv.dp (K := X.K) (sh_lay z)) ru
          have nd := PyData.hasDict_of_canLay _ (sh_lay z)
          exact ⟨as, rd, fun y => (by rw [nd] at y; cases y), sh_depth z⟩
        · have hz : ∃ as, Reads s.heap u a.py as ∧ sysModules ∉ as := by
            cases a with
            | lst ys =>
              obtain ⟨p, ws, rfl, h1, h3⟩ := hv
              obtain rfl : u = Value.ref p := ru
              obtain ⟨_, its, n, rv, ho⟩ := I.hok p _ h1
              obtain ⟨as, q, z2⟩ := RpL.readsE S I ys h3 (by simpa [D.shE] using z.1) rv
              exact ⟨p :: as, .list ho rfl rfl q, by
                simp only [List.mem_cons, not_or]
                exact ⟨sys_ne S I ho rfl (by decide), z2⟩⟩
            | dct t ks ws =>
              obtain ⟨p, rfl, h3⟩ := hv
              obtain rfl : u = Value.ref p := ru
              have z1 := z.1
              simp only [D.shE, Bool.and_eq_true, List.isEmpty_iff] at z1
              obtain ⟨rfl, rfl⟩ := z1
              exact dct_readsE (mg := X.Mg) (U := Lv R c M) (c := c) I h3
            | scr _ => simp [D.shE] at z
            | cell _ => simp [D.shE] at z
            | non => exact Rp.readsE (mg := X.Mg) (U := Lv R c M) (c := c) S I _ hv z.1 ru
            | bl _ => exact Rp.readsE (mg := X.Mg) (U := Lv R c M) (c := c) S I _ hv z.1 ru
            | int _ => exact Rp.readsE (mg := X.Mg) (U := Lv R c M) (c := c) S I _ hv z.1 ru
            | str _ => exact Rp.readsE (mg := X.Mg) (U := Lv R c M) (c := c) S I _ hv z.1 ru
            | tup _ => exact Rp.readsE (mg := X.Mg) (U := Lv R c M) (c := c) S I _ hv z.1 ru
            | fn _ => simp [D.shE] at z
            | exc _ _ => simp [D.shE] at z
          obtain ⟨as, h1, h2⟩ := hz
          exact ⟨as, h1, fun _ => h2, z.2⟩
      have q' := q.str m
      cases a with
      | non =>
        cases rd
        exact PySem.P.repr_of_none ⟨.str _, H, I.tok _, ⟨_, rfl⟩, by simpa [D.py, PyData.shown] using q'⟩
      | bl b =>
        cases rd
        exact PySem.P.repr_of_bool ⟨.str _, H, I.tok _, ⟨_, rfl⟩, by simpa [D.py, PyData.shown] using q'⟩
      | int i =>
        cases rd
        exact PySem.P.repr_of_int (by simpa [D.py, PyData.showable] using k.1.2) ⟨.str _, H, I.tok _, ⟨_, rfl⟩, by simpa [D.py, PyData.shown] using q'⟩
      | str x =>
        cases rd
        exact PySem.P.repr_of_str ⟨.str _, H, I.tok _, ⟨_, rfl⟩, by simpa [D.py, PyData.shown] using q'⟩ (by have := k.2; simp only [D.py, PyData.shown] at this; omega)
      | tup ys =>
        obtain ⟨p, rfl⟩ : ∃ p, u = Value.ref p := by
          cases rd
          exact ⟨_, rfl⟩
        exact repr_of_reads' rd k.1.2 hsy hg (by omega) (fun _ _ z => z) (fun h' u' tk hk => ⟨.str _, H, I.kept hk, ⟨_, rfl⟩, q'⟩) (by omega)
      | lst ys =>
        obtain ⟨p, rfl⟩ : ∃ p, u = Value.ref p := by
          cases rd
          exact ⟨_, rfl⟩
        exact repr_of_reads' rd k.1.2 hsy hg (by omega) (fun _ _ z => z) (fun h' u' tk hk => ⟨.str _, H, I.kept hk, ⟨_, rfl⟩, q'⟩) (by omega)
      | dct _ _ _ =>
        obtain ⟨p, rfl⟩ : ∃ p, u = Value.ref p := by
          cases rd
          exact ⟨_, rfl⟩
        exact repr_of_reads' rd k.1.2 hsy hg (by omega) (fun _ _ z => z) (fun h' u' tk hk => ⟨.str _, H, I.kept hk, ⟨_, rfl⟩, q'⟩) (by omega)
      | cell _ => exact absurd k.1.1 (by simp [D.shE, sh, SeqAt.shaped, D.py, PyData.canLay0])
      | fn _ => exact absurd k.1.1 (by simp [D.shE, sh, SeqAt.shaped, D.py, PyData.canLay0])
      | exc _ _ => exact absurd k.1.1 (by simp [D.shE, sh, SeqAt.shaped, D.py, PyData.canLay0])
      | scr _ => exact absurd k.1.1 (by simp [D.shE, sh, SeqAt.shaped, D.py, PyData.canLay0])
    · cases e
  · cases e
/-- every built-in one -/
theorem blt_ok (S : SysOk X.K) (hc : X.calm = true) (hu : X.A.units + 80 < cLine) (hg : X.A.guards = some []) : ∀ b : Bf, CallR X (bfV b) (rB X.Mg (bltD b))
  | .len => blt_len
  | .abs => blt_abs
  | .max => blt_max hc hu
  | .min => blt_min hc hu
  | .sum => blt_sum hc
  | .all => blt_all hc
  | .any => blt_any hc
  | .sorted => blt_sorted hc hu
  | .list => blt_list hc
  | .tuple => blt_tuple
  | .int => blt_int
  | .str => blt_str
  | .repr => blt_repr S hu hg
  | .divmod => blt_divmod
end
end Mp

/-! Subscripts, slices, methods by values; cells that change. -/
namespace Mp
open PySem PySem.Spec PyProof.Rows L2

/-! ### cells -/
section
variable {mg : Mg} {R : Addr → Prop} {H : Hp} {c : List Addr} {M : Cs}
theorem live_set {M : Cs} {n k : Nat} {d : D} (h : live M n) : live (M.set n (some d)) k ↔ live M k := by
  unfold live
  rw [List.getElem?_set]
  by_cases e : n = k
  · subst e
    obtain ⟨x, hx⟩ := h
    have hl := (List.getElem?_eq_some_iff.mp hx).1
    simp only [if_true, hl, Option.some.injEq, exists_eq', true_iff]
    exact ⟨x, hx⟩
  · simp [e]
theorem lv_set {R : Addr → Prop} {c : List Addr} {M : Cs} {n : Nat} {d : D} (h : live M n) (a : Addr) : Lv R c (M.set n (some d)) a ↔ Lv R c M a := by
  unfold Lv
  constructor
  · rintro (q | ⟨k, h1, h2⟩)
    · exact .inl q
    · exact .inr ⟨k, (live_set h).mp h1, h2⟩
  · rintro (q | ⟨k, h1, h2⟩)
    · exact .inl q
    · exact .inr ⟨k, (live_set h).mpr h1, h2⟩
/-- a cell's contents are others -/
theorem CM.put (m : CM mg R H c M) {n : Nat} {d0 d1 : D} {a : Addr} {o : HO} (hn : M[n]? = some (some d0)) (hc : c[n]? = some a) (hf : d1.free 0 = true)
    (new : ∀ (g : Gr H (Lv R c M) c (upd H a o) (Lv R c (M.set n (some d1))) c), CellOk mg (upd H a o) (Lv R c (M.set n (some d1))) c a d1) : Aft mg R H c M (M.set n (some d1)) (upd H a o) c := by
  have hl : live M n := ⟨_, hn⟩
  have hlv : Lv R c M a := .inr ⟨n, hl, hc⟩
  have hnr : ¬ R a := m.nres n a hl hc
  have g : Gr H (Lv R c M) c (upd H a o) (Lv R c (M.set n (some d1))) c :=
    ⟨fun b u e q => ⟨by rw [upd_ne (show b ≠ a from fun z => q (by rw [z]; exact hlv))]; exact e, fun z => q ((lv_set hl b).mp z)⟩, fun _ _ => rfl⟩
  refine ⟨⟨g.keep, g.pre, fun b r => upd_ne (show b ≠ a from fun z => hnr (by rw [← z]; exact r))⟩, ?_⟩
  refine ⟨by simp [m.len], fun i j b h1 h2 => m.inj i j b ((live_set hl).mp h1) ((live_set hl).mp h2), fun i b h1 => m.nres i b ((live_set hl).mp h1), fun b r => ?_, fun k d e => ?_, fun k d e => ?_⟩
  · obtain ⟨u, e1, e2⟩ := m.there b r
    exact ⟨u, by rw [upd_ne (show b ≠ a from fun z => hnr (by rw [← z]; exact r))]; exact e1, e2⟩
  · rw [List.getElem?_set] at e
    by_cases hk : n = k
    · subst hk
      simp only [if_true] at e
      split at e
      · simp only [Option.some.injEq] at e; subst e
        exact ⟨a, hc, new g⟩
      · cases e
    · simp only [hk, if_false] at e
      obtain ⟨b, e1, e2⟩ := m.obj k d e
      refine ⟨b, e1, e2.mono g (upd_ne fun z => ?_)⟩
      subst z
      exact hk (m.inj n k b hl ⟨_, e⟩ hc e1)
  · rw [List.getElem?_set] at e
    by_cases hk : n = k
    · subst hk
      simp only [if_true] at e
      split at e
      · simp only [Option.some.injEq] at e; subst e
        exact hf
      · cases e
    · simp only [hk, if_false] at e
      exact m.fre k d e
/-- a cell goes -/
theorem live_kill {M : Cs} {n k : Nat} : live (M.set n none) k ↔ live M k ∧ n ≠ k := by
  unfold live
  rw [List.getElem?_set]
  by_cases e : n = k
  · subst e
    simp only [if_true]
    constructor
    · rintro ⟨d, h⟩
      split at h <;> simp at h
    · rintro ⟨_, h⟩; exact absurd rfl h
  · simp [e]
theorem CM.kill (m : CM mg R H c M) {n : Nat} : Aft mg R H c M (M.set n none) H c := by
  have lv : ∀ a, Lv R c (M.set n none) a → Lv R c M a := fun a q => by
    rcases q with q | ⟨k, h1, h2⟩
    · exact .inl q
    · exact .inr ⟨k, (live_kill.mp h1).1, h2⟩
  have g : Gr H (Lv R c M) c H (Lv R c (M.set n none)) c := ⟨fun b u e q => ⟨e, fun z => q (lv b z)⟩, fun _ _ => rfl⟩
  refine ⟨⟨g.keep, g.pre, fun _ _ => rfl⟩, ?_⟩
  have back : ∀ (k : Nat) (d : D), (M.set n none)[k]? = some (some d) → M[k]? = some (some d) := fun k d e => by
    rw [List.getElem?_set] at e
    by_cases hk : n = k
    · subst hk
      simp only [if_true] at e
      split at e <;> simp at e
    · simpa [hk] using e
  refine ⟨by simp [m.len], fun i j b h1 h2 => m.inj i j b (live_kill.mp h1).1 (live_kill.mp h2).1, fun i b h1 => m.nres i b (live_kill.mp h1).1, m.there, fun k d e => ?_, fun k d e => m.fre k d (back k d e)⟩
  obtain ⟨b, e1, e2⟩ := m.obj k d (back k d e)
  exact ⟨b, e1, e2.mono g rfl⟩
end

/-! ### dicts changed -/
theorem put_ok {κ : Type} [DecidableEq κ] {f : κ → D} (hf : ∀ {a b}, f a = f b → a = b) {mg : Mg} {H : Hp} {U : Addr → Prop} {c : List Addr} (k : κ) {x : D} {v : V} {kvs : List (κ × V)} {us : List D} (h : RpL mg H U c us (kvs.map (·.2))) (rv : Rp mg H U c x v) :
    (putD (f k) x (kvs.map fun p => f p.1) us).1 = (putK kvs k v).map (fun p => f p.1) ∧ RpL mg H U c (putD (f k) x (kvs.map fun p => f p.1) us).2 ((putK kvs k v).map (·.2)) := by
  have e1 : ((kvs.map fun p => f p.1).any fun a => decide (a = f k)) = kvs.any fun kv => decide (kv.1 = k) := by
    rw [List.any_map]
    congr 1
    funext p
    by_cases q : p.1 = k
    · simp [q]
    · have : ¬ f p.1 = f k := fun z => q (hf z)
      simp [q, this]
  unfold putD putK
  rw [e1]
  by_cases q : (kvs.any fun kv => decide (kv.1 = k)) = true
  · simp only [q, if_true]
    refine ⟨?_, ?_⟩
    · rw [List.map_map]
      congr 1
      funext p
      simp only [Function.comp]
      split <;> rfl
    · clear e1 q
      induction kvs generalizing us with
      | nil =>
        cases us with
        | nil => exact RpL.nil
        | cons d ds => have := h.len; simp at this
      | cons p r ih =>
        cases us with
        | nil => have := h.len; simp at this
        | cons d ds =>
          obtain ⟨w, t, e, h1, h2⟩ := RpL.cons_iff.mp h
          simp only [List.map_cons, List.cons.injEq] at e
          obtain ⟨rfl, rfl⟩ := e
          simp only [List.map_cons, List.zip_cons_cons]
          refine RpL.cons ?_ (ih h2)
          by_cases hk : p.1 = k
          · simp [hk, rv]
          · have : ¬ f p.1 = f k := fun z => hk (hf z)
            simp [hk, this, h1]
  · simp only [q, if_false, Bool.false_eq_true]
    refine ⟨by simp, ?_⟩
    rw [List.map_append]
    exact h.app (RpL.cons rv RpL.nil)

theorem frees_append (n : Nat) : ∀ (a b : List D), frees n (a ++ b) = (frees n a && frees n b)
  | [], b => by simp [frees]
  | x :: a, b => by simp [frees, frees_append n a b, Bool.and_assoc]
theorem frees_iff (n : Nat) : ∀ (a : List D), frees n a = true ↔ ∀ d ∈ a, d.free n = true
  | [] => by simp [frees]
  | x :: a => by simp [frees, frees_iff n a]

section
variable {X : Cx}
/-! ### subscripts -/
theorem ix_ok (hu : X.A.units + 1 < cLine) : IxR X (rO2 X.Mg idxD) := by
  intro value slice pins s σ H x y v u Q I rx ry h hs
  obtain ⟨R, c, M, a, b, d, m, ha, hb, e, q⟩ := h
  unfold idxD at e
  have pos : ∀ {α : Type} {xs : List α} {i : Int} {z : α}, atI xs i = some z → ∃ j, ixN xs.length i = some j ∧ xs[j]? = some z := fun {α xs i z} e => by
    unfold atI at e
    exact Option.bind_eq_some_iff.mp e
  split at e
  · obtain ⟨p, ws, rfl, h1, h2, r1⟩ := rr_tup.mp ha
    obtain ⟨j, e1, e2⟩ := pos e
    obtain ⟨w, e3, r3⟩ := r1.get e2
    refine ix_tup value slice pins s σ H _ y v u Q I rx ry ⟨p, ws, _, w, rfl, rr_int.mp hb, SqT.of h1, ?_, q.same m r3⟩ hs
    unfold atI
    rw [r1.len, e1]
    exact e3
  · obtain ⟨p, ws, rfl, h1, r1⟩ := ha
    obtain ⟨j, e1, e2⟩ := pos e
    obtain ⟨w, e3, r3⟩ := r1.get e2
    refine ix_list value slice pins s σ H _ y v u Q I rx ry ⟨p, ws, _, w, rfl, rr_int.mp hb, SqL.of h1, ?_, q.same m r3⟩ hs
    unfold atI
    rw [r1.len, e1]
    exact e3
  · split at e
    · rename_i k
      replace e := Option.map_eq_some_iff.mp e
      obtain ⟨z, e, rfl⟩ := e
      exact ix_str value slice pins s σ H _ y v u Q I rx ry ⟨_, _, _, rr_str.mp ha, rr_int.mp hb, k, e, q.str m⟩ hs
    · cases e
  · split at e
    · rename_i k
      obtain ⟨p, o, rfl, g, r⟩ := dget_ok ha k (rr_key hb k)
      rw [e] at r
      obtain ⟨w, rfl, rw'⟩ := r
      obtain rfl : v = Value.ref p := rx
      exact PyProof.Rows.tail_any (dict_typeIs I g) slot_dict_getitem.lookup (d_getItem hu I g ry fun w' s3 I3 rw2 => ⟨w, H, I3, rw2, q.same m rw'⟩) hs
    · cases e
  · replace e := Option.map_eq_some_iff.mp e
    obtain ⟨z, e, rfl⟩ := e
    obtain ⟨p, rfl, h1⟩ := scr_rr ha
    obtain ⟨j, e1, e2⟩ := pos e
    refine ix_list value slice pins s σ H _ y v u Q I rx ry ⟨p, _, _, .int z, rfl, rr_int.mp hb, h1, ?_, q.int m⟩ hs
    unfold atI
    rw [List.length_map, e1]
    simp [e2]
  · cases e

/-! ### slices -/
theorem part_ok (o : Option Int) : partD (ptD o) = some o := by cases o <;> rfl
theorem cut_rp {mg : Mg} {H : Hp} {U : Addr → Prop} {c : List Addr} {ds : List D} {vs : List V} (h : RpL mg H U c ds vs) (lo hi : Option Int) : RpL mg H U c (cut ds lo hi) (cutV vs lo hi) := by
  unfold cut cutV
  rw [h.len]
  exact (h.drop _).take _
def rSl (mg : Mg) : V → Option Int → Option Int → Hp → VK → Prop := fun v lo hi H Q => ∃ R c M x d, CM mg R H c M ∧ Rr mg H (Lv R c M) c x v ∧ slcD x (ptD lo) (ptD hi) .non = some d ∧ Out mg R c M d H Q
theorem cut_all {α : Type} {xs : List α} {lo hi : Option Int} (h : HT.sIx xs.length 0 lo = 0 ∧ HT.sIx xs.length xs.length hi = xs.length) : cut xs lo hi = xs := by
  unfold cut
  rw [h.1, h.2]
  simp
theorem sl_ok : SlR X (rSl X.Mg) := by
  intro pins s σ H x v vl vu lo hi sl Q I rx hs pl pu h
  obtain ⟨R, c, M, a, d, m, ha, e, q⟩ := h
  unfold slcD at e
  split at e <;> try (cases e)
  · simp only [part_ok, Option.some.injEq] at e; subst e
    obtain ⟨p, ws, rfl, h1, r1⟩ := ha
    exact sl_list pins s σ H _ v vl vu lo hi sl Q I rx hs pl pu ⟨p, ws, rfl, SqL.of h1, fun l hl => q.lst m (cut_rp r1 lo hi) hl⟩
  · simp only [part_ok, Option.some.injEq] at e; subst e
    have ha' := ha
    obtain ⟨p, ws, rfl, h1, h2, r1⟩ := rr_tup.mp ha
    refine sl_tupA pins s σ H _ v vl vu lo hi sl Q I rx hs pl pu ⟨p, ws, rfl, SqT.of h1, fun z => ?_, fun _ l hl => q.tup m (cut_rp r1 lo hi) hl⟩
    rw [r1.len] at z
    refine q.same m ?_
    rw [cut_all z]
    exact ha'
  · simp only [part_ok, Option.some.injEq] at e; subst e
    obtain ⟨p, rfl, h1⟩ := scr_rr ha
    refine sl_list pins s σ H _ v vl vu lo hi sl Q I rx hs pl pu ⟨p, _, rfl, h1, fun l hl => q.lst m ?_ hl⟩
    have : ∀ ns : List Int, RpL X.Mg H (Lv R c M) c (ns.map .int) (ns.map V.int) := fun ns => by
      induction ns with
      | nil => exact RpL.nil
      | cons n r ih => exact RpL.cons (by simp [Rp]) ih
    have e2 : ∀ ns : List Int, cutV (ns.map V.int) lo hi = (cut ns lo hi).map V.int := fun ns => by
      unfold cutV cut
      rw [List.length_map, List.map_take, List.map_drop]
    rw [e2]
    exact this _
  · split at e
    · rename_i k
      simp only [part_ok] at *
      split at e
      · rename_i k
        simp only [Option.some.injEq] at e; subst e
        exact sl_str pins s σ H _ v vl vu lo hi sl Q I rx hs pl pu ⟨_, rr_str.mp ha, k, by have := q.str m; simp_all⟩
      · cases e
    · cases e
/-! ### methods -/
theorem find_ok (x : D) : ∀ {xs : List D} {j : Nat}, findD x xs = some j → ∃ z, (pys xs)[j]? = some z ∧ PyData.eqv z x.py = true ∧ ∀ (m : Nat) (z' : PyData), m < j → (pys xs)[m]? = some z' → PyData.eqv z' x.py = false
  | [], j, h => by simp [findD] at h
  | y :: ys, j, h => by
    simp only [findD] at h
    split at h
    · rename_i k
      simp only [Option.some.injEq] at h; subst h
      exact ⟨y.py, rfl, k, fun m z' hm => absurd hm (Nat.not_lt_zero _)⟩
    · rename_i k
      replace h := Option.map_eq_some_iff.mp h
      obtain ⟨i, h, rfl⟩ := h
      obtain ⟨z, h1, h2, h3⟩ := find_ok x h
      refine ⟨z, by simpa [pys] using h1, h2, fun m z' hm hz => ?_⟩
      cases m with
      | zero =>
        simp only [pys, List.getElem?_cons_zero, Option.some.injEq] at hz
        rw [← hz]
        simpa [eqD] using k
      | succ m => exact h3 m z' (by omega) (by simpa [pys] using hz)
def rMt (mg : Mg) (g : D → List D → Option D) : V → List V → Hp → VK → Prop := fun v vs H Q => ∃ R c M x xs d, CM mg R H c M ∧ Rr mg H (Lv R c M) c x v ∧ RrL mg H (Lv R c M) c xs vs ∧ g x xs = some d ∧ Out mg R c M d H Q
theorem mt_lindex (hu : X.A.units + 65 < cLine) : MtR X "list.index" (rMt X.Mg lindexD) := by
  intro pins s σ H v vs w us Q I rx rv h
  obtain ⟨R, c, M, x, xs, d, m, hx, hxs, e, q⟩ := h
  unfold lindexD at e
  split at e
  · split at e
    · rename_i k
      simp only [Bool.and_eq_true] at k
      replace e := Option.map_eq_some_iff.mp e
      obtain ⟨j, e, rfl⟩ := e
      obtain ⟨z, h1, h2, h3⟩ := find_ok _ e
      obtain ⟨y, rfl, hy⟩ := hxs.one
      have hx' := hx
      obtain ⟨p, ws, rfl, h4, r1⟩ := hx
      exact mt_indexD hu pins s σ H _ _ w us Q I rx rv ⟨p, y, _, _, j, z, rfl, rfl, hx'.dp (sh_lay k.2), hy.dp (sh_lay k.1), k.2, k.1, h1, h2, h3, q.int m⟩
    · cases e
  · cases e

/-- a method that changes a cell -/
def rMu (mg : Mg) (g : D → List D → Option (D × D)) : V → List V → Hp → VK → Prop := fun v vs H Q => ∃ R c M n a x xs y w, CM mg R H c M ∧ M[n]? = some (some x) ∧ v = .ref a ∧ c[n]? = some a ∧ RpL mg H (Lv R c M) c xs vs ∧ frees 0 xs = true ∧ g x xs = some (y, w) ∧
  ∀ u H', Aft mg R H c M (M.set n (some y)) H' c → Rp mg H' (Lv R c (M.set n (some y))) c w u → Q u H'
theorem CM.lstAt {mg : Mg} {R : Addr → Prop} {H : Hp} {c : List Addr} {M : Cs} (m : CM mg R H c M) {n : Nat} {a : Addr} {ds : List D} (hn : M[n]? = some (some (.lst ds))) (hc : c[n]? = some a) : ∃ vs, H a = some (.lst vs) ∧ RpL mg H (Lv R c M) c ds vs := by
  obtain ⟨b, e1, e2⟩ := m.obj n _ hn
  rw [hc] at e1; cases e1
  exact e2
theorem mu_append : MtR X "list.append" (rMu X.Mg appendD) := by
  intro pins s σ H v vs w us Q I rx rv h
  obtain ⟨R, c, M, n, a, x, xs, y, r, m, hn, rfl, hc, hxs, hf, e, q⟩ := h
  unfold appendD at e
  split at e
  · split at e
    · rename_i ds z k
      simp only [Option.some.injEq, Prod.mk.injEq] at e
      obtain ⟨rfl, rfl⟩ := e
      obtain ⟨ws, h1, h2⟩ := m.lstAt hn hc
      obtain ⟨u, t, rfl, h3, h4⟩ := RpL.cons_iff.mp hxs
      obtain rfl := RpL.nil_iff.mp h4
      refine mt_append pins s σ H _ _ w us Q I rx rv ⟨a, ws, u, rfl, rfl, h1, by rw [h2.len]; exact k, q _ _ (m.put hn hc ?_ fun g => ?_) (by simp [Rp])⟩
      · have := m.fre n _ hn
        simp only [D.free] at this ⊢
        rw [frees_append, this, Bool.true_and]; exact hf
      · exact ⟨_, upd_same, (h2.mono g).app (RpL.cons (h3.mono g) RpL.nil)⟩
    · cases e
  · cases e
theorem mu_extend : MtR X "list.extend" (rMu X.Mg extendD) := by
  intro pins s σ H v vs w us Q I rx rv h
  obtain ⟨R, c, M, n, a, x, xs, y, r, m, hn, rfl, hc, hxs, hf, e, q⟩ := h
  unfold extendD at e
  split at e
  · split at e
    · rename_i ds es k
      simp only [Option.some.injEq, Prod.mk.injEq] at e
      obtain ⟨rfl, rfl⟩ := e
      obtain ⟨ws, h1, h2⟩ := m.lstAt hn hc
      obtain ⟨u, t, rfl, h3, h4⟩ := RpL.cons_iff.mp hxs
      obtain rfl := RpL.nil_iff.mp h4
      simp only [Rp] at h3
      obtain ⟨b, zs, rfl, h5, h6, h7⟩ := h3
      refine mt_extend pins s σ H _ _ w us Q I rx rv ⟨a, b, ws, zs, rfl, rfl, h1, h5, by rw [h2.len, h7.len]; exact k, q _ _ (m.put hn hc ?_ fun g => ?_) (by simp [Rp])⟩
      · have := m.fre n _ hn
        simp only [D.free] at this ⊢
        simp only [frees, D.free, Bool.and_true] at hf
        rw [frees_append, this, Bool.true_and]; exact hf
      · exact ⟨_, upd_same, (h2.mono g).app (h7.mono g)⟩
    · cases e
  · cases e
theorem mu_pop : MtR X "list.pop" (rMu X.Mg popD) := by
  intro pins s σ H v vs w us Q I rx rv h
  obtain ⟨R, c, M, n, a, x, xs, y, r, m, hn, rfl, hc, hxs, hf, e, q⟩ := h
  unfold popD at e
  have fr : ∀ {ds es : List D}, M[n]? = some (some (.lst ds)) → (∀ d ∈ es, d ∈ ds) → (D.lst es).free 0 = true := fun {ds es} h1 h2 => by
    have := m.fre n _ h1
    simp only [D.free] at this ⊢
    rw [frees_iff] at this ⊢
    exact fun d hd => this d (h2 d hd)
  split at e
  · split at e
    · rename_i ds z k
      simp only [Option.some.injEq, Prod.mk.injEq] at e
      obtain ⟨rfl, rfl⟩ := e
      obtain ⟨ws, h1, h2⟩ := m.lstAt hn hc
      obtain rfl := RpL.nil_iff.mp hxs
      obtain ⟨u, h3, h4⟩ := h2.get k
      refine mt_pop pins s σ H _ _ w us Q I rx rv ⟨a, ws, u, rfl, rfl, h1, by rw [h2.len]; exact h3, ?_⟩
      have A := m.put (o := .lst ws.dropLast) hn hc (fr hn fun d hd => by rw [List.dropLast_eq_take] at hd; exact List.mem_of_mem_take hd) fun g => ⟨_, upd_same, (h2.mono g).dropLast⟩
      exact q _ _ A (h4.mono A.1.gr)
    · cases e
  · split at e
    · rename_i ds i k
      simp only [Bool.and_eq_true, decide_eq_true_eq] at k
      split at e
      · rename_i j ej
        split at e
        · rename_i z ez
          simp only [Option.some.injEq, Prod.mk.injEq] at e
          obtain ⟨rfl, rfl⟩ := e
          obtain ⟨ws, h1, h2⟩ := m.lstAt hn hc
          obtain ⟨u', t, rfl, h3, h4⟩ := RpL.cons_iff.mp hxs
          obtain rfl := RpL.nil_iff.mp h4
          simp only [Rp] at h3
          subst h3
          obtain ⟨u, h5, h6⟩ := h2.get ez
          refine mt_popAt pins s σ H _ _ w us Q I rx rv ⟨a, ws, i, j, u, rfl, rfl, h1, k.1, k.2, by rw [h2.len]; exact ej, h5, ?_⟩
          have A := m.put (o := .lst (ws.eraseIdx j)) hn hc (fr hn fun d hd => List.mem_of_mem_eraseIdx hd) fun g => ⟨_, upd_same, (h2.mono g).eraseIdx j⟩
          exact q _ _ A (h6.mono A.1.gr)
        · cases e
      · cases e
    · cases e
  · cases e
/-- o[i] = v, o a cell -/
def rSet (mg : Mg) : TSet := fun o i v H Q => ∃ R c M n a x y d z, CM mg R H c M ∧ M[n]? = some (some x) ∧ o = .ref a ∧ c[n]? = some a ∧ Rp mg H (Lv R c M) c y i ∧ Rp mg H (Lv R c M) c d v ∧ y.free 0 = true ∧ d.free 0 = true ∧ setD x y d = some z ∧
  ∀ H', Aft mg R H c M (M.set n (some z)) H' c → Q H'
theorem set_ok (hu : X.A.units + 1 < cLine) : PSet X (rSet X.Mg) := by
  intro pins s σ H o i v ov iv u Q I ro ri rv h
  obtain ⟨R, c, M, n, a, x, y, d, z, m, hn, rfl, hc, hy, hd, fy, fd, e, q⟩ := h
  unfold setD at e
  split at e
  · rename_i ds k
    replace e := Option.map_eq_some_iff.mp e
    obtain ⟨j, e, rfl⟩ := e
    obtain ⟨ws, h1, h2⟩ := m.lstAt hn hc
    simp only [Rp] at hy
    refine set_list pins s σ H _ i v ov iv u Q I ro ri rv ⟨a, ws, k, j, rfl, hy, h1, by rw [h2.len]; exact e, ?_⟩
    refine q _ (m.put hn hc ?_ fun g => ⟨_, upd_same, (h2.mono g).set j (hd.mono g)⟩)
    have := m.fre n _ hn
    simp only [D.free] at this ⊢
    rw [frees_iff] at this ⊢
    intro x hx
    rcases List.mem_or_eq_of_mem_set hx with hx | rfl
    · exact this x hx
    · exact fd
  · split at e
    · rename_i t ks us k
      simp only [Bool.and_eq_true, decide_eq_true_eq] at k
      simp only [Option.some.injEq] at e; subst e
      obtain ⟨b, e1, e2⟩ := m.obj n _ hn
      rw [hc] at e1; cases e1
      obtain rfl : ov = Value.ref a := ro
      have hfr := m.fre n _ hn
      simp only [D.free, Bool.and_eq_true] at hfr
      have hff : (D.dct t (putD y d ks us).1 (putD y d ks us).2).free 0 = true := by
        simp only [D.free, Bool.and_eq_true]
        unfold putD
        split
        · refine ⟨hfr.1, (frees_iff 0 _).mpr fun z hz => ?_⟩
          obtain ⟨p, hp, rfl⟩ := List.mem_map.mp hz
          split
          · exact fd
          · exact (frees_iff 0 _).mp hfr.2 _ (List.of_mem_zip hp).2
        · rw [frees_append, frees_append, hfr.1, hfr.2]
          simp [frees, fy, fd]
      simp only [CellOk] at e2
      rcases e2 with ⟨rfl, kvs, e3, rfl, r⟩ | ⟨rfl, kvs, e3, rfl, r⟩
      · obtain ⟨κ, rfl⟩ := isKeyK_ok (show isKeyK y = true from k.1)
        obtain rfl := hy.key
        refine d_setItem hu I (DPut.k e3 (by simpa using k.2)) ri rv fun s4 I4 => ⟨_, I4, q _ (m.put hn hc hff fun g => ?_)⟩
        obtain ⟨p1, p2⟩ := put_ok keyD_inj κ (r.mono g) (hd.mono g)
        exact .inl ⟨rfl, _, upd_same, p1, p2⟩
      · obtain ⟨κ, rfl⟩ := isKeyT_ok (show isKeyT y = true from k.1)
        obtain ⟨b, rfl, eb⟩ := hy.keyT
        refine d_setItem hu I (DPut.t e3 eb (by simpa using k.2)) ri rv fun s4 I4 => ⟨_, I4, q _ (m.put hn hc hff fun g => ?_)⟩
        obtain ⟨p1, p2⟩ := put_ok keyTD_inj κ (r.mono g) (hd.mono g)
        exact .inr ⟨rfl, _, upd_same, p1, p2⟩
    · cases e
  · cases e
end
end Mp

/-! Defs of the text, called where no guard stands. -/
namespace Mp
open PySem PySem.Spec PyProof.Rows L2

/-- a def keeps its promise, where no guard stands -/
structure FnG (P : Program) (w : World) (K : PySem.W.Frag) (mg : Str → Option Value) (base : Heap) (CX : CXT) (k : Nat) (f : Addr) (fd : FuncData) (ps : List Str) (sp : Sp) : Prop where
  len : ∀ vs H Q E, sp vs H Q E → vs.length = ps.length
  run : ∀ (A : Around) (outer : List Env) (s : Shared) (H : Hp) (args : Args) (us : List Value) (vs : List V) (Q : VK) (E : XK), Room k A → A.guards = some [] → Env0 P w K mg base A outer s H →
    BindsTo s fd args (ps.zip us) → Vals vs us → sp vs H Q E → codeAny (model P w) A (.call (.ref f) args) (CR CX outer P w H s Q E) s
theorem FnG.mono {P : Program} {w : World} {K : PySem.W.Frag} {mg : Str → Option Value} {base : Heap} {CX : CXT} {j k : Nat} {f : Addr} {fd : FuncData} {ps : List Str} {sp : Sp} (F : FnG P w K mg base CX j f fd ps sp) (h : j ≤ k) : FnG P w K mg base CX k f fd ps sp :=
  ⟨F.len, fun A outer s H args us vs Q E r => F.run A outer s H args us vs Q E (r.mono h)⟩

section
variable {CX : CXT} {P : Program} {w : World} {K : PySem.W.Frag} {mg : Str → Option Value} {base : Heap} {k : Nat} {f : Addr} {name qual : Str} {params : Arguments} {body : List Stmt} {scope : Scope} {dV kV doc pm cdv ct oc : Value} {an od : Option Addr} {osl : Array (Option Value)} {N ps : List Str} {sp : Sp}
/-- by its body -/
theorem fng_of (lk : K.lookup f = some ⟨oc, od, .func (PySem.W.fnOf name qual params body scope dV kV doc pm an cdv ct), osl⟩) (hcd : PySem.W.codeIn K cdv qual = true) (S : FnScope N ps scope) (len : ∀ vs H Q E, sp vs H Q E → vs.length = ps.length)
    (bd : ∀ (A : Around) (outer : List Env) (s : Shared) (H : Hp) (vs : List V) (Q : VK) (E : XK), Room k (A.deeper (envOfC qual scope s.heap.objs.size f cdv)) → A.guards = some [] → sp vs H Q E →
      ∃ t, PSs (cxOf CX P w K mg base N qual scope f cdv A outer s H E) body t ∧ t { nx := fun _ H' => Q .non H', rt := Q } (start N vs) H) :
    FnG P w K mg base CX (k + 1) f (PySem.W.fnOf name qual params body scope dV kV doc pm an cdv ct) ps sp := by
  refine ⟨len, fun A outer s H args us vs Q E room gd en bind rel wish => ?_⟩
  have inK : K.In s.heap := en.mod.kin.keeps fun b o e => (en.bs b o e).1
  have pars : ∀ z ∈ ps.zip us, scope.names.lookup z.1 = some .local ∨ (scope.names.lookup z.1 = some .cell ∧ ((cellsFrom (s.heap.objs.size + 1) scope.names []).lookup z.1).isSome = true) := by
    rintro ⟨n, v⟩ hz
    rcases S.par n (List.of_mem_zip hz).1 with q | q
    · exact .inl q
    · exact .inr ⟨q, PySem.W.cellsFrom_some _ _ _ (.inl q)⟩
  refine codeAny_call_function room.depth (inK _ _ lk) rfl S.co S.gen rfl (PySem.W.codeRec_of inK hcd) (bind _ _ _ _ ?_)
  refine wpAny_newFunctionEnv_cells S.kind pars fun env he s1 ic => ?_
  subst he
  refine ⟨(en.mod.nolimit.keeps fun b o e => (en.bs b o e).1).keeps ic.toInCall.keep, codeAny_func ?_⟩
  obtain ⟨t, ht, hq⟩ := bd A outer s H vs Q E (room.deeper _) gd wish
  have I0 : Inv (cxOf CX P w K mg base N qual scope f cdv A outer s H E) [] (start N vs) H s1 := inv_start S room.hd en (len _ _ _ _ wish) rel ic
  refine wpAny_mono (ht.run [] s1 (start N vs) H _ I0 hq) (fun fl s' hs => ?_) fun e s' hs => hs
  cases fl with
  | ret u => obtain ⟨v, σ', H', J, rv, q⟩ := hs; exact ⟨v, H', J.os, J.bare, J.base, J.hok, rv, q⟩
  | next => obtain ⟨σ', H', J, q⟩ := hs; exact ⟨.non, H', J.os, J.bare, J.base, J.hok, rfl, q⟩
  | brk => obtain ⟨_, _, _, z⟩ := hs; exact z.elim
  | cont => obtain ⟨_, _, _, z⟩ := hs; exact z.elim
end

/-! ### keywords -/
def permL {α : Type} (z : α) (perm : List Nat) (xs : List α) : List α := match perm with
  | [] => xs
  | _ => perm.map fun i => xs.getD i z
/-- a call's shape: n values by place, ks by name, to the places that perm tells -/
def KwB (K : PySem.W.Frag) (fd : FuncData) (ps : List Str) (n : Nat) (ks : List Str) (perm : List Nat) : Prop :=
  ∀ (s : Shared) (us ws : List Value), K.In s.heap → us.length = n → ws.length = ks.length → BindsTo s fd ⟨us, ks.zip ws⟩ (ps.zip (permL .none perm (us ++ ws)))
theorem map_rel {ix : Type} {f : ix → V} {g : ix → Value} (key : ∀ i, RelV (f i) (g i)) : ∀ p : List ix, Vals (p.map f) (p.map g)
  | [] => .nil
  | i :: p => .cons (key i) (map_rel key p)
theorem permL_rel {vs : List V} {us : List Value} (r : Vals vs us) (perm : List Nat) : Vals (permL .non perm vs) (permL .none perm us) := by
  unfold permL
  split
  · exact r
  · refine map_rel (fun i => ?_) _
    cases e : vs[i]? with
    | none => rw [List.getD_eq_getElem?_getD, List.getD_eq_getElem?_getD, e, Vals.none_of r e]; rfl
    | some v =>
      obtain ⟨u, e2, r2⟩ := r.get e
      rw [List.getD_eq_getElem?_getD, List.getD_eq_getElem?_getD, e, e2]; exact r2
theorem length_permL {α : Type} {z : α} {perm : List Nat} {xs ys : List α} : xs.length = ys.length → (permL z perm xs).length = (permL z perm ys).length := by
  intro h
  unfold permL
  split <;> simp [h]

/-- a call f(e, .., k = v, ..) -/
def tCallG (sp : Sp) (n m : Nat) (perm : List Nat) (E : L2.St → XK) (t tk : TA) : TE := fun σ H Q => t σ H fun vs H1 => tk σ H1 fun zs H2 => vs.length = n ∧ zs.length = m ∧ sp (permL .non perm (vs ++ zs)) H2 Q (E σ)
section
variable {X : Cx} {CX : CXT} {k n : Nat} {σ : L2.St} {f : Addr} {fd : FuncData} {ps ks : List Str} {perm : List Nat} {sp : Sp} {E : L2.St → XK} {x : Str} {p pos : Pos} {es : List Expr} {kws : List Keyword} {t tk : TA}
theorem run_fng {pins : List (Addr × Obj)} {σ : L2.St} {H : Hp} {s : Shared} {Q : VK} {us ws : List Value} {vs zs : List V} (F : FnG X.prog X.w X.K X.mg X.base CX k f fd ps sp) (room : Room k X.A) (gd : X.A.guards = some []) (kb : KwB X.K fd ps n ks perm) (out : PassesAt CX X σ (E σ))
    (I : Inv X pins σ H s) (r : Vals vs us) (rz : Vals zs ws) (l1 : vs.length = n) (l2 : zs.length = ks.length) (wish : sp (permL .non perm (vs ++ zs)) H Q (E σ)) : wpAny (model X.prog X.w) X.A (call (.ref f) us (ks.zip ws)) (EP X pins σ Q) X.xe s := by
  have b := kb s us ws I.kIn (r.length ▸ l1) (rz.length ▸ l2)
  refine wpAny_call (codeAny_mono (F.run X.A X.stack s H ⟨us, ks.zip ws⟩ (permL .none perm (us ++ ws)) _ Q (E σ) room gd I.env0 b (permL_rel (r.append rz) perm) wish) fun res s' hq => ?_)
  cases res with
  | error e => exact out pins H s e s' I hq
  | ok fl => cases fl with
    | ret u => exact I.after hq
    | _ => exact hq.elim
def plainE : Expr → Bool
  | .Starred .. => false
  | _ => true
theorem plain_star {e : Expr} {es : List Expr} {env : Env} (h : plainE e = true) : starEach (e :: es) env = (false, eval e env) :: starEach es env := by
  cases e <;> first | rfl | simp [plainE] at h
theorem plain_any {pos : Pos} {env : Env} : ∀ {es : List Expr}, es.all plainE = true → (backTo pos (starEach es env)).any (·.1) = false
  | [], _ => rfl
  | e :: es, h => by
    simp only [List.all_cons, Bool.and_eq_true] at h
    rw [plain_star h.1]
    show (false || (backTo pos (starEach es env)).any (·.1)) = false
    rw [plain_any h.2]; rfl
/-- keywords' names, all written -/
def kwNames (kws : List Keyword) : List Str := kws.filterMap fun k => match k with | ⟨some n, _, _⟩ => some n | _ => none
def kwAll (kws : List Keyword) : Bool := kws.all fun k => match k with | ⟨some _, _, _⟩ => true | _ => false
theorem kw_facts {pos : Pos} {env : Env} : ∀ {kws : List Keyword}, kwAll kws = true → (backToKw pos (keywordEach kws env)).all (·.1.isSome) = true ∧ (backToKw pos (keywordEach kws env)).any (·.1.isNone) = false ∧ (backToKw pos (keywordEach kws env)).filterMap (·.1) = kwNames kws
  | [], _ => ⟨rfl, rfl, rfl⟩
  | ⟨nm, v, q⟩ :: kws, h => by
    simp only [kwAll, List.all_cons, Bool.and_eq_true] at h
    obtain ⟨i1, i2, i3⟩ := kw_facts (pos := pos) (env := env) (kws := kws) h.2
    cases nm with
    | none => simp at h
    | some n =>
      refine ⟨?_, ?_, ?_⟩
      · show (true && (backToKw pos (keywordEach kws env)).all (·.1.isSome)) = true
        rw [i1]; rfl
      · show (false || (backToKw pos (keywordEach kws env)).any (·.1.isNone)) = false
        rw [i2]; rfl
      · show n :: (backToKw pos (keywordEach kws env)).filterMap (·.1) = _
        rw [i3]; rfl
theorem pe_callG (F : FnG X.prog X.w X.K X.mg X.base CX k f fd ps sp) (room : Room k X.A) (gd : X.A.guards = some []) (gl : Gl X x) (hm : X.mg x = some (.ref f)) (hk : PySem.W.keepIn X.K (.ref f) = true) (kb : KwB X.K fd ps n ks perm) (out : ∀ σ, PassesAt CX X σ (E σ))
    (ha : PA X es t) (hw : PK X kws tk) (pl : es.all plainE = true) (ka : kwAll kws = true) (kn : kwNames kws = ks) (h0 : es = [] → ∀ σ H Q, t σ H Q → Q [] H) (hd : (x == ("__debug__" : Str)) = false) : PE X (.Call (.Name x p) es kws pos) (tCallG sp n ks.length perm E t tk) := by
  refine ⟨fun pins s σ H Q I h => ?_⟩
  obtain ⟨f1, f2, f3⟩ := kw_facts (pos := pos) (env := X.env) ka
  refine wpAny_Call_Name_kw (ld_glob I gl hm ?_ hd)
  cases es with
  | nil =>
    refine PySem.W.callWith_KW0 (h₀ := X.base) I.ok.mod.kin hk f1 ?_ (by rw [f2]; rfl)
    refine thn (hw.run pos pins s σ H _ I (h0 rfl σ H _ h)) fun ws s2 ⟨zs, H2, I2, rz, l1, l2, q2⟩ => ⟨I2.kIn, ?_⟩
    rw [f3, kn]
    exact run_fng F room gd kb (out σ) I2 .nil rz l1 l2 q2
  | cons e es =>
    simp only [List.all_cons, Bool.and_eq_true] at pl
    refine PySem.W.callWith_KW (h₀ := X.base) I.ok.mod.kin hk f1 (thn (ha.run pos pins s σ H _ I h) fun us s1 ⟨vs, H1, I1, r, q⟩ => ?_) (by rw [f2, plain_any (by simp [pl])]; rfl) (plain_star pl.1)
    refine thn (hw.run pos pins s1 σ H1 _ I1 q) fun ws s2 ⟨zs, H2, I2, rz, l1, l2, q2⟩ => ⟨I2.kIn, ?_⟩
    rw [f3, kn]
    exact run_fng F room gd kb (out σ) I2 r rz l1 l2 q2
end
end Mp

/-! What an evaluation promises; the forms of expressions. -/
namespace Mp
open PySem PySem.Spec PyProof.Rows L2

/-- the module's names, the exceptions' fields, the wish about exceptions -/
structure Wk where
  mg : Mg
  W : WX
abbrev Rl (α β : Type) := (Addr → Prop) → Hp → List Addr → Cs → α → β → Prop
def rlD (ω : Wk) : Rl D V := fun R H c M d v => Rp ω.mg H (Lv R c M) c d v
def rlL (ω : Wk) : Rl (List D) (List V) := fun R H c M d v => RpL ω.mg H (Lv R c M) c d v
def rlB : Rl Bool Bool := fun _ _ _ _ a b => a = b
def rlO : Rl (Option Int) (Option Int) := fun _ _ _ _ a b => a = b

section
variable {α β γ δ : Type} {ω : Wk} {rel : Rl α β} {rel2 : Rl γ δ} {R : Addr → Prop} {H : Hp} {c : List Addr} {M : Cs} {σ : L2.St}
def Post (ω : Wk) (rel : Rl α β) (R : Addr → Prop) (H : Hp) (c : List Addr) (M : Cs) (σ : L2.St) (Q : β → Hp → Prop) : Res α → Prop
  | .ok a M' => ∀ b H' c', Aft ω.mg R H c M M' H' c' → rel R H' c' M' a b → Q b H'
  | .ex e M' => ∀ cls dd H' c', Aft ω.mg R H c M M' H' c' → ExR ω.mg H' (Lv R c' M') c' cls dd e → ω.W cls dd σ H'
  | .bad => False
theorem Aft.trans {mg : Mg} {H1 H2 : Hp} {c1 c2 : List Addr} {M1 M2 : Cs} (a : Aft mg R H c M M1 H1 c1) (b : Aft mg R H1 c1 M1 M2 H2 c2) : Aft mg R H c M M2 H2 c2 := ⟨a.1.trans b.1, b.2⟩
theorem Aft.refl {mg : Mg} (m : CM mg R H c M) : Aft mg R H c M M H c := ⟨Stp.refl _ _ _ _, m⟩
theorem Post.shift {Q : β → Hp → Prop} {H1 : Hp} {c1 : List Addr} {M1 : Cs} (a : Aft ω.mg R H c M M1 H1 c1) : ∀ {r : Res α}, Post ω rel R H c M σ Q r → Post ω rel R H1 c1 M1 σ Q r
  | .ok _ _, h => fun b H' c' a2 r => h b H' c' (a.trans a2) r
  | .ex _ _, h => fun cls dd H' c' a2 r => h cls dd H' c' (a.trans a2) r
  | .bad, h => h.elim
theorem Post.bind {Q : δ → Hp → Prop} {Q1 : β → Hp → Prop} {g : α → Cs → Res γ} : ∀ {x : Res α}, Post ω rel2 R H c M σ Q (x.bind g) →
    (∀ a M1 b H1 c1, Aft ω.mg R H c M M1 H1 c1 → rel R H1 c1 M1 a b → Post ω rel2 R H1 c1 M1 σ Q (g a M1) → Q1 b H1) → Post ω rel R H c M σ Q1 x
  | .ok a M1, h, k => fun b H1 c1 a1 r => k a M1 b H1 c1 a1 r (h.shift a1)
  | .ex _ _, h, _ => h
  | .bad, h, _ => h.elim
theorem Post.mono {Q Q1 : β → Hp → Prop} : ∀ {x : Res α}, Post ω rel R H c M σ Q x → (∀ b H1, Q b H1 → Q1 b H1) → Post ω rel R H c M σ Q1 x
  | .ok _ _, h, k => fun b H1 c1 a1 r => k b H1 (h b H1 c1 a1 r)
  | .ex _ _, h, _ => h
  | .bad, h, _ => h.elim
theorem Post.opt {Q : β → Hp → Prop} {o : Option α} (h : Post ω rel R H c M σ Q (opt o M)) : ∃ d, o = some d ∧ ∀ b H' c', Aft ω.mg R H c M M H' c' → rel R H' c' M d b → Q b H' := by
  cases o with
  | none => exact h.elim
  | some d => exact ⟨d, rfl, h⟩
def Snd (ω : Wk) (rel : Rl α β) (f : En → Cs → Res α) : L2.St → Hp → (β → Hp → Prop) → Prop := fun σ H Q => ∃ R c σd M, CM ω.mg R H c M ∧ RpS ω.mg H (Lv R c M) c σd σ ∧ Post ω rel R H c M σ Q (f σd M)
end
abbrev tE (ω : Wk) (f : En → Cs → Res D) : TE := Snd ω (rlD ω) f
abbrev tB (ω : Wk) (f : En → Cs → Res Bool) : TT := Snd ω rlB f
abbrev tA (ω : Wk) (f : En → Cs → Res (List D)) : TA := Snd ω (rlL ω) f
theorem _root_.L2.PE.imp {X : Cx} {e : Expr} {t u : TE} (h : PE X e t) (k : ∀ σ H Q, u σ H Q → t σ H Q) : PE X e u := ⟨fun pins s σ H Q I q => h.run pins s σ H Q I (k σ H Q q)⟩
theorem _root_.L2.PT.imp {X : Cx} {e : Expr} {t u : TT} (h : PT X e t) (k : ∀ σ H Q, u σ H Q → t σ H Q) : PT X e u := ⟨fun pins s σ H Q I q => h.run pins s σ H Q I (k σ H Q q)⟩
theorem _root_.L2.PA.imp {X : Cx} {e : List Expr} {t u : TA} (h : PA X e t) (k : ∀ σ H Q, u σ H Q → t σ H Q) : PA X e u := ⟨fun pos pins s σ H Q I q => h.run pos pins s σ H Q I (k σ H Q q)⟩

section
variable {ω : Wk} {C : Cl} {σ : L2.St} {H : Hp} {Q : VK}
theorem Post.out {R : Addr → Prop} {c : List Addr} {M : Cs} {d : D} (h : ∀ b H', ∀ c', Aft ω.mg R H c M M H' c' → rlD ω R H' c' M d b → Q b H') : Out ω.mg R c M d H Q := fun w H' a r => h w H' c a r

/-! ### forms -/
theorem s_var {i : Nat} (h : tE ω (evE C (.var i)) σ H Q) : tVar i σ H Q := by
  obtain ⟨R, c, σd, M, m, rs, h⟩ := h
  rw [evE] at h
  split at h
  · rename_i d e
    obtain ⟨v, e2, r⟩ := rs.2 i d e
    exact ⟨v, e2, h v H c (Aft.refl m) r⟩
  · exact h.elim
theorem s_con {d : D} {v : V} (hv : ∀ mg H U c, Rp mg H U c d v) (h : tE ω (evE C (.con d)) σ H Q) : tC v σ H Q := by
  obtain ⟨R, c, σd, M, m, rs, h⟩ := h
  rw [evE] at h
  exact h v H c (Aft.refl m) (hv _ _ _ _)
theorem s_gl {x : Str} {d : D} {v : V} (hv : ∀ mg H U c, Rp mg H U c d v) (h : tE ω (evE C (.gl x d)) σ H Q) : tC v σ H Q := by
  obtain ⟨R, c, σd, M, m, rs, h⟩ := h
  rw [evE] at h
  exact h v H c (Aft.refl m) (hv _ _ _ _)
theorem s_bin {o : Operator} {a b : ME} (h : tE ω (evE C (.bin o a b)) σ H Q) : tOp (rO2 ω.mg (binD o)) (tE ω (evE C a)) (tE ω (evE C b)) σ H Q := by
  obtain ⟨R, c, σd, M, m, rs, h⟩ := h
  rw [evE] at h
  refine ⟨R, c, σd, M, m, rs, h.bind fun x M1 v H1 c1 a1 r1 h1 => ⟨R, c1, σd, M1, a1.2, rs.mono a1.1.gr, h1.bind fun y M2 u H2 c2 a2 r2 h2 => ?_⟩⟩
  obtain ⟨d, e, h3⟩ := h2.opt
  simp only [Option.bind_eq_some_iff] at e
  obtain ⟨x', e1, y', e2, e3⟩ := e
  exact ⟨R, c2, M2, x', y', d, a2.2, rd_ok a2.2 (r1.mono a2.1.gr) e1, rd_ok a2.2 r2 e2, e3, Post.out h3⟩
theorem s_cmp {o : CmpOp} {a b : ME} (h : tE ω (evE C (.cmp o a b)) σ H Q) : tOp (rO2 ω.mg (fun x y => (cmpD o x y).map .bl)) (tE ω (evE C a)) (tE ω (evE C b)) σ H Q := by
  obtain ⟨R, c, σd, M, m, rs, h⟩ := h
  rw [evE] at h
  refine ⟨R, c, σd, M, m, rs, h.bind fun x M1 v H1 c1 a1 r1 h1 => ⟨R, c1, σd, M1, a1.2, rs.mono a1.1.gr, h1.bind fun y M2 u H2 c2 a2 r2 h2 => ?_⟩⟩
  obtain ⟨d, e, h3⟩ := h2.opt
  simp only [Option.bind_eq_some_iff] at e
  obtain ⟨x', e1, y', e2, e3⟩ := e
  exact ⟨R, c2, M2, x', y', d, a2.2, rd_ok a2.2 (r1.mono a2.1.gr) e1, rd_ok a2.2 r2 e2, e3, Post.out h3⟩
theorem s_idx {a b : ME} (h : tE ω (evE C (.idx a b)) σ H Q) : tOp (rO2 ω.mg idxD) (tE ω (evE C a)) (tE ω (evE C b)) σ H Q := by
  obtain ⟨R, c, σd, M, m, rs, h⟩ := h
  rw [evE] at h
  refine ⟨R, c, σd, M, m, rs, h.bind fun x M1 v H1 c1 a1 r1 h1 => ⟨R, c1, σd, M1, a1.2, rs.mono a1.1.gr, h1.bind fun y M2 u H2 c2 a2 r2 h2 => ?_⟩⟩
  obtain ⟨d, e, h3⟩ := h2.opt
  simp only [Option.bind_eq_some_iff] at e
  obtain ⟨x', e1, y', e2, e3⟩ := e
  exact ⟨R, c2, M2, x', y', d, a2.2, rd_ok a2.2 (r1.mono a2.1.gr) e1, rd_ok a2.2 r2 e2, e3, Post.out h3⟩
theorem s_neg {a : ME} (h : tE ω (evE C (.neg a)) σ H Q) : tUn (rU fun i => .int (-i)) (tE ω (evE C a)) σ H Q := by
  obtain ⟨R, c, σd, M, m, rs, h⟩ := h
  rw [evE] at h
  refine ⟨R, c, σd, M, m, rs, h.bind fun x M1 v H1 c1 a1 r1 h1 => ?_⟩
  split at h1
  · rename_i i
    simp only [rlD, Rp] at r1
    exact ⟨i, r1, h1 _ H1 c1 (Aft.refl a1.2) (by simp [rlD, Rp])⟩
  · exact h1.elim
theorem truth_ok {K : PySem.W.Frag} {mg : Mg} {R : Addr → Prop} {c : List Addr} {M : Cs} {x : D} {v : V} {k : Bool} (m : CM mg R H c M) (r : Rp mg H (Lv R c M) c x v) (e : (rd M x).bind truthD = some k) : TruV K v H k := by
  simp only [Option.bind_eq_some_iff] at e
  obtain ⟨x', e1, e2⟩ := e
  have r' := rd_ok m r e1
  cases x' with
  | non => rw [rr_non] at r'; subst r'; simp [truthD] at e2; simp [TruV, e2]
  | bl b => rw [rr_bl] at r'; subst r'; simp [truthD] at e2; simp [TruV, e2]
  | int b => rw [rr_int] at r'; subst r'; simp [truthD] at e2; simp [TruV, e2]
  | str y =>
    rw [rr_str] at r'; subst r'
    simp only [truthD] at e2
    split at e2
    · rename_i z
      have e3 := Option.some.inj e2
      refine ⟨z, ?_⟩
      rw [← e3]
      by_cases hy : y.length = 0
      · simp [hy]
      · have : (y.length : Int) ≠ 0 := by omega
        have p : (y.length == 0) = false := beq_false_of_ne hy
        have q : ((y.length : Int) == 0) = false := beq_false_of_ne this
        simp [bne, p, q]
    · cases e2
  | tup xs =>
    obtain ⟨a, vs, rfl, h1, _, h3⟩ := rr_tup.mp r'
    simp [truthD] at e2
    have l := h3.len
    refine .inr (.inl ⟨vs, SqT.of h1, ?_⟩)
    cases vs <;> cases xs <;> simp at l e2 ⊢ <;> first | exact e2 | exact e2.symm
  | lst xs =>
    obtain ⟨a, vs, rfl, h1, h3⟩ := rr_lst.mp r'
    simp [truthD] at e2
    have l := h3.len
    refine .inl ⟨vs, SqL.of h1, ?_⟩
    cases vs <;> cases xs <;> simp at l e2 ⊢ <;> first | exact e2 | exact e2.symm
  | dct _ _ _ => simp [truthD] at e2
  | cell _ => simp [truthD] at e2
  | fn _ => simp [truthD] at e2
  | exc _ _ => simp [truthD] at e2
  | scr _ => simp [truthD] at e2
theorem TruV.one {K : PySem.W.Frag} {v : V} {k : Bool} (h : TruV K v H k) {Q : Bool → Hp → Prop} (q : Q k H) : ∃ k, TruV K v H k ∧ Q k H := ⟨k, h, q⟩
theorem s_not {K : PySem.W.Frag} {a : ME} (h : tE ω (evE C (.not (.tru a))) σ H Q) : tNotT K (tE ω (evE C a)) σ H Q := by
  obtain ⟨R, c, σd, M, m, rs, h⟩ := h
  rw [evE, evB, bind_assoc] at h
  refine ⟨R, c, σd, M, m, rs, h.bind fun x M1 v H1 c1 a1 r1 h1 => ?_⟩
  cases e : (rd M1 x).bind truthD with
  | none => rw [e] at h1; exact h1.elim
  | some k =>
    rw [e] at h1
    exact ⟨k, truth_ok a1.2 r1 e, h1 _ H1 c1 (Aft.refl a1.2) (by simp [rlD, Rp])⟩
theorem s_and {K : PySem.W.Frag} {a b : ME} (h : tE ω (evE C (.and a b)) σ H Q) : tAndT K (tE ω (evE C a)) (tE ω (evE C b)) σ H Q := by
  obtain ⟨R, c, σd, M, m, rs, h⟩ := h
  rw [evE] at h
  refine ⟨R, c, σd, M, m, rs, h.bind fun x M1 v H1 c1 a1 r1 h1 => ?_⟩
  cases e : (rd M1 x).bind truthD with
  | none => rw [e] at h1; exact h1.elim
  | some k =>
    rw [e] at h1
    refine ⟨k, truth_ok a1.2 r1 e, ?_⟩
    cases k with
    | true => rw [if_pos rfl]; exact ⟨R, c1, σd, M1, a1.2, rs.mono a1.1.gr, h1⟩
    | false => rw [if_neg (by decide)]; exact h1 _ H1 c1 (Aft.refl a1.2) r1
theorem s_or {K : PySem.W.Frag} {a b : ME} (h : tE ω (evE C (.or a b)) σ H Q) : tOrT K (tE ω (evE C a)) (tE ω (evE C b)) σ H Q := by
  obtain ⟨R, c, σd, M, m, rs, h⟩ := h
  rw [evE] at h
  refine ⟨R, c, σd, M, m, rs, h.bind fun x M1 v H1 c1 a1 r1 h1 => ?_⟩
  cases e : (rd M1 x).bind truthD with
  | none => rw [e] at h1; exact h1.elim
  | some k =>
    rw [e] at h1
    refine ⟨k, truth_ok a1.2 r1 e, ?_⟩
    cases k with
    | false => rw [if_neg (by decide)]; exact ⟨R, c1, σd, M1, a1.2, rs.mono a1.1.gr, h1⟩
    | true => rw [if_pos rfl]; exact h1 _ H1 c1 (Aft.refl a1.2) r1
theorem s_chain {o p : CmpOp} {a b d : ME} (h : tE ω (evE C (.chain o p a b d)) σ H Q) :
    tChain (rO2 ω.mg (fun x y => (cmpD o x y).map .bl)) (rO2 ω.mg (fun x y => (cmpD p x y).map .bl)) (tE ω (evE C a)) (tE ω (evE C b)) (tE ω (evE C d)) σ H Q := by
  obtain ⟨R, c, σd, M, m, rs, h⟩ := h
  rw [evE] at h
  refine ⟨R, c, σd, M, m, rs, h.bind fun x M1 v H1 c1 a1 r1 h1 => ⟨R, c1, σd, M1, a1.2, rs.mono a1.1.gr, h1.bind fun y M2 u H2 c2 a2 r2 h2 => ?_⟩⟩
  cases e : (rd M2 x).bind fun x' => (rd M2 y).bind fun y' => cmpD o x' y' with
  | none => rw [e] at h2; exact h2.elim
  | some k =>
    rw [e] at h2
    simp only [Option.bind_eq_some_iff] at e
    obtain ⟨x', e1, y', e2, e3⟩ := e
    refine ⟨R, c2, M2, x', y', .bl k, a2.2, rd_ok a2.2 (r1.mono a2.1.gr) e1, rd_ok a2.2 r2 e2, by show Option.map D.bl (cmpD o x' y') = _; rw [e3]; rfl, fun z H3 a3 r3 => ?_⟩
    simp only [Rp] at r3
    refine ⟨k, r3, ?_⟩
    cases k with
    | false => rw [if_neg (by decide)]; exact h2 _ H3 c2 a3 (by simp [rlD, Rp])
    | true =>
      rw [if_pos rfl]
      have rs3 := (rs.mono a1.1.gr).mono (a2.1.trans a3.1).gr
      refine ⟨R, c2, σd, M2, a3.2, rs3, (h2.shift a3).bind fun z M4 w H4 c4 a4 r4 h4 => ?_⟩
      obtain ⟨d, e, h5⟩ := h4.opt
      simp only [Option.bind_eq_some_iff] at e
      obtain ⟨y'', g1, z', g2, g3⟩ := e
      exact ⟨R, c4, M4, y'', z', d, a4.2, rd_ok a4.2 (r2.mono (a3.1.trans a4.1).gr) g1, rd_ok a4.2 r4 g2, g3, Post.out h5⟩
theorem s_ite {q : MB} {a b : ME} (h : tE ω (evE C (.ite q a b)) σ H Q) : tIf (tB ω (evB C q)) (tE ω (evE C a)) (tE ω (evE C b)) σ H Q := by
  obtain ⟨R, c, σd, M, m, rs, h⟩ := h
  rw [evE] at h
  refine ⟨R, c, σd, M, m, rs, h.bind fun x M1 v H1 c1 a1 r1 h1 => ?_⟩
  subst r1
  cases x with
  | true => rw [if_pos rfl] at h1 ⊢; exact ⟨R, c1, σd, M1, a1.2, rs.mono a1.1.gr, h1⟩
  | false => rw [if_neg (by decide)] at h1 ⊢; exact ⟨R, c1, σd, M1, a1.2, rs.mono a1.1.gr, h1⟩

/-! ### rows of expressions -/
theorem s_nil {Q : List V → Hp → Prop} (h : tA ω (evEs C .nil) σ H Q) : tNil σ H Q := by
  obtain ⟨R, c, σd, M, m, rs, h⟩ := h
  rw [evEs] at h
  exact h [] H c (Aft.refl m) (by simp [rlL, RpL])
theorem s_cons {a : ME} {r : MEs} {Q : List V → Hp → Prop} (h : tA ω (evEs C (.cons a r)) σ H Q) : tCons (tE ω (evE C a)) (tA ω (evEs C r)) σ H Q := by
  obtain ⟨R, c, σd, M, m, rs, h⟩ := h
  rw [evEs] at h
  refine ⟨R, c, σd, M, m, rs, h.bind fun x M1 v H1 c1 a1 r1 h1 => ⟨R, c1, σd, M1, a1.2, rs.mono a1.1.gr, h1.bind fun y M2 u H2 c2 a2 r2 h2 => ?_⟩⟩
  exact h2 _ H2 c2 (Aft.refl a2.2) (RpL.cons (r1.mono a2.1.gr) r2)
theorem s_tup {es : MEs} (h : tE ω (evE C (.tup es)) σ H Q) : tTup (tA ω (evEs C es)) σ H Q := by
  obtain ⟨R, c, σd, M, m, rs, h⟩ := h
  rw [evE] at h
  refine ⟨R, c, σd, M, m, rs, h.bind fun x M1 v H1 c1 a1 r1 h1 => ?_⟩
  split at h1
  · rename_i z
    refine ⟨by rw [r1.len]; exact z, fun p hp => (Out.tup a1.2 (Post.out (fun b H' c' => h1 b H' c')) r1 hp)⟩
  · exact h1.elim
end
end Mp

/-! New objects; cells. -/
namespace Mp
open PySem PySem.Spec PyProof.Rows L2

/-- the object o holds d -/
def NwO (mg : Mg) (H : Hp) (U : Addr → Prop) (c : List Addr) (o : HO) : D → Prop
  | .lst ds => ∃ vs, o = .lst vs ∧ RpL mg H U c ds vs
  | .dct t ks us => (t = false ∧ ∃ kvs : List (Key × V), o = .dK kvs ∧ ks = kvs.map (fun p => keyD p.1) ∧ RpL mg H U c us (kvs.map (·.2))) ∨
      (t = true ∧ ∃ kvs : List (List Key × V), o = .dT kvs ∧ ks = kvs.map (fun p => keyTD p.1) ∧ RpL mg H U c us (kvs.map (·.2)))
  | _ => False
def rlN (ω : Wk) : Rl D (Addr × HO) := fun R H c M d po => NwO ω.mg H (Lv R c M) c po.2 d
def isNw : D → Bool
  | .lst _ => true
  | .dct _ _ _ => true
  | _ => false
def nwD (d : D) (M : Cs) : Res D := if isNw d then .ok d M else .bad
/-- the result is a new object -/
def tF (ω : Wk) (f : En → Cs → Res D) : TE := fun σ H Q => Snd ω (rlN ω) (fun σd M => (f σd M).bind nwD) σ H fun po H1 => H1 po.1 = none → Q (.ref po.1) (upd H1 po.1 po.2)
section
variable {ω : Wk} {C : Cl} {σ : L2.St} {H : Hp} {Q : VK} {R : Addr → Prop} {c : List Addr} {M : Cs} {p : Addr} {o : HO} {d : D}
theorem NwO.mono {mg : Mg} {H' : Hp} {U U' : Addr → Prop} {c' : List Addr} (g : Gr H U c H' U' c') : ∀ {d : D}, NwO mg H U c o d → NwO mg H' U' c' o d
  | .lst ds, h => by
    obtain ⟨vs, e, r⟩ := h
    exact ⟨vs, e, r.mono g⟩
  | .dct t ks us, h => by
    rcases h with ⟨e, kvs, e1, e2, r⟩ | ⟨e, kvs, e1, e2, r⟩
    · exact .inl ⟨e, kvs, e1, e2, r.mono g⟩
    · exact .inr ⟨e, kvs, e1, e2, r.mono g⟩
  | .non, h => h.elim
  | .bl _, h => h.elim
  | .int _, h => h.elim
  | .str _, h => h.elim
  | .tup _, h => h.elim
  | .cell _, h => h.elim
  | .fn _, h => h.elim
  | .exc _ _, h => h.elim
  | .scr _, h => h.elim
theorem NwO.rp {mg : Mg} (m : CM mg R H c M) (hp : H p = none) (h : NwO mg H (Lv R c M) c o d) : Rp mg (upd H p o) (Lv R c M) c d (.ref p) := by
  have g := (Stp.new (o := o) m hp).gr
  cases d with
  | lst ds =>
    obtain ⟨vs, rfl, r⟩ := h
    simp only [Rp]
    exact ⟨p, vs, rfl, upd_same, m.fresh hp, r.mono g⟩
  | dct t ks us =>
    simp only [Rp]
    refine ⟨p, rfl, m.fresh hp, ?_⟩
    rcases h with ⟨e, kvs, rfl, e2, r⟩ | ⟨e, kvs, rfl, e2, r⟩
    · exact .inl ⟨e, kvs, upd_same, e2, r.mono g⟩
    · exact .inr ⟨e, kvs, upd_same, e2, r.mono g⟩
  | _ => exact h.elim
theorem s_fresh {f : En → Cs → Res D} (hf : ∀ σd M d M1, f σd M = .ok d M1 → isNw d = true) (h : tE ω f σ H Q) : tF ω f σ H Q := by
  obtain ⟨R, c, σd, M, m, rs, h⟩ := h
  refine ⟨R, c, σd, M, m, rs, ?_⟩
  dsimp only
  cases e : f σd M with
  | bad => rw [e] at h; exact h.elim
  | ex x M1 => rw [e] at h; exact h
  | ok d M1 =>
    rw [e] at h
    rw [ok_bind, nwD, if_pos (hf _ _ _ _ e)]
    intro po H1 c1 a r hp
    exact h _ _ c1 (a.trans ⟨Stp.new a.2 hp, a.2.new hp⟩) (r.rp a.2 hp)
theorem live_app {n : Nat} {d : D} : live (M ++ [some d]) n ↔ live M n ∨ n = M.length := by
  unfold live
  constructor
  · rintro ⟨x, e⟩
    rcases Nat.lt_trichotomy n M.length with q | q | q
    · rw [List.getElem?_append_left q] at e; exact .inl ⟨x, e⟩
    · exact .inr q
    · rw [List.getElem?_append_right (by omega), List.getElem?_eq_none (by simp; omega)] at e; cases e
  · rintro (⟨x, e⟩ | q)
    · exact ⟨x, by rw [List.getElem?_append_left (List.getElem?_eq_some_iff.mp e).1]; exact e⟩
    · exact ⟨d, by subst q; simp⟩
theorem live_lt {n : Nat} (h : live M n) : n < M.length := let ⟨_, e⟩ := h; (List.getElem?_eq_some_iff.mp e).1
theorem CM.grow {mg : Mg} (m : CM mg R H c M) (hp : H p = none) (h : NwO mg H (Lv R c M) c o d) (hf : d.free 0 = true) : Aft mg R H c M (M ++ [some d]) (upd H p o) (c ++ [p]) := by
  have cl : ∀ n, live M n → (c ++ [p])[n]? = c[n]? := fun n l => List.getElem?_append_left (by rw [m.len]; exact live_lt l)
  have cz : (c ++ [p])[M.length]? = some p := by rw [← m.len]; simp
  have lv : ∀ a o', H a = some o' → ¬ Lv R c M a → ¬ Lv R (c ++ [p]) (M ++ [some d]) a := fun a o' e n q => by
    rcases q with q | ⟨k, l, e2⟩
    · exact n (.inl q)
    · rcases live_app.mp l with l | rfl
      · rw [cl k l] at e2; exact n (.inr ⟨k, l, e2⟩)
      · rw [cz] at e2; cases e2; rw [hp] at e; cases e
  have st : Stp R H c M (upd H p o) (c ++ [p]) (M ++ [some d]) := ⟨fun a o' e n => ⟨by rw [upd_ne (ne_of_none e hp)]; exact e, lv a o' e n⟩, fun n hn => List.getElem?_append_left hn, (Stp.new (o := o) m hp).res⟩
  have pc : ∀ n a, live M n → c[n]? = some a → a ≠ p := fun n a ⟨x, e⟩ hc z => by
    obtain ⟨b, e1, e2⟩ := m.obj n x e
    rw [hc] at e1; cases e1
    obtain ⟨o', e3⟩ := e2.at
    rw [z, hp] at e3; cases e3
  refine ⟨st, ?_, ?_, ?_, (m.new hp).there, ?_, ?_⟩
  · simp [m.len]
  · intro n k a l1 l2 e1 e2
    rcases live_app.mp l1 with l1 | rfl <;> rcases live_app.mp l2 with l2 | rfl
    · rw [cl _ l1] at e1; rw [cl _ l2] at e2; exact m.inj n k a l1 l2 e1 e2
    · rw [cl _ l1] at e1; rw [cz] at e2; cases e2; exact (pc _ _ l1 e1 rfl).elim
    · rw [cl _ l2] at e2; rw [cz] at e1; cases e1; exact (pc _ _ l2 e2 rfl).elim
    · rfl
  · intro n a l e r
    rcases live_app.mp l with l | rfl
    · rw [cl _ l] at e; exact m.nres n a l e r
    · rw [cz] at e; cases e
      obtain ⟨o', e1, _⟩ := m.there _ r
      rw [hp] at e1; cases e1
  · intro n x e
    rcases live_app.mp ⟨x, e⟩ with l | rfl
    · rw [List.getElem?_append_left (live_lt l)] at e
      obtain ⟨a, e1, e2⟩ := m.obj n x e
      exact ⟨a, by rw [cl _ l]; exact e1, e2.mono st.gr (upd_ne (pc _ _ l e1))⟩
    · simp at e; subst e
      refine ⟨p, cz, ?_⟩
      have h' := h.mono st.gr
      cases d with
      | lst ds => obtain ⟨vs, rfl, r⟩ := h'; exact ⟨vs, upd_same, r⟩
      | dct t ks us =>
        rcases h' with ⟨e, kvs, rfl, e2, r⟩ | ⟨e, kvs, rfl, e2, r⟩
        · exact .inl ⟨e, kvs, upd_same, e2, r⟩
        · exact .inr ⟨e, kvs, upd_same, e2, r⟩
      | _ => exact h'.elim
  · intro n x e
    rcases live_app.mp ⟨x, e⟩ with l | rfl
    · rw [List.getElem?_append_left (live_lt l)] at e
      exact m.fre n x e
    · simp at e; subst e; exact hf
theorem s_new {e : ME} (h : tE ω (evE C (.new e)) σ H Q) : tF ω (evE C e) σ H Q := by
  obtain ⟨R, c, σd, M, m, rs, h⟩ := h
  have e0 : ((evE C e σd M).bind nwD).bind (fun x M1 => if frees 0 [x] then .ok (.cell M1.length) (M1 ++ [some x]) else .bad) = evE C (.new e) σd M := by
    rw [evE, bind_assoc]
    cases evE C e σd M with
    | ok x M1 => cases x <;> simp [nwD, isNw, frees, D.free] <;> rfl
    | _ => rfl
  rw [← e0] at h
  refine ⟨R, c, σd, M, m, rs, h.bind fun x M1 po H1 c1 a1 r1 h1 hp => ?_⟩
  have key : x.free 0 = true → Post ω (rlD ω) R H1 c1 M1 σ Q (.ok (.cell M1.length) (M1 ++ [some x])) → Q (.ref po.1) (upd H1 po.1 po.2) := fun hf h1 => by
    refine h1 _ _ (c1 ++ [po.1]) (a1.2.grow hp r1 hf) ?_
    simp only [rlD, Rp]
    exact ⟨_, rfl, by rw [← a1.2.len]; simp⟩
  split at h1
  · rename_i f; exact key (by simpa [frees] using f) h1
  · exact h1.elim
theorem s_frz {e : ME} (h : tE ω (evE C (.frz e)) σ H Q) : tE ω (evE C e) σ H Q := by
  obtain ⟨R, c, σd, M, m, rs, h⟩ := h
  rw [evE] at h
  refine ⟨R, c, σd, M, m, rs, h.bind fun x M1 v H1 c1 a1 r1 h1 => ?_⟩
  split at h1
  · rename_i n
    split at h1
    · rename_i d e
      refine h1 v H1 c1 a1.2.kill ?_
      have hn : M1[n]? = some (some d) := by
        simp only [rd] at e
        split at e
        · rename_i u he; simp at e; rw [he, e]
        · cases e
      simp only [rlD, Rp] at r1
      obtain ⟨a, rfl, hc⟩ := r1
      obtain ⟨b, e1, e2⟩ := a1.2.obj n d hn
      rw [hc] at e1; cases e1
      have nl : ¬ Lv R c1 (M1.set n none) a := fun q => by
        rcases q with q | ⟨k, l, ek⟩
        · exact a1.2.nres n a ⟨d, hn⟩ hc q
        · obtain ⟨l1, l2⟩ := live_kill.mp l
          exact l2 (a1.2.inj n k a ⟨d, hn⟩ l1 hc ek)
      have g := (a1.2.kill (n := n)).1.gr
      cases d <;> simp only [CellOk] at e2
      · obtain ⟨vs, e3, e4⟩ := e2
        simp only [rlD, Rp]
        exact ⟨a, vs, rfl, e3, nl, e4.mono g⟩
      · simp only [rlD, Rp]
        refine ⟨a, rfl, nl, ?_⟩
        rcases e2 with ⟨e, kvs, e1, e2, r⟩ | ⟨e, kvs, e1, e2, r⟩
        · exact .inl ⟨e, kvs, e1, e2, r.mono g⟩
        · exact .inr ⟨e, kvs, e1, e2, r.mono g⟩
    · exact h1.elim
  · exact h1 v H1 c1 (Aft.refl a1.2) r1
/-! ### forms that make a list -/
theorem s_lst {es : MEs} (h : tF ω (evE C (.lst es)) σ H Q) : tLst (tA ω (evEs C es)) σ H Q := by
  obtain ⟨R, c, σd, M, m, rs, h⟩ := h
  dsimp only at h
  rw [evE, bind_assoc] at h
  refine ⟨R, c, σd, M, m, rs, h.bind fun x M1 v H1 c1 a1 r1 h1 => ?_⟩
  split at h1
  · rename_i z
    exact ⟨by rw [r1.len]; exact z, fun p hp => h1 (p, .lst v) H1 c1 (Aft.refl a1.2) ⟨v, rfl, r1⟩ hp⟩
  · exact h1.elim
end
end Mp

/-! Operations that give a new list. -/
namespace Mp
open PySem PySem.Spec PyProof.Rows L2

/-- d, a list, in a new object -/
def OutF (mg : Mg) (R : Addr → Prop) (c : List Addr) (M : Cs) (d : D) (H : Hp) (Q : VK) : Prop := ∀ ds vs p, d = .lst ds → RpL mg H (Lv R c M) c ds vs → H p = none → Q (.ref p) (upd H p (.lst vs))
def rBF (mg : Mg) (g : List D → Option D) : List V → Hp → VK → Prop := fun vs H Q => ∃ R c M xs d, CM mg R H c M ∧ RrL mg H (Lv R c M) c xs vs ∧ g xs = some d ∧ OutF mg R c M d H Q
def rOF (mg : Mg) (g : D → D → Option D) : R2 := fun v u H Q => ∃ R c M x y d, CM mg R H c M ∧ Rr mg H (Lv R c M) c x v ∧ Rr mg H (Lv R c M) c y u ∧ g x y = some d ∧ OutF mg R c M d H Q
section
variable {X : Cx}
theorem bltF_sorted (hc : X.calm = true) (hu : X.A.units + 80 < cLine) : CallR X (.builtin "sorted") (rBF X.Mg sortedD) := by
  intro pins s σ H vs us Q I r h
  obtain ⟨R, c, M, xs, d, m, hx, e, q⟩ := h
  unfold sortedD at e
  split at e
  · split at e
    · rename_i ys k
      simp only [Option.some.injEq] at e; subst e
      simp only [sortOk, Bool.and_eq_true, decide_eq_true_eq] at k
      obtain ⟨k1, k2, k3⟩ := datOk_ok k.1
      obtain ⟨v, rfl, hv⟩ := hx.one
      obtain ⟨p, ws, rfl, h1, r1⟩ := hv
      obtain ⟨u, rfl, ru⟩ := vals1 r
      obtain rfl : u = Value.ref p := ru
      obtain ⟨its, rv, hl, hz⟩ := I.list (SqL.of (K := X.K) h1)
      refine PySem.W.sorted_dataAny (enc := D.py) hl.isList (each_rp r1 rv) (each_rd I r1 rv k1) k3.1 k3.2 k.2 (fun b hb => ?_) fun out hlen he => ?_
      · have hs := k1
        simp only [shs, List.all_eq_true] at hs
        have := sh_depth (hs b hb)
        omega
      · obtain ⟨zs, rz, rp⟩ := rp_each he
        obtain ⟨ep, he'⟩ := PyProof.Rows.sortedAll_at s.heap its out.toArray
        have fr : H (s.heap.objs.size + 1) = none := I.hok.fresh (Nat.le_succ _)
        refine ⟨.ref (s.heap.objs.size + 1), upd H (s.heap.objs.size + 1) (.lst zs), I.laid (t' := s.toks) (fun b o q => PyProof.Rows.sortedAll_old q) (Nat.le_succ _) ⟨?_, out, ep, rz, he'⟩, rfl, ?_⟩
        · rw [rz.length, hlen]; exact k.2
        · exact q _ zs _ rfl rp fr
    · cases e
  · split at e
    · rename_i ys k
      simp only [Option.some.injEq] at e; subst e
      simp only [sortOk, Bool.and_eq_true, decide_eq_true_eq] at k
      obtain ⟨k1, k2, k3⟩ := datOk_ok k.1
      obtain ⟨v, rfl, hv⟩ := hx.one
      obtain ⟨p, ws, rfl, h1, _, r1⟩ := rr_tup.mp hv
      obtain ⟨u, rfl, ru⟩ := vals1 r
      obtain rfl : u = Value.ref p := ru
      obtain ⟨its, rv, hl, hz⟩ := I.tuple (SqT.of (K := X.K) h1)
      obtain ⟨o, ho, hc, n, hd⟩ := (show s.heap.IsTuple p its.toArray from hl)
      have hz2 : its.toArray.size ≤ sizeLine := by rw [List.size_toArray, ← Paired.length rv]; exact hz
      refine PySem.W.sorted_collAny (enc := D.py) (fun A' Q' E' _ q' => wpAny_collect_seq p (.inr rfl) ho hc hd (fun h' k' => by have := q' h' s.toks k'; simpa using this) hz2) (each_rp r1 rv) (each_rd I r1 rv k1) k3.1 k3.2 k.2 (fun b hb => ?_) fun out h1 h2 hlen he q1 q2 q3 t2 => ?_
      · have hs := k1
        simp only [shs, List.all_eq_true] at hs
        have := sh_depth (hs b hb)
        omega
      · obtain ⟨zs, rz, rp⟩ := rp_each he
        obtain ⟨ep, he'⟩ := q3
        have I1 : Inv X pins σ H { s with heap := h1 } := I.kept (t' := s.toks) q1
        have fr : H h1.objs.size = none := I1.hok.fresh (Nat.le_refl _)
        refine ⟨.ref h1.objs.size, upd H h1.objs.size (.lst zs), I1.laid (t' := t2) q2 (Nat.le_refl _) ⟨?_, out, ep, rz, he'⟩, rfl, ?_⟩
        · rw [rz.length, hlen]; exact k.2
        · exact q _ zs _ rfl rp fr
    · cases e
  · split at e
    · rename_i ys us' k
      simp only [Option.some.injEq] at e; subst e
      simp only [sortOk, Bool.and_eq_true, decide_eq_true_eq] at k
      obtain ⟨k1, k2, k3⟩ := datOk_ok k.1
      obtain ⟨v, rfl, hv⟩ := hx.one
      obtain ⟨p, rfl, h2⟩ := hv
      obtain ⟨u, rfl, ru⟩ := vals1 r
      obtain rfl : u = Value.ref p := ru
      rcases h2 with ⟨z, _⟩ | ⟨_, kvs, e1, rfl, _⟩
      · cases z
      obtain ⟨bs, hk, co⟩ := collect_dT hc I e1
      have r1 := keyTs_rp (c := c) m hk
      have rv := vals_refs bs
      refine PySem.W.sorted_collAny (enc := D.py) co (each_rp r1 rv) (each_rd I r1 rv k1) k3.1 k3.2 k.2 (fun b hb => ?_) fun out h1 h2 hlen he q1 q2 q3 t2 => ?_
      · have hs := k1
        simp only [shs, List.all_eq_true] at hs
        have := sh_depth (hs b hb)
        omega
      · obtain ⟨zs, rz, rp⟩ := rp_each he
        obtain ⟨ep, he'⟩ := q3
        have I1 : Inv X pins σ H { s with heap := h1 } := I.kept (t' := s.toks) q1
        have fr : H h1.objs.size = none := I1.hok.fresh (Nat.le_refl _)
        refine ⟨.ref h1.objs.size, upd H h1.objs.size (.lst zs), I1.laid (t' := t2) q2 (Nat.le_refl _) ⟨?_, out, ep, rz, he'⟩, rfl, ?_⟩
        · rw [rz.length, hlen]; exact k.2
        · exact q _ zs _ rfl rp fr
    · cases e
  · cases e
theorem bltF_list (hc : X.calm = true) : CallR X (.type "list") (rBF X.Mg listD) := by
  intro pins s σ H vs us Q I r h
  obtain ⟨R, c, M, xs, d, m, hx, e, q⟩ := h
  unfold listD at e
  split at e
  · simp only [Option.some.injEq] at e; subst e
    obtain ⟨v, rfl, hv⟩ := hx.one
    obtain ⟨p, ws, rfl, h1, r1⟩ := hv
    exact call_list_of pins s σ H _ us Q I r ⟨p, ws, rfl, .inl (SqL.of h1), fun l hl => q _ _ _ rfl r1 hl⟩
  · simp only [Option.some.injEq] at e; subst e
    obtain ⟨v, rfl, hv⟩ := hx.one
    obtain ⟨p, ws, rfl, h1, _, r1⟩ := rr_tup.mp hv
    exact call_list_of pins s σ H _ us Q I r ⟨p, ws, rfl, .inr (SqT.of h1), fun l hl => q _ _ _ rfl r1 hl⟩
  · simp only [Option.some.injEq] at e; subst e
    obtain ⟨v, rfl, hv⟩ := hx.one
    obtain ⟨p, rfl, h2⟩ := hv
    rcases h2 with ⟨rfl, kvs, e1, rfl, _⟩ | ⟨rfl, kvs, e1, rfl, _⟩
    · exact call_list_dK hc pins s σ H _ us Q I r ⟨p, kvs, rfl, e1, fun l hl => q _ _ _ rfl (keys_rp kvs) hl⟩
    · exact call_list_dT hc pins s σ H _ us Q I r ⟨p, kvs, rfl, .inl e1, fun l bs hl hk => q _ _ _ rfl (keyTs_rp m hk) hl⟩
  · cases e
def addL (x y : D) : Option D := match x with
  | .lst _ => binD .Add x y
  | _ => none
def mulL (x y : D) : Option D := match x with
  | .lst _ => binD .Mult x y
  | _ => none
theorem opF_add : OpR X (binaryOp .Add) (rOF X.Mg addL) := by
  intro pins s σ H x y v u Q I rx ry h
  obtain ⟨R, c, M, a, b, d, m, ha, hb, e, q⟩ := h
  unfold addL at e
  split at e
  · cases b <;> simp only [binD] at e <;> try contradiction
    split at e
    · rename_i k
      simp at e; subst e
      obtain ⟨p1, vs, rfl, h1, r1⟩ := ha
      obtain ⟨p2, us, rfl, h2, r2⟩ := hb
      exact op_cat pins s σ H _ _ v u Q I rx ry ⟨p1, p2, vs, us, rfl, rfl, h1, h2, by rw [r1.len, r2.len]; exact k, fun p hp => q _ _ _ rfl (r1.app r2) hp⟩
    · cases e
  · cases e
theorem opF_mul : OpR X (binaryOp .Mult) (rOF X.Mg mulL) := by
  intro pins s σ H x y v u Q I rx ry h
  obtain ⟨R, c, M, a, b, d, m, ha, hb, e, q⟩ := h
  unfold mulL at e
  split at e
  · cases b <;> simp only [binD] at e <;> try contradiction
    split at e
    · rename_i k
      simp at e; subst e
      simp only [Bool.and_eq_true, decide_eq_true_eq] at k
      obtain ⟨p1, vs, rfl, h1, r1⟩ := ha
      exact op_rep pins s σ H _ y v u Q I rx ry ⟨p1, _, vs, rfl, rr_int.mp hb, h1, k.1.1, k.1.2, by rw [r1.len]; exact k.2, fun p hp => q _ _ _ rfl (r1.rep _) hp⟩
    · cases e
  · cases e
/-! ### the forms -/
variable {ω : Wk} {C : Cl} {σ : L2.St} {H : Hp} {Q : VK}
theorem addL_of {x y d : D} (e : binD .Add x y = some d) (n : isNw d = true) : addL x y = some d := by
  cases x <;> cases y <;> simp only [binD] at e <;> first | contradiction | (cases e; cases n) | exact e | (split at e <;> cases e; cases n)
theorem mulL_of {x y d : D} (e : binD .Mult x y = some d) (n : isNw d = true) : mulL x y = some d := by
  cases x <;> cases y <;> simp only [binD] at e <;> first | contradiction | (cases e; cases n) | exact e | (split at e <;> cases e; cases n)
theorem nw_opt {R : Addr → Prop} {c : List Addr} {M : Cs} {o : Option D} {Q : (Addr × HO) → Hp → Prop} (h : Post ω (rlN ω) R H c M σ Q ((opt o M).bind nwD)) : ∃ d, o = some d ∧ isNw d = true ∧ ∀ b H' c', Aft ω.mg R H c M M H' c' → rlN ω R H' c' M d b → Q b H' := by
  cases o with
  | none => exact h.elim
  | some d =>
    rw [opt_some, ok_bind, nwD] at h
    split at h
    · rename_i n; exact ⟨d, rfl, n, h⟩
    · exact h.elim
theorem sF_bin {o : Operator} {g : D → D → Option D} (hg : ∀ x y d, binD o x y = some d → isNw d = true → g x y = some d) {a b : ME} (h : tF ω (evE C (.bin o a b)) σ H Q) : tOp (rOF ω.mg g) (tE ω (evE C a)) (tE ω (evE C b)) σ H Q := by
  obtain ⟨R, c, σd, M, m, rs, h⟩ := h
  dsimp only at h
  rw [evE, bind_assoc] at h
  refine ⟨R, c, σd, M, m, rs, h.bind fun x M1 v H1 c1 a1 r1 h1 => ⟨R, c1, σd, M1, a1.2, rs.mono a1.1.gr, ?_⟩⟩
  rw [bind_assoc] at h1
  refine h1.bind fun y M2 u H2 c2 a2 r2 h2 => ?_
  obtain ⟨d, e, n, h3⟩ := nw_opt h2
  simp only [Option.bind_eq_some_iff] at e
  obtain ⟨x', e1, y', e2, e3⟩ := e
  exact ⟨R, c2, M2, x', y', d, a2.2, rd_ok a2.2 (r1.mono a2.1.gr) e1, rd_ok a2.2 r2 e2, hg _ _ _ e3 n, fun ds vs p e r hp => h3 (p, .lst vs) H2 c2 (Aft.refl a2.2) (by subst e; exact ⟨vs, rfl, r⟩) hp⟩
theorem sF_blt {b : Bf} {es : MEs} (h : tF ω (evE C (.blt b es)) σ H Q) : tCB (rBF ω.mg (bltD b)) (tA ω (evEs C es)) σ H Q := by
  obtain ⟨R, c, σd, M, m, rs, h⟩ := h
  dsimp only at h
  rw [evE, bind_assoc] at h
  refine ⟨R, c, σd, M, m, rs, h.bind fun x M1 v H1 c1 a1 r1 h1 => ?_⟩
  obtain ⟨d, e, n, h3⟩ := nw_opt h1
  simp only [Option.bind_eq_some_iff] at e
  obtain ⟨xs, e1, e2⟩ := e
  exact ⟨R, c1, M1, xs, d, a1.2, rds_ok a1.2 r1 e1, e2, fun ds vs p e r hp => h3 (p, .lst vs) H1 c1 (Aft.refl a1.2) (by subst e; exact ⟨vs, rfl, r⟩) hp⟩
theorem s_blt {b : Bf} {es : MEs} (h : tE ω (evE C (.blt b es)) σ H Q) : tCB (rB ω.mg (bltD b)) (tA ω (evEs C es)) σ H Q := by
  obtain ⟨R, c, σd, M, m, rs, h⟩ := h
  rw [evE] at h
  refine ⟨R, c, σd, M, m, rs, h.bind fun x M1 v H1 c1 a1 r1 h1 => ?_⟩
  obtain ⟨d, e, h3⟩ := h1.opt
  simp only [Option.bind_eq_some_iff] at e
  obtain ⟨xs, e1, e2⟩ := e
  exact ⟨R, c1, M1, xs, d, a1.2, rds_ok a1.2 r1 e1, e2, Post.out h3⟩
end
end Mp

/-! Slices, methods, calls, tests, rows with stars. -/
namespace Mp
open PySem PySem.Spec PyProof.Rows L2
section
variable {ω : Wk} {C : Cl} {σ : L2.St} {H : Hp} {Q : VK} {X : Cx}

/-! ### tests -/
theorem s_tru {K : PySem.W.Frag} {e : ME} {Q : Bool → Hp → Prop} (h : tB ω (evB C (.tru e)) σ H Q) : tE ω (evE C e) σ H fun x H' => ∃ k, TruV K x H' k ∧ Q k H' := by
  obtain ⟨R, c, σd, M, m, rs, h⟩ := h
  rw [evB] at h
  refine ⟨R, c, σd, M, m, rs, h.bind fun x M1 v H1 c1 a1 r1 h1 => ?_⟩
  obtain ⟨k, e1, h3⟩ := h1.opt
  exact ⟨k, truth_ok a1.2 r1 e1, h3 k H1 c1 (Aft.refl a1.2) rfl⟩
/-- a form whose value is a bool -/
theorem s_truB {e : ME} (hb : ∀ σd M d M1, evE C e σd M = .ok d M1 → ∃ b, d = .bl b) {Q : Bool → Hp → Prop} (h : tB ω (evB C (.tru e)) σ H Q) : tE ω (evE C e) σ H fun x H' => ∃ k, x = .bl k ∧ Q k H' := by
  obtain ⟨R, c, σd, M, m, rs, h⟩ := h
  rw [evB] at h
  refine ⟨R, c, σd, M, m, rs, ?_⟩
  cases e1 : evE C e σd M with
  | bad => rw [e1] at h; exact h.elim
  | ex x M1 => rw [e1] at h; exact h
  | ok d M1 =>
    obtain ⟨b, rfl⟩ := hb _ _ _ _ e1
    rw [e1] at h
    intro v H1 c1 a1 r1
    simp only [rlD, Rp] at r1
    exact ⟨b, r1, h b H1 c1 a1 rfl⟩
theorem cmp_bl {o : CmpOp} {a b : ME} {σd : En} {M : Cs} {d : D} {M1 : Cs} (h : evE C (.cmp o a b) σd M = .ok d M1) : ∃ b, d = .bl b := by
  rw [evE] at h
  cases e1 : evE C a σd M with
  | ok x M2 =>
    rw [e1, ok_bind] at h
    cases e2 : evE C b σd M2 with
    | ok y M3 =>
      rw [e2, ok_bind] at h
      cases e3 : (rd M3 x).bind fun x' => (rd M3 y).bind fun y' => (cmpD o x' y').map D.bl with
      | none => rw [e3] at h; cases h
      | some z =>
        rw [e3] at h; cases h
        simp only [Option.bind_eq_some_iff, Option.map_eq_some_iff] at e3
        obtain ⟨_, _, _, _, b, _, rfl⟩ := e3
        exact ⟨b, rfl⟩
    | _ => rw [e2] at h; cases h
  | _ => rw [e1] at h; cases h
theorem chain_bl {o p : CmpOp} {a b z : ME} {σd : En} {M : Cs} {d : D} {M1 : Cs} (h : evE C (.chain o p a b z) σd M = .ok d M1) : ∃ b, d = .bl b := by
  rw [evE] at h
  cases e1 : evE C a σd M with
  | ok x M2 =>
    rw [e1, ok_bind] at h
    cases e2 : evE C b σd M2 with
    | ok y M3 =>
      rw [e2, ok_bind] at h
      split at h
      · cases e4 : evE C z σd M3 with
        | ok w M4 =>
          rw [e4, ok_bind] at h
          cases e3 : (rd M4 y).bind fun x' => (rd M4 w).bind fun y' => (cmpD p x' y').map D.bl with
          | none => rw [e3] at h; cases h
          | some z =>
            rw [e3] at h; cases h
            simp only [Option.bind_eq_some_iff, Option.map_eq_some_iff] at e3
            obtain ⟨_, _, _, _, b, _, rfl⟩ := e3
            exact ⟨b, rfl⟩
        | _ => rw [e4] at h; cases h
      · cases h; exact ⟨_, rfl⟩
      · cases h
    | _ => rw [e2] at h; cases h
  | _ => rw [e1] at h; cases h
theorem s_bnot {a : MB} {Q : Bool → Hp → Prop} (h : tB ω (evB C (.not a)) σ H Q) : tNot (tB ω (evB C a)) σ H Q := by
  obtain ⟨R, c, σd, M, m, rs, h⟩ := h
  rw [evB] at h
  refine ⟨R, c, σd, M, m, rs, h.bind fun x M1 v H1 c1 a1 r1 h1 => ?_⟩
  subst r1
  exact h1 _ H1 c1 (Aft.refl a1.2) rfl
theorem s_band {a b : MB} {Q : Bool → Hp → Prop} (h : tB ω (evB C (.and a b)) σ H Q) : tAnd (tB ω (evB C a)) (tB ω (evB C b)) σ H Q := by
  obtain ⟨R, c, σd, M, m, rs, h⟩ := h
  rw [evB] at h
  refine ⟨R, c, σd, M, m, rs, h.bind fun x M1 v H1 c1 a1 r1 h1 => ?_⟩
  subst r1
  cases x with
  | true => rw [if_pos rfl] at h1 ⊢; exact ⟨R, c1, σd, M1, a1.2, rs.mono a1.1.gr, h1⟩
  | false => rw [if_neg (by decide)] at h1 ⊢; exact h1 _ H1 c1 (Aft.refl a1.2) rfl
theorem s_bor {a b : MB} {Q : Bool → Hp → Prop} (h : tB ω (evB C (.or a b)) σ H Q) : tOr (tB ω (evB C a)) (tB ω (evB C b)) σ H Q := by
  obtain ⟨R, c, σd, M, m, rs, h⟩ := h
  rw [evB] at h
  refine ⟨R, c, σd, M, m, rs, h.bind fun x M1 v H1 c1 a1 r1 h1 => ?_⟩
  subst r1
  cases x with
  | false => rw [if_neg (by decide)] at h1 ⊢; exact ⟨R, c1, σd, M1, a1.2, rs.mono a1.1.gr, h1⟩
  | true => rw [if_pos rfl] at h1 ⊢; exact h1 _ H1 c1 (Aft.refl a1.2) rfl
theorem pw_of {op : BoolOp} {es : List Expr} {pos : Pos} {t : TT} (h : PT X (.BoolOp op es pos) t) : PW X (.BoolOp op es pos) t := ⟨fun _ pins s σ H Q I q => h.run pins s σ H Q I q⟩

/-! ### stars, slices -/
theorem s_star {K : PySem.W.Frag} {a : ME} {r : MEs} {Q : List V → Hp → Prop} (h : tA ω (evEs C (.star a r)) σ H Q) : StX.tStar K (tE ω (evE C a)) (tA ω (evEs C r)) σ H Q := by
  obtain ⟨R, c, σd, M, m, rs, h⟩ := h
  rw [evEs] at h
  refine ⟨R, c, σd, M, m, rs, h.bind fun x M1 v H1 c1 a1 r1 h1 => ?_⟩
  have key : ∀ ys vs, RpL ω.mg H1 (Lv R c1 M1) c1 ys vs → Post ω (rlL ω) R H1 c1 M1 σ Q ((evEs C r σd M1).bind fun xs M2 => .ok (ys ++ xs) M2) → tA ω (evEs C r) σ H1 fun zs H2 => Q (vs ++ zs) H2 := fun ys vs rl h1 =>
    ⟨R, c1, σd, M1, a1.2, rs.mono a1.1.gr, h1.bind fun y M2 u H2 c2 a2 r2 h2 => h2 _ H2 c2 (Aft.refl a2.2) ((rl.mono a2.1.gr).app r2)⟩
  split at h1
  · rename_i ys e
    obtain ⟨p, vs, rfl, e1, _, e3⟩ := rr_tup.mp (rd_ok a1.2 r1 e)
    exact ⟨p, vs, rfl, .inl (SqT.of e1), key ys vs e3 h1⟩
  · rename_i ys e
    obtain ⟨p, vs, rfl, e1, e3⟩ := rr_lst.mp (rd_ok a1.2 r1 e)
    exact ⟨p, vs, rfl, .inr (SqL.of e1), key ys vs e3 h1⟩
  · exact h1.elim
/-- a slice's part -/
abbrev tO (ω : Wk) (f : En → Cs → Res (Option Int)) : TO := Snd ω rlO f
theorem o_nil {Q : Option Int → Hp → Prop} (h : tO ω (evO C .nil) σ H Q) : tNoPart σ H Q := by
  obtain ⟨R, c, σd, M, m, rs, h⟩ := h
  rw [evO] at h
  exact h none H c (Aft.refl m) rfl
theorem o_one {e : ME} {Q : Option Int → Hp → Prop} (h : tO ω (evO C (.one e)) σ H Q) : tPart (tE ω (evE C e)) σ H Q := by
  obtain ⟨R, c, σd, M, m, rs, h⟩ := h
  rw [evO] at h
  refine ⟨R, c, σd, M, m, rs, h.bind fun x M1 v H1 c1 a1 r1 h1 => ?_⟩
  obtain ⟨d, e, h3⟩ := h1.opt
  cases x <;> simp only [intD?, Option.some.injEq, reduceCtorEq] at e
  subst e
  simp only [rlD, Rp] at r1
  exact ⟨_, r1, h3 _ H1 c1 (Aft.refl a1.2) rfl⟩
theorem _root_.L2.PO.imp {X : Cx} {e : Option Expr} {t u : TO} (h : PO X e t) (k : ∀ σ H Q, u σ H Q → t σ H Q) : PO X e u := ⟨fun pins s σ H Q I q => h.run pins s σ H Q I (k σ H Q q)⟩
theorem s_slc {a : ME} {lo hi : MO} (h : tE ω (evE C (.slc a lo hi)) σ H Q) : tSl (rSl ω.mg) (tE ω (evE C a)) (tO ω (evO C lo)) (tO ω (evO C hi)) σ H Q := by
  obtain ⟨R, c, σd, M, m, rs, h⟩ := h
  rw [evE] at h
  refine ⟨R, c, σd, M, m, rs, h.bind fun x M1 v H1 c1 a1 r1 h1 => ⟨R, c1, σd, M1, a1.2, rs.mono a1.1.gr, h1.bind fun l M2 l' H2 c2 a2 r2 h2 => ?_⟩⟩
  refine ⟨R, c2, σd, M2, a2.2, (rs.mono a1.1.gr).mono a2.1.gr, h2.bind fun u M3 u' H3 c3 a3 r3 h3 => ?_⟩
  obtain rfl : l = l' := r2
  obtain rfl : u = u' := r3
  obtain ⟨d, e, h4⟩ := h3.opt
  simp only [Option.bind_eq_some_iff] at e
  obtain ⟨x', e1, e2⟩ := e
  exact ⟨R, c3, M3, x', d, a3.2, rd_ok a3.2 (r1.mono (a2.1.trans a3.1).gr) e1, e2, Post.out h4⟩

/-! ### methods -/
theorem okL_at {mg : Mg} {R : Addr → Prop} {c : List Addr} {M : Cs} {x : D} {v : V} {K : PySem.W.Frag} (m : CM mg R H c M) (r : Rp mg H (Lv R c M) c x v) (e : okL (rd M x) = true) : tyV K "list" v H := by
  cases e1 : rd M x with
  | none => rw [e1] at e; cases e
  | some d =>
    rw [e1] at e
    cases d <;> simp only [okL] at e <;> try contradiction
    obtain ⟨p, vs, rfl, h1, _⟩ := rr_lst.mp (rd_ok m r e1)
    exact .inl ⟨rfl, vs, SqL.of h1⟩
theorem s_lindex {K : PySem.W.Frag} {o : ME} {es : MEs} (h : tE ω (evE C (.met .lindex o es)) σ H Q) : tBM K "list" (rMt ω.mg lindexD) (tE ω (evE C o)) (tA ω (evEs C es)) σ H Q := by
  obtain ⟨R, c, σd, M, m, rs, h⟩ := h
  rw [evE] at h
  refine ⟨R, c, σd, M, m, rs, h.bind fun x M1 v H1 c1 a1 r1 h1 => ?_⟩
  split at h1
  · rename_i k
    refine ⟨okL_at a1.2 r1 k, R, c1, σd, M1, a1.2, rs.mono a1.1.gr, h1.bind fun y M2 u H2 c2 a2 r2 h2 => ?_⟩
    obtain ⟨d, e, h3⟩ := h2.opt
    simp only [Option.bind_eq_some_iff] at e
    obtain ⟨x', e1, ys, e2, e3⟩ := e
    exact ⟨R, c2, M2, x', ys, d, a2.2, rd_ok a2.2 (r1.mono a2.1.gr) e1, rds_ok a2.2 r2 e2, e3, Post.out h3⟩
  · exact h1.elim
theorem s_mut {K : PySem.W.Frag} {mu : Mu} {o : ME} {es : MEs} (h : tE ω (evE C (.mut mu o es)) σ H Q) : tBM K "list" (rMu ω.mg (mutD mu)) (tE ω (evE C o)) (tA ω (evEs C es)) σ H Q := by
  obtain ⟨R, c, σd, M, m, rs, h⟩ := h
  rw [evE] at h
  refine ⟨R, c, σd, M, m, rs, h.bind fun x M1 v H1 c1 a1 r1 h1 => ?_⟩
  split at h1
  · rename_i k
    refine ⟨okL_at a1.2 r1 k, R, c1, σd, M1, a1.2, rs.mono a1.1.gr, h1.bind fun y M2 u H2 c2 a2 r2 h2 => ?_⟩
    split at h2
    · rename_i n
      split at h2
      · rename_i hf
        split at h2
        · rename_i z w e
          simp only [Option.bind_eq_some_iff] at e
          obtain ⟨x', e1, e2⟩ := e
          have r1' := r1.mono a2.1.gr
          simp only [Rp] at r1'
          obtain ⟨a, rfl, hc⟩ := r1'
          have hn : M2[n]? = some (some x') := by
            simp only [rd] at e1
            split at e1
            · rename_i u he; simp at e1; rw [he, e1]
            · cases e1
          exact ⟨R, c2, M2, n, a, x', y, z, w, a2.2, hn, rfl, hc, r2, hf, e2, fun u H' a3 r3 => h2 u H' c2 a3 r3⟩
        · exact h2.elim
      · exact h2.elim
    · exact h2.elim
  · exact h1.elim
theorem s_mut0 {K : PySem.W.Frag} {mu : Mu} {o : ME} (h : tE ω (evE C (.mut mu o .nil)) σ H Q) : tBM0 K "list" (rMu ω.mg (mutD mu)) (tE ω (evE C o)) σ H Q := by
  obtain ⟨R, c, σd, M, m, rs, h⟩ := s_mut (K := K) h
  refine ⟨R, c, σd, M, m, rs, h.mono fun v H1 q => ⟨q.1, s_nil q.2⟩⟩
/-- isinstance -/
def tyS : Ty → String
  | .int => "int"
  | .bool => "bool"
  | .tuple => "tuple"
  | .str => "str"
  | .list => "list"
  | .dict => "dict"
theorem kits (a : String) (t : Ty) (K : PySem.W.Frag) (b : Bool) (ha : a = "NoneType" ∨ a = "bool" ∨ a = "int" ∨ a = "str" ∨ a = "tuple" ∨ a = "list" ∨ a = "dict") (e : kitB a (tyS t) = some b) : PySem.W.kitOne K (.type a) (.type (tyS t)) = some b := kit_ty e
theorem isa_ok {K : PySem.W.Frag} {mg : Mg} {U : Addr → Prop} {c : List Addr} {x : D} {v : V} {b : Bool} {t : Ty} (r : Rr mg H U c x v) (e : isaD x t = some b) : ∃ T, TyX K H v (.type T) ∧ PySem.W.kitOne K (.type T) (.type (tyS t)) = some b := by
  cases x with
  | non => rw [rr_non] at r; subst r; refine ⟨_, .base .non, ?_⟩; cases t <;> simp only [isaD, Option.some.injEq] at e <;> subst e <;> exact kit_ty (by decide +kernel)
  | bl y => rw [rr_bl] at r; subst r; refine ⟨_, .base (.bl y), ?_⟩; cases t <;> simp only [isaD, Option.some.injEq] at e <;> subst e <;> exact kit_ty (by decide +kernel)
  | int y => rw [rr_int] at r; subst r; refine ⟨_, .base (.int y), ?_⟩; cases t <;> simp only [isaD, Option.some.injEq] at e <;> subst e <;> exact kit_ty (by decide +kernel)
  | str y => rw [rr_str] at r; subst r; refine ⟨_, .base (.str y), ?_⟩; cases t <;> simp only [isaD, Option.some.injEq] at e <;> subst e <;> exact kit_ty (by decide +kernel)
  | tup y =>
    obtain ⟨p, vs, rfl, h1, _⟩ := rr_tup.mp r
    refine ⟨_, .base (.tup h1), ?_⟩; cases t <;> simp only [isaD, Option.some.injEq] at e <;> subst e <;> exact kit_ty (by decide +kernel)
  | lst y =>
    obtain ⟨p, vs, rfl, h1, _⟩ := rr_lst.mp r
    refine ⟨_, .base (.lst h1), ?_⟩; cases t <;> simp only [isaD, Option.some.injEq] at e <;> subst e <;> exact kit_ty (by decide +kernel)
  | dct tt ks us =>
    obtain ⟨p, rfl, h2⟩ := r
    rcases h2 with ⟨_, kvs, h1, _⟩ | ⟨_, kvs, h1, _⟩
    · refine ⟨_, .base (.dK h1), ?_⟩; cases t <;> simp only [isaD, Option.some.injEq] at e <;> subst e <;> exact kit_ty (by decide +kernel)
    · refine ⟨_, .base (.dT h1), ?_⟩; cases t <;> simp only [isaD, Option.some.injEq] at e <;> subst e <;> exact kit_ty (by decide +kernel)
  | _ => simp [isaD] at e
theorem s_isa {K : PySem.W.Frag} {a : ME} {t : Ty} (h : tE ω (evE C (.isa a t)) σ H Q) : tCB (rIsi K) (tCons (tE ω (evE C a)) (tCons (tC (.ty (tyS t))) tNil)) σ H Q := by
  obtain ⟨R, c, σd, M, m, rs, h⟩ := h
  rw [evE] at h
  refine ⟨R, c, σd, M, m, rs, h.bind fun x M1 v H1 c1 a1 r1 h1 => ?_⟩
  obtain ⟨d, e, h3⟩ := h1.opt
  simp only [Option.bind_eq_some_iff, Option.map_eq_some_iff] at e
  obtain ⟨x', e1, b, e2, rfl⟩ := e
  obtain ⟨T, k1, k2⟩ := isa_ok (K := K) (rd_ok a1.2 r1 e1) e2
  exact ⟨v, .ty (tyS t), _, _, b, rfl, .ty _, k1, k2, h3 _ H1 c1 (Aft.refl a1.2) (by simp [rlD, Rp])⟩

/-! ### calls -/
/-- what a def promises by the evaluator -/
def spF (mg : Mg) (n : Nat) (f : List D → Cs → Res D) : Sp := fun vs H Q E => vs.length = n ∧ ∃ R c ds M, CM mg R H c M ∧ RpL mg H (Lv R c M) c ds vs ∧ Post ⟨mg, fun cls dd _ H' => E cls dd H'⟩ (rlD ⟨mg, fun cls dd _ H' => E cls dd H'⟩) R H c M [] Q (f ds M)
def MEs.len : MEs → Option Nat
  | .nil => some 0
  | .cons _ r => r.len.map (· + 1)
  | .star _ _ => none
theorem evEs_len : ∀ {es : MEs} {n : Nat} {σd : En} {M : Cs} {xs : List D} {M1 : Cs}, es.len = some n → evEs C es σd M = .ok xs M1 → xs.length = n
  | .nil, n, σd, M, xs, M1, h, e => by
    rw [evEs] at e; cases e; simp [MEs.len] at h; simp [h]
  | .cons a r, n, σd, M, xs, M1, h, e => by
    simp only [MEs.len, Option.map_eq_some_iff] at h
    obtain ⟨k, h1, rfl⟩ := h
    rw [evEs] at e
    cases e1 : evE C a σd M with
    | ok x M2 =>
      rw [e1, ok_bind] at e
      cases e2 : evEs C r σd M2 with
      | ok ys M3 =>
        rw [e2, ok_bind] at e; cases e
        simp [evEs_len h1 e2]
      | _ => rw [e2] at e; cases e
    | _ => rw [e1] at e; cases e
  | .star _ _, _, _, _, _, _, h, _ => by simp [MEs.len] at h
theorem permD_rp {mg : Mg} {U : Addr → Prop} {c : List Addr} {ds : List D} {vs : List V} (h : RpL mg H U c ds vs) (perm : List Nat) : RpL mg H U c (permD perm ds) (permL .non perm vs) := by
  unfold permD permL
  cases perm with
  | nil => exact h
  | cons i r =>
    have key : ∀ i, Rp mg H U c (ds.getD i .non) (vs.getD i .non) := fun i => by
      cases e : ds[i]? with
      | none =>
        have : vs[i]? = none := by
          rw [List.getElem?_eq_none_iff] at e ⊢
          rw [h.len]; exact e
        rw [List.getD_eq_getElem?_getD, List.getD_eq_getElem?_getD, e, this]; simp [Rp]
      | some d =>
        obtain ⟨v, e2, r2⟩ := h.get e
        rw [List.getD_eq_getElem?_getD, List.getD_eq_getElem?_getD, e, e2]; exact r2
    have : ∀ p : List Nat, RpL mg H U c (p.map fun i => ds.getD i .non) (p.map fun i => vs.getD i .non) := fun p => by
      induction p with
      | nil => exact RpL.nil
      | cons j p ih => exact RpL.cons (key j) ih
    exact this _
theorem Post.sp {R : Addr → Prop} {c : List Addr} {M : Cs} {r : Res D} (h : Post ω (rlD ω) R H c M σ Q r) : Post ⟨ω.mg, fun cls dd _ H' => ω.W cls dd σ H'⟩ (rlD ⟨ω.mg, fun cls dd _ H' => ω.W cls dd σ H'⟩) R H c M [] Q r := by
  cases r <;> exact h
theorem s_call {f : Nat} {es ks : MEs} {perm : List Nat} {n k l : Nat} (h1 : es.len = some n) (h2 : ks.len = some k) (h3 : (if perm = [] then n + k else perm.length) = l) (h : tE ω (evE C (.call f es ks perm)) σ H Q) :
    tCallG (spF ω.mg l (C.call f)) n k perm (WE ω.W) (tA ω (evEs C es)) (tA ω (evEs C ks)) σ H Q := by
  obtain ⟨R, c, σd, M, m, rs, h⟩ := h
  rw [evE] at h
  refine ⟨R, c, σd, M, m, rs, ?_⟩
  cases e1 : evEs C es σd M with
  | bad => rw [e1] at h; exact h.elim
  | ex x M1 => rw [e1] at h; exact h
  | ok xs M1 =>
    rw [e1, ok_bind] at h
    intro vs H1 c1 a1 r1
    replace h := h.shift a1
    refine ⟨R, c1, σd, M1, a1.2, rs.mono a1.1.gr, ?_⟩
    cases e2 : evEs C ks σd M1 with
    | bad => rw [e2] at h; exact h.elim
    | ex x M1 => rw [e2] at h; exact h
    | ok ys M2 =>
      rw [e2, ok_bind] at h
      intro zs H2 c2 a2 r2
      replace h := h.shift a2
      have rr := permD_rp ((RpL.mono a2.1.gr _ r1).app r2) perm
      have l1 : vs.length = n := by rw [r1.len]; exact evEs_len h1 e1
      have l2 : zs.length = k := by rw [r2.len]; exact evEs_len h2 e2
      refine ⟨l1, l2, ?_, R, c2, permD perm (xs ++ ys), M2, a2.2, rr, h.sp⟩
      rw [← h3]
      unfold permL
      split
      · simp [l1, l2]
      · rename_i ne
        rw [if_neg (by simpa using ne)]
        simp
end
section
variable {prog : Program} {w : World} {A : Around} {E : Value → Shared → Prop} {s : Shared}
theorem pick_rev (xs : Array Value) : ((List.range xs.size).filterMap fun (m : Nat) => xs[((xs.size : Int) - 1 + (m : Int) * (-1)).toNat]?).toArray = xs.toList.reverse.toArray := by
  have e : (fun m : Nat => xs[((xs.size : Int) - 1 + (m : Int) * (-1)).toNat]?) = (fun x => xs[x]?) ∘ fun m => xs.size - 1 - m := by
    funext m
    simp only [Function.comp_apply]
    congr 1
    omega
  rw [e, ← List.filterMap_map, ← PySem.W.krv_sliceRange, ← PySem.W.krv_pick]
  unfold slicePick
  rw [PySem.W.krv_bounds]
theorem sliceApplied_rev {sl : Addr} {vs : Value} {n : Nat} {Q : Int × Int × Nat → Shared → Prop} (hs : s.heap.IsSliceOf sl .none .none vs) (ps : IsPart vs (some (-1)))
    (h : Q ((n : Int) - 1, -1, n) s) : wpAny (model prog w) A (Builtin.Slice.sliceApplied (.ref sl) (pure (n : Int))) Q E s := by
  obtain ⟨os, hos, hcs, hds⟩ := id hs
  unfold Builtin.Slice.sliceApplied Builtin.Slice.sliceFields
  refine wpAny_bind (wpAny_bind (wpAny_field hos hds (x := .none) rfl (wpAny_bind (wpAny_field hos hds (x := .none) rfl (wpAny_bind (wpAny_field hos hds (x := vs) rfl (wpAny_pure ?_)))))))
  refine wpAny_bind (HT.slicePart_ ps ?_)
  show wpAny _ _ (if ((-1 : Int) == 0) = true then _ else _) _ _ s
  rw [if_neg (by decide)]
  refine wpAny_bind (slicePart_none (wpAny_bind (slicePart_none (wpAny_bind (wpAny_pure ?_)))))
  have e : Builtin.Slice.sliceAdjust none none (-1) (n : Int) = ((n : Int) - 1, -1) := rfl
  have e2 : Builtin.Slice.slicePlaces ((n : Int) - 1) (-1) (-1) = n := by
    unfold Builtin.Slice.slicePlaces
    rw [if_neg (by decide)]
    by_cases hn : n = 0
    · subst hn; rfl
    · rw [if_pos (by omega)]
      have : ((n : Int) - 1 - -1 - 1) / (- -1) + 1 = n := by
        rw [show (- -1 : Int) = 1 by decide, Int.ediv_one]; omega
      rw [this, Int.toNat_natCast]
  show wpAny _ _ (match Builtin.Slice.sliceAdjust none none (-1) (n : Int) with | (lo, hi) => pure (lo, (-1 : Int), Builtin.Slice.slicePlaces lo hi (-1))) _ _ s
  rw [e]
  show wpAny _ _ (pure ((n : Int) - 1, (-1 : Int), Builtin.Slice.slicePlaces ((n : Int) - 1) (-1) (-1))) _ _ s
  rw [e2]
  exact wpAny_pure h
theorem getItem_tuple_rev {t sl : Addr} {items : Array Value} {vs : Value} {Q : Value → Shared → Prop} (ht : IsTup s.heap t items) (hs : s.heap.IsSliceOf sl .none .none vs) (ps : IsPart vs (some (-1)))
    (h : Q (.ref s.heap.objs.size) { s with heap := s.heap.push { cls := .type "tuple", data := .seq items.toList.reverse.toArray } })
    (hsz : items.size ≤ sizeLine) : wpAny (model prog w) A (getItem (.ref t) (.ref sl)) Q E s := by
  have htake : sizeOk (.seq items.toList.reverse.toArray) := by
    show items.toList.reverse.toArray.size ≤ sizeLine
    simpa using hsz
  obtain ⟨os, hos, hcs, hds⟩ := id hs
  have hTs : s.TypeIs (.ref sl) "slice" := ⟨os, hos, hcs⟩
  unfold getItem
  try with_reducible refine wpAny_holding ?_
  first | refine wpAny_bind (wpAny_pure ?_) | skip
  refine wpAny_bind (wpAny_sequenceKey ht.typeIs (by decide) ?_)
  refine wpAny_bind (wpAny_callSpecial?_slot (name := Str.ofString "__getitem__") ht.typeIs PyProof.Rows.slot_tuple_getitem
    (wpAny_call_entry PyProof.Rows.slot_tuple_getitem ht.typeIs entry_tuple_getitem ?_ (args_tuple_getitem _ _)))
  show wpAny _ _ (Builtin.Tuple.tupleItemsOf (.ref t) >>= _) _ _ s
  refine wpAny_bind (tupleItemsOf_ ht ?_)
  refine wpAny_bind (wpAny_typeOf hTs ?_)
  rw [if_pos (by decide)]
  refine wpAny_bind (sliceApplied_rev hs ps ?_)
  have hno : ¬ ((((items.size : Int) - 1) == 0 && (-1 : Int) == 1 && items.size == items.size) = true) := by simp
  show wpAny _ _ (if (((items.size : Int) - 1) == 0 && (-1 : Int) == 1 && items.size == items.size) = true then _ else _) _ _ s
  rw [if_neg hno, pick_rev]
  first
    | exact wpAny_bind (m := Builtin.Tuple.tupleExact _) (wpAny_newObj_type (wpAny_pure ⟨_, rfl, wpAny_pure h⟩) htake)
    | exact wpAny_bind (m := Builtin.Tuple.tupleExact _) (wpAny_newObj_type (wpAny_bind (wpAny_pure (wpAny_pure ⟨_, rfl, wpAny_pure h⟩))) htake)
    | exact wpAny_bind (wpAny_bind (m := Builtin.Tuple.tupleExact _) (wpAny_newObj_type (wpAny_pure (wpAny_pure ⟨_, rfl, wpAny_pure h⟩)) htake))
    | exact wpAny_bind (wpAny_bind (m := Builtin.Tuple.tupleExact _) (wpAny_newObj_type (wpAny_pure ⟨_, rfl, wpAny_pure h⟩) htake))
end

/-- x[::-1] -/
def tRevA (K : PySem.W.Frag) (te : TE) : TE := fun σ H Q => te σ H fun x H1 => ∃ a xs, x = .ref a ∧ ((SqL K H1 a xs ∧ ∀ p, H1 p = none → Q (.ref p) (upd H1 p (.lst xs.reverse))) ∨ (SqT K H1 a xs ∧ ∀ p, H1 p = none → Q (.ref p) (upd H1 p (.tup xs.reverse))))
section
variable {X : Cx} {ω : Wk} {C : Cl} {σ : L2.St} {H : Hp} {Q : VK}
theorem pe_rev {e : Expr} {te : TE} {k : Nat} {p1 p2 p3 pos : Pos} (he : PE X e te) : PE X (.Subscript e (.Slice none none (some (.UnaryOp .USub (.Constant (.int 1) k p1) p2)) p3) pos) (tRevA X.K te) := by
  refine ⟨fun pins s σ H Q I h => ?_⟩
  refine Subscript_ (thn (he.run pins s σ H _ I h) fun v s1 ⟨x, H1, I1, r1, q1⟩ => ?_)
  obtain ⟨a, xs, ex, q1⟩ := q1
  subst ex
  cases r1
  have hst : PO X (some (.UnaryOp .USub (.Constant (.int 1) k p1) p2)) (tPart (tUn (rU fun i => .int (-i)) (tC (.int 1)))) := po_some (pe_un un_neg pe_int)
  refine wpAny_Slice (thn (po_none.run pins s1 σ H1 (fun o H2 => o = none ∧ H2 = H1) I1 ⟨rfl, rfl⟩) fun vl s2 ⟨l, H2, I2, pl, el, e2⟩ => ?_)
  subst el e2
  refine thn (po_none.run pins s2 σ H2 (fun o H3 => o = none ∧ H3 = H2) I2 ⟨rfl, rfl⟩) fun vu s3 ⟨u, H3, I3, pu, eu, e3⟩ => ?_
  subst eu e3
  refine thn (hst.run pins s3 σ H3 (fun o H4 => o = some (-1) ∧ H4 = H3) I3 ⟨1, rfl, -1, rfl, rfl, rfl⟩) fun vs s4 ⟨o, H4, I4, ps, eo, e4⟩ => ?_
  subst eo e4
  have I5 : Inv X pins σ H4 { s4 with heap := s4.heap.push { cls := .type "slice", data := .fields #[vl, vu, vs] } } := I4.kept (t' := s4.toks) fun b ob q => Heap.get?_push_of_some _ q
  cases pl
  cases pu
  rcases q1 with ⟨hx, q⟩ | ⟨hx, q⟩
  · obtain ⟨its, r, ht, hz⟩ := I5.list hx
    have hlen := r.length
    show wpAny (model X.prog X.w) X.A (subscriptTail e (.Slice none none (some (.UnaryOp .USub (.Constant (.int 1) k p1) p2)) p3) (.ref a) (.ref s4.heap.objs.size)) (EP X pins σ Q) X.xe { s4 with heap := s4.heap.push { cls := .type "slice", data := .fields #[.none, .none, vs] } }
    refine tail_any (ops := [.ref a, .ref s4.heap.objs.size]) ht.isList.typeIs (PySem.slot_list_getitem.lookup) ?_ (by with_unfolding_all rfl)
    refine wpAny_getItem_list_slice ht.isList (Heap.IsSliceOf.new _ .none .none vs) .none .none ps (by decide) ?_ (by rw [List.size_toArray]; omega)
    rw [PySem.W.krv_pick]
    refine ⟨.ref _, _, I5.laid (t' := s4.toks) (o := .lst xs.reverse) (fun b ob q => Heap.get?_push_of_some _ q) (Nat.le_refl _) ?_, rfl, q _ (I5.hok.fresh (Nat.le_refl _))⟩
    exact ⟨by rw [List.length_reverse]; exact hz, _, 0, r.reverse, Heap.get?_push_size _ rfl⟩
  · obtain ⟨its, r, ht, hz⟩ := I5.tuple hx
    have hlen := r.length
    show wpAny (model X.prog X.w) X.A (subscriptTail e (.Slice none none (some (.UnaryOp .USub (.Constant (.int 1) k p1) p2)) p3) (.ref a) (.ref s4.heap.objs.size)) (EP X pins σ Q) X.xe { s4 with heap := s4.heap.push { cls := .type "slice", data := .fields #[.none, .none, vs] } }
    refine tail_any (ops := [.ref a, .ref s4.heap.objs.size]) ht.typeIs PyProof.Rows.slot_tuple_getitem.lookup ?_ (by with_unfolding_all rfl)
    refine getItem_tuple_rev ht (Heap.IsSliceOf.new _ .none .none vs) ps ?_ (by rw [List.size_toArray]; omega)
    refine ⟨.ref _, _, I5.laid (t' := s4.toks) (o := .tup xs.reverse) (fun b ob q => Heap.get?_push_of_some _ q) (Nat.le_refl _) ?_, rfl, q _ (I5.hok.fresh (Nat.le_refl _))⟩
    exact ⟨by rw [List.length_reverse]; exact hz, _, r.reverse, IsTup.new _ _⟩
theorem RpL.reverse {mg : Mg} {U : Addr → Prop} {c : List Addr} : ∀ {ds : List D} {vs : List V}, RpL mg H U c ds vs → RpL mg H U c ds.reverse vs.reverse
  | [], vs, h => by
    rw [RpL.nil_iff] at h; subst h; exact RpL.nil
  | d :: ds, vs, h => by
    obtain ⟨v, r, rfl, h1, h2⟩ := RpL.cons_iff.mp h
    rw [List.reverse_cons, List.reverse_cons]
    exact h2.reverse.app (RpL.cons h1 RpL.nil)
theorem s_rev {K : PySem.W.Frag} {a : ME} (h : tE ω (evE C (.rev a)) σ H Q) : tRevA K (tE ω (evE C a)) σ H Q := by
  obtain ⟨R, c, σd, M, m, rs, h⟩ := h
  rw [evE] at h
  refine ⟨R, c, σd, M, m, rs, h.bind fun x M1 v H1 c1 a1 r1 h1 => ?_⟩
  obtain ⟨d, e, h3⟩ := h1.opt
  simp only [Option.bind_eq_some_iff] at e
  obtain ⟨x', e1, e2⟩ := e
  have r2 := rd_ok a1.2 r1 e1
  have q := Post.out h3
  unfold revD at e2
  split at e2 <;> cases e2
  · obtain ⟨p, vs, rfl, e1, e3⟩ := rr_lst.mp r2
    exact ⟨p, vs, rfl, .inl ⟨SqL.of e1, fun l hl => q.lst a1.2 e3.reverse hl⟩⟩
  · obtain ⟨p, vs, rfl, e1, _, e3⟩ := rr_tup.mp r2
    exact ⟨p, vs, rfl, .inr ⟨SqT.of e1, fun l hl => q.tup a1.2 e3.reverse hl⟩⟩
end
end Mp

/-! Targets, what is walked, comprehensions. -/
namespace Mp
open PySem PySem.Spec PyProof.Rows L2

def rlS (ω : Wk) : Rl En L2.St := fun R H c M σd σ => RpS ω.mg H (Lv R c M) c σd σ
/-- no exception leaves -/
def Wk.no (ω : Wk) : Wk := { ω with W := fun _ _ _ _ => False }
section
variable {α β : Type} {ω : Wk} {rel : Rl α β} {R : Addr → Prop} {H : Hp} {c : List Addr} {M : Cs} {σ σ' : L2.St} {C : Cl} {K : PySem.W.Frag}
theorem Post.slots {Q : β → Hp → Prop} : ∀ {r : Res α}, Post ω.no rel R H c M σ Q r → Post ω.no rel R H c M σ' Q r
  | .ok _ _, h => h
  | .ex _ _, h => h
  | .bad, h => h
/-- an evaluation that comes to an end -/
theorem Post.here {r : Res α} {a : α} {M1 : Cs} (e : r = .ok a M1) : Post ω rel R H c M σ (fun b H' => ∃ c', Aft ω.mg R H c M M1 H' c' ∧ rel R H' c' M1 a b) r := by
  subst e
  exact fun b H' c' a r => ⟨c', a, r⟩
theorem Post.eq {Q : β → Hp → Prop} {r : Res α} {a : α} {M1 : Cs} (e : r = .ok a M1) (k : ∀ b H' c', Aft ω.mg R H c M M1 H' c' → rel R H' c' M1 a b → Q b H') : Post ω rel R H c M σ Q r := by
  subst e
  exact k
theorem Post.wide {Q : β → Hp → Prop} : ∀ {r : Res α}, Post ω.no rel R H c M σ Q r → Post ω rel R H c M σ Q r
  | .ok _ _, h => h
  | .ex _ _, h => fun cls dd H' c' a r => (h cls dd H' c' a r).elim
  | .bad, h => h

theorem _root_.L2.PG.or {X : Cx} {e : Expr} {t u : TG} (h : PG X e t) (k : PG X e u) : PG X e (fun v σ H Q => t v σ H Q ∨ u v σ H Q) := ⟨fun pins s σ H v w Q I r q => q.elim (h.run pins s σ H v w Q I r) (k.run pins s σ H v w Q I r)⟩

/-! ### targets -/
def tG (ω : Wk) (f : D → En → Cs → Res En) : TG := fun v σ H Q => ∃ R c σd M d, CM ω.mg R H c M ∧ RpS ω.mg H (Lv R c M) c σd σ ∧ Rp ω.mg H (Lv R c M) c d v ∧ Post ω.no (rlS ω) R H c M σ Q (f d σd M)
def tGs (ω : Wk) (f : List D → En → Cs → Res En) : TGs := fun vs σ H Q => ∃ R c σd M ds, CM ω.mg R H c M ∧ RpS ω.mg H (Lv R c M) c σd σ ∧ RpL ω.mg H (Lv R c M) c ds vs ∧ Post ω.no (rlS ω) R H c M σ Q (f ds σd M)
def MTs.len : MTs → Nat
  | .nil => 0
  | .cons _ r => r.len + 1
mutual
def gOf (ω : Wk) (C : Cl) (K : PySem.W.Frag) : MT → TG
  | .nm i => gName i
  | .tp ts => fun v σ H Q => gTup K ts.len (gsOf ω C K ts) v σ H Q ∨ gLst K ts.len (gsOf ω C K ts) v σ H Q
  | .sub o i => gSub (tE ω (evE C o)) (tE ω (evE C i)) (rSet ω.mg)
def gsOf (ω : Wk) (C : Cl) (K : PySem.W.Frag) : MTs → TGs
  | .nil => gNil
  | .cons t r => gCons (gOf ω C K t) (gsOf ω C K r)
end
theorem tupD_some {d : D} {xs : List D} (h : tupD d = some xs) : d = .tup xs ∨ d = .lst xs := by
  cases d <;> simp [tupD] at h
  · rw [h]; exact .inl rfl
  · rw [h]; exact .inr rfl
theorem consD_some {ds : List D} {p : D × List D} (h : consD ds = some p) : ds = p.1 :: p.2 := by
  cases ds <;> simp [consD] at h
  rw [← h]
theorem evTs_len : ∀ {ts : MTs} {ds : List D} {σd σ1 : En} {M M1 : Cs}, evTs C ts ds σd M = .ok σ1 M1 → ds.length = ts.len
  | .nil, ds, _, _, _, _, e => by
    rw [evTs] at e
    split at e
    · rename_i z; simp at z; simp [z, MTs.len]
    · cases e
  | .cons t r, ds, σd, σ1, M, M1, e => by
    rw [evTs] at e
    split at e
    · rename_i p z
      rw [consD_some z]
      cases e1 : evT C t p.1 σd M with
      | ok σ2 M2 =>
        rw [e1, ok_bind] at e
        simp [MTs.len, evTs_len e]
      | _ => rw [e1] at e; cases e
    · cases e
mutual
theorem evT_noex : ∀ (t : MT) (d : D) (σd : En) (M : Cs) (x : D) (M1 : Cs), evT C t d σd M ≠ .ex x M1
  | .nm i, d, σd, M, x, M1, e => by rw [evT] at e; cases e
  | .tp ts, d, σd, M, x, M1, e => by
    rw [evT] at e
    split at e
    · exact evTs_noex ts _ σd M x M1 e
    · cases e
  | .sub o i, d, σd, M, x, M1, e => by
    rw [evT] at e
    split at e
    · split at e
      · split at e
        · split at e
          · split at e <;> cases e
          · cases e
        · cases e
      · cases e
    · cases e
theorem evTs_noex : ∀ (t : MTs) (d : List D) (σd : En) (M : Cs) (x : D) (M1 : Cs), evTs C t d σd M ≠ .ex x M1
  | .nil, _, _, _, _, _, e => by
    rw [evTs] at e
    split at e <;> cases e
  | .cons t r, ds, σd, M, x, M1, e => by
    rw [evTs] at e
    split at e
    · rename_i p z
      cases e1 : evT C t p.1 σd M with
      | ok σ2 M2 =>
        rw [e1, ok_bind] at e
        exact evTs_noex r p.2 σ2 M2 x M1 e
      | bad => rw [e1] at e; cases e
      | ex _ _ => exact evT_noex t p.1 σd M _ _ e1
    · cases e
end
theorem Post.oks {Q : β → Hp → Prop} {r : Res α} (h : Post ω.no rel R H c M σ Q r) (n : ∀ x M1, r ≠ .ex x M1) : ∃ a M1, r = .ok a M1 := by
  cases r with
  | ok a M1 => exact ⟨a, M1, rfl⟩
  | ex x M1 => exact (n x M1 rfl).elim
  | bad => exact h.elim
mutual
theorem g_ok : ∀ (t : MT) {v : V} {σ : L2.St} {H : Hp} {Q : L2.St → Hp → Prop}, tG ω (evT C t) v σ H Q → gOf ω C K t v σ H Q
  | .nm i, v, σ, H, Q, h => by
    obtain ⟨R, c, σd, M, d, m, rs, rd, h⟩ := h
    rw [evT] at h
    exact h _ H c (Aft.refl m) (rs.set i rd)
  | .tp ts, v, σ, H, Q, h => by
    obtain ⟨R, c, σd, M, d, m, rs, rd, h⟩ := h
    rw [evT] at h
    split at h
    · rename_i xs z
      obtain ⟨σ1, M1, e⟩ := h.oks (evTs_noex _ _ _ _)
      rcases tupD_some z with z | z
      · rw [z] at rd
        simp only [Rp] at rd
        obtain ⟨a, vs, rfl, e1, _, e3⟩ := rd
        exact .inl ⟨a, vs, rfl, SqT.of e1, by rw [e3.len]; exact evTs_len e, gs_ok ts ⟨R, c, σd, M, xs, m, rs, e3, h⟩⟩
      · rw [z] at rd
        simp only [Rp] at rd
        obtain ⟨a, vs, rfl, e1, _, e3⟩ := rd
        exact .inr ⟨a, vs, rfl, SqL.of e1, by rw [e3.len]; exact evTs_len e, gs_ok ts ⟨R, c, σd, M, xs, m, rs, e3, h⟩⟩
    · exact h.elim
  | .sub o i, v, σ, H, Q, h => by
    obtain ⟨R, c, σd, M, d, m, rs, rd, h⟩ := h
    rw [evT] at h
    split at h
    · rename_i x M1 e1
      refine ⟨R, c, σd, M, m, rs, Post.eq e1 fun ov H1 c1 a1 r1 => ?_⟩
      replace h := Post.shift (ω := ω.no) a1 h
      split at h
      · rename_i y M2 e2
        refine ⟨R, c1, σd, M1, a1.2, rs.mono a1.1.gr, Post.eq e2 fun iv H2 c2 a2 r2 => ?_⟩
        replace h := Post.shift (ω := ω.no) a2 h
        split at h
        · rename_i n
          split at h
          · rename_i hf
            simp only [Bool.and_eq_true] at hf
            split at h
            · rename_i z e3
              simp only [Option.bind_eq_some_iff] at e3
              obtain ⟨x', e4, e5⟩ := e3
              have r1' := r1.mono a2.1.gr
              simp only [Rp] at r1'
              obtain ⟨a, rfl, hc⟩ := r1'
              have hn : M2[n]? = some (some x') := by
                simp only [Mp.rd] at e4
                split at e4
                · rename_i u he; simp at e4; rw [he, e4]
                · cases e4
              exact ⟨R, c2, M2, n, a, x', y, d, z, a2.2, hn, rfl, hc, r2, rd.mono (a1.1.trans a2.1).gr, hf.1, hf.2, e5, fun H' a3 => h σ H' c2 a3 (rs.mono ((a1.1.trans a2.1).trans a3.1).gr)⟩
            · exact h.elim
          · exact h.elim
        · exact h.elim
      · exact h.elim
    · exact h.elim
theorem gs_ok : ∀ (t : MTs) {v : List V} {σ : L2.St} {H : Hp} {Q : L2.St → Hp → Prop}, tGs ω (evTs C t) v σ H Q → gsOf ω C K t v σ H Q
  | .nil, v, σ, H, Q, h => by
    obtain ⟨R, c, σd, M, d, m, rs, rd, h⟩ := h
    rw [evTs] at h
    split at h
    · rename_i z
      simp at z; subst z
      exact ⟨RpL.nil_iff.mp rd, h _ H c (Aft.refl m) rs⟩
    · exact h.elim
  | .cons t r, v, σ, H, Q, h => by
    obtain ⟨R, c, σd, M, d, m, rs, rd, h⟩ := h
    rw [evTs] at h
    split at h
    · rename_i p z
      rw [consD_some z] at rd
      obtain ⟨v, vr, rfl, h1, h2⟩ := RpL.cons_iff.mp rd
      refine ⟨v, vr, rfl, g_ok t ⟨R, c, σd, M, p.1, m, rs, h1, h.bind fun σ1 M1 σ1' H1 c1 a1 r1 q => ?_⟩⟩
      exact gs_ok r ⟨R, c1, σ1, M1, p.2, a1.2, r1, h2.mono a1.1.gr, q.slots⟩
    · exact h.elim
end
mutual
/-- the names that a target stores -/
def MT.within (vs : List Nat) : MT → Bool
  | .nm i => decide (i ∈ vs)
  | .tp ts => ts.within vs
  | .sub _ _ => false
def MTs.within (vs : List Nat) : MTs → Bool
  | .nil => true
  | .cons t r => t.within vs && r.within vs
end
theorem wipe_set {x : Option V} : ∀ {vs : List Nat} {σ : L2.St} {i : Nat}, i ∈ vs → wipe (σ.set i x) vs = wipe σ vs
  | v :: vs, σ, i, h => by
    by_cases hv : i ∈ vs
    · simp only [wipe]; rw [wipe_set hv]
    · have e : i = v := by simpa [hv] using h
      subst e
      have : ∀ us : List Nat, i ∉ us → wipe (σ.set i x) us = (wipe σ us).set i x := fun us hu => by
        induction us with
        | nil => rfl
        | cons u us ih =>
          simp only [List.mem_cons, not_or] at hu
          simp only [wipe]
          rw [ih hu.2, List.set_comm _ _ hu.1]
      simp only [wipe]
      rw [this vs hv, List.set_set]
mutual
theorem g_wipe {vs : List Nat} : ∀ (t : MT) {v : V} {σ : L2.St} {H : Hp} {Q : L2.St → Hp → Prop}, t.within vs = true → gOf ω C K t v σ H Q → gOf ω C K t v σ H fun σ2 H2 => wipe σ2 vs = wipe σ vs ∧ Q σ2 H2
  | .nm i, v, σ, H, Q, w, h => ⟨wipe_set (by simpa [MT.within] using w), h⟩
  | .tp ts, v, σ, H, Q, w, h => by
    rcases h with ⟨a, xs, e1, e2, e3, h⟩ | ⟨a, xs, e1, e2, e3, h⟩
    · exact .inl ⟨a, xs, e1, e2, e3, gs_wipe ts (by simpa [MT.within] using w) h⟩
    · exact .inr ⟨a, xs, e1, e2, e3, gs_wipe ts (by simpa [MT.within] using w) h⟩
  | .sub o i, v, σ, H, Q, w, h => by simp [MT.within] at w
theorem gs_wipe {vs : List Nat} : ∀ (t : MTs) {v : List V} {σ : L2.St} {H : Hp} {Q : L2.St → Hp → Prop}, t.within vs = true → gsOf ω C K t v σ H Q → gsOf ω C K t v σ H fun σ2 H2 => wipe σ2 vs = wipe σ vs ∧ Q σ2 H2
  | .nil, v, σ, H, Q, w, h => ⟨h.1, rfl, h.2⟩
  | .cons t r, v, σ, H, Q, w, h => by
    simp only [MTs.within, Bool.and_eq_true] at w
    obtain ⟨x, xs, e, h⟩ := h
    have mono : ∀ (t : MT) {v : V} {σ : L2.St} {H : Hp} {Q Q' : L2.St → Hp → Prop}, t.within vs = true → (∀ σ2 H2, wipe σ2 vs = wipe σ vs → Q σ2 H2 → Q' σ2 H2) → gOf ω C K t v σ H (fun σ2 H2 => wipe σ2 vs = wipe σ vs ∧ Q σ2 H2) → gOf ω C K t v σ H Q' := fun t v σ H Q Q' w k h => g_mono t w (fun σ2 H2 q => k σ2 H2 q.1 q.2) h
    exact ⟨x, xs, e, mono t w.1 (fun σ2 H2 ew q => gs_mono r w.2 (fun σ3 H3 q3 => ⟨q3.1.trans ew, q3.2⟩) (gs_wipe r w.2 q)) (g_wipe t w.1 h)⟩
theorem g_mono {vs : List Nat} : ∀ (t : MT) {v : V} {σ : L2.St} {H : Hp} {Q Q' : L2.St → Hp → Prop}, t.within vs = true → (∀ σ2 H2, Q σ2 H2 → Q' σ2 H2) → gOf ω C K t v σ H Q → gOf ω C K t v σ H Q'
  | .nm i, v, σ, H, Q, Q', _, k, h => k _ _ h
  | .tp ts, v, σ, H, Q, Q', w, k, h => by
    rcases h with ⟨a, xs, e1, e2, e3, h⟩ | ⟨a, xs, e1, e2, e3, h⟩
    · exact .inl ⟨a, xs, e1, e2, e3, gs_mono ts (by simpa [MT.within] using w) k h⟩
    · exact .inr ⟨a, xs, e1, e2, e3, gs_mono ts (by simpa [MT.within] using w) k h⟩
  | .sub o i, v, σ, H, Q, Q', w, k, h => by simp [MT.within] at w
theorem gs_mono {vs : List Nat} : ∀ (t : MTs) {v : List V} {σ : L2.St} {H : Hp} {Q Q' : L2.St → Hp → Prop}, t.within vs = true → (∀ σ2 H2, Q σ2 H2 → Q' σ2 H2) → gsOf ω C K t v σ H Q → gsOf ω C K t v σ H Q'
  | .nil, v, σ, H, Q, Q', _, k, h => ⟨h.1, k _ _ h.2⟩
  | .cons t r, v, σ, H, Q, Q', w, k, h => by
    simp only [MTs.within, Bool.and_eq_true] at w
    obtain ⟨x, xs, e, h⟩ := h
    exact ⟨x, xs, e, g_mono t w.1 (fun σ2 H2 q => gs_mono r w.2 k q) h⟩
end
end
end Mp

/-! What is walked; list comprehensions. -/
namespace Mp
open PySem PySem.Spec PyProof.Rows L2

/-- J gives ds one by one, while what it leans on stands -/
structure Wkd (mg : Mg) (R : Addr → Prop) (H : Hp) (c : List Addr) (M : Cs) (J : It) (ds : List D) (ws : List Nat) : Prop where
  go : ∀ R' H' c' M' i, CM mg R' H' c' M' → Gr H (Lv R c M) c H' (Lv R' c' M') c' → same ws M M' = true → i < ds.length → J.go i H'
  stop : ∀ R' H' c' M', CM mg R' H' c' M' → Gr H (Lv R c M) c H' (Lv R' c' M') c' → same ws M M' = true → J.stop ds.length H'
  yld : ∀ R' H' c' M' i x H'', CM mg R' H' c' M' → Gr H (Lv R c M) c H' (Lv R' c' M') c' → same ws M M' = true → i < ds.length → J.yld i H' x H'' → ∃ d, ds[i]? = some d ∧ Aft mg R' H' c' M' M' H'' c' ∧ Rp mg H'' (Lv R' c' M') c' d x
def rlI (ω : Wk) : Rl (List D × List Nat) It := fun R H c M p J => Wkd ω.mg R H c M J p.1 p.2
abbrev tI (ω : Wk) (f : En → Cs → Res (List D × List Nat)) : TI := Snd ω (rlI ω) f
theorem _root_.L2.PI.imp {X : Cx} {tg e : Expr} {t u : TI} (h : PI X tg e t) (k : ∀ σ H Q, u σ H Q → t σ H Q) : PI X tg e u := ⟨fun pins s σ H Q I q => h.run pins s σ H Q I (k σ H Q q)⟩
theorem _root_.L2.PI.or {X : Cx} {tg e : Expr} {t u : TI} (h : PI X tg e t) (k : PI X tg e u) : PI X tg e (fun σ H R => t σ H R ∨ u σ H R) :=
  ⟨fun pins s σ H Q I q => q.elim (h.run pins s σ H Q I) (k.run pins s σ H Q I)⟩

section
variable {ω : Wk} {C : Cl} {σ : L2.St} {H : Hp} {X : Cx} {K : PySem.W.Frag} {mg : Mg} {R : Addr → Prop} {c : List Addr} {M : Cs} {a b : Addr} {ds es : List D} {ws us : List Nat} {x y : D}
/-- the row at a -/
def RowL (mg : Mg) (R : Addr → Prop) (H : Hp) (c : List Addr) (M : Cs) (a : Addr) (ds : List D) (ws : List Nat) : Prop := ∀ R' H' c' M', CM mg R' H' c' M' → Gr H (Lv R c M) c H' (Lv R' c' M') c' → same ws M M' = true → ∃ vs, H' a = some (.lst vs) ∧ RpL mg H' (Lv R' c' M') c' ds vs
def RowT (mg : Mg) (R : Addr → Prop) (H : Hp) (c : List Addr) (M : Cs) (a : Addr) (ds : List D) : Prop := ∀ R' H' c' M', CM mg R' H' c' M' → Gr H (Lv R c M) c H' (Lv R' c' M') c' → ∃ vs, H' a = some (.tup vs) ∧ RpL mg H' (Lv R' c' M') c' ds vs
theorem row_of {v : V} (m : CM mg R H c M) (r : Rp mg H (Lv R c M) c x v) (e : itemsD M x = some ds) : ∃ a, v = .ref a ∧ ((rd M x = some (.lst ds) ∧ RowL mg R H c M a ds (watch x)) ∨ (rd M x = some (.tup ds) ∧ RowT mg R H c M a ds)) := by
  unfold itemsD at e
  split at e
  · rename_i xs e1
    simp only [Option.some.injEq] at e; subst e
    have : x = .tup xs := by
      cases x <;> simp only [rd] at e1 <;> first | (split at e1 <;> first | (rename_i u he; simp at e1; subst e1; have := (m.obj _ _ he); obtain ⟨_, _, z⟩ := this; exact z.elim) | cases e1) | (cases e1; try rfl)
    subst this
    simp only [Rp] at r
    obtain ⟨a, vs, rfl, h1, h2, h3⟩ := r
    exact ⟨a, rfl, .inr ⟨e1, fun R' H' c' M' m' g => ⟨vs, (g.keep a _ h1 h2).1, h3.mono g⟩⟩⟩
  · rename_i xs e1
    simp only [Option.some.injEq] at e; subst e
    cases x <;> simp only [rd, Option.some.injEq, reduceCtorEq] at e1
    case lst ys =>
      have e2 : ys = xs := by simpa using e1
      subst e2
      simp only [Rp] at r
      obtain ⟨a, vs, rfl, h1, h2, h3⟩ := r
      exact ⟨a, rfl, .inl ⟨rfl, fun R' H' c' M' m' g _ => ⟨vs, (g.keep a _ h1 h2).1, h3.mono g⟩⟩⟩
    case cell n =>
      have e1' := e1
      split at e1
      · rename_i u he
        have e2 : u = .lst xs := by simpa using e1
        subst e2
        simp only [Rp] at r
        obtain ⟨a, rfl, hc⟩ := r
        refine ⟨a, rfl, .inl ⟨by simp only [rd]; exact e1', fun R' H' c' M' m' g w => ?_⟩⟩
        have hw : M'[n]? = M[n]? := by simpa [same, watch] using w
        obtain ⟨a', k1, k2⟩ := m'.obj n (.lst xs) (hw.trans he)
        rw [g.pre n (List.getElem?_eq_some_iff.mp hc).1, hc] at k1
        cases k1
        exact k2
      · cases e1
  · cases e
theorem wkd_lst (h : RowL mg R H c M a ds ws) : Wkd mg R H c M (Itl K a) ds ws where
  go := fun R' H' c' M' i m g w hi => by
    obtain ⟨vs, h1, h2⟩ := h R' H' c' M' m g w
    exact ⟨vs, vs[i]'(by rw [h2.len]; exact hi), SqL.of h1, List.getElem?_eq_getElem _⟩
  stop := fun R' H' c' M' m g w => by
    obtain ⟨vs, h1, h2⟩ := h R' H' c' M' m g w
    exact ⟨vs, SqL.of h1, by rw [h2.len]; exact Nat.le_refl _⟩
  yld := fun R' H' c' M' i x H'' m g w hi q => by
    obtain ⟨rfl, q⟩ := q
    obtain ⟨vs, h1, h2⟩ := h R' _ c' M' m g w
    obtain ⟨d, e1, e2⟩ := h2.get' (q vs (SqL.of h1))
    exact ⟨d, e1, Aft.refl m, e2⟩
theorem wkd_tup (h : RowT mg R H c M a ds) : Wkd mg R H c M (Itt K a) ds ws where
  go := fun R' H' c' M' i m g w hi => by
    obtain ⟨vs, h1, h2⟩ := h R' H' c' M' m g
    exact ⟨vs, vs[i]'(by rw [h2.len]; exact hi), SqT.of h1, List.getElem?_eq_getElem _⟩
  stop := fun R' H' c' M' m g w => by
    obtain ⟨vs, h1, h2⟩ := h R' H' c' M' m g
    exact ⟨vs, SqT.of h1, by rw [h2.len]; exact Nat.le_refl _⟩
  yld := fun R' H' c' M' i x H'' m g w hi q => by
    obtain ⟨rfl, q⟩ := q
    obtain ⟨vs, h1, h2⟩ := h R' _ c' M' m g
    obtain ⟨d, e1, e2⟩ := h2.get' (q vs (SqT.of h1))
    exact ⟨d, e1, Aft.refl m, e2⟩
theorem rng_len (i : Int) (n : Nat) : ((List.range n).map fun k : Nat => D.int (i + k)).length = n := by simp
theorem wkd_rng {i : Int} {n : Nat} : Wkd mg R H c M (Itr i n) ((List.range n).map fun k : Nat => .int (i + k)) ws where
  go := fun _ _ _ _ j _ _ _ hj => by rw [rng_len] at hj; exact hj
  stop := fun _ _ _ _ _ _ _ => by rw [rng_len]; exact Nat.le_refl _
  yld := fun R' H' c' M' j x H'' m g w hj q => by
    obtain ⟨rfl, rfl⟩ := q
    rw [rng_len] at hj
    exact ⟨.int (i + j), by simp [hj], Aft.refl m, by simp [Rp]⟩
theorem same_app : same (ws ++ us) M M = true := by simp [same]
theorem same_split {M' : Cs} (h : same (ws ++ us) M M' = true) : same ws M M' = true ∧ same us M M' = true := by
  simpa [same, List.all_append] using h
theorem pair_new {H' : Hp} {d e : D} {v u : V} {T : Addr} (m : CM mg R H c M) (hT : H T = none) (r1 : Rp mg H (Lv R c M) c d v) (r2 : Rp mg H (Lv R c M) c e u) :
    Aft mg R H c M M (upd H T (.tup [v, u])) c ∧ Rp mg (upd H T (.tup [v, u])) (Lv R c M) c (.tup [d, e]) (.ref T) := by
  refine ⟨⟨Stp.new m hT, m.new hT⟩, ?_⟩
  simp only [Rp]
  exact ⟨T, [v, u], rfl, upd_same, m.fresh hT, RpL.mono (Stp.new m hT).gr _ (RpL.cons r1 (RpL.cons r2 RpL.nil))⟩
theorem enum_len : (enumD ds).length = ds.length := by simp [enumD]
theorem wkd_enum (h : RowL mg R H c M a ds ws) : Wkd mg R H c M (Ite K a) (enumD ds) ws where
  go := fun R' H' c' M' i m g w hi => by
    obtain ⟨vs, h1, h2⟩ := h R' H' c' M' m g w
    rw [enum_len] at hi
    exact ⟨vs, vs[i]'(by rw [h2.len]; exact hi), SqL.of h1, List.getElem?_eq_getElem _⟩
  stop := fun R' H' c' M' m g w => by
    obtain ⟨vs, h1, h2⟩ := h R' H' c' M' m g w
    exact ⟨vs, SqL.of h1, by rw [h2.len, enum_len]; exact Nat.le_refl _⟩
  yld := fun R' H' c' M' i x H'' m g w hi q => by
    obtain ⟨T, z, rfl, hT, rfl, q⟩ := q
    obtain ⟨vs, h1, h2⟩ := h R' H' c' M' m g w
    obtain ⟨d, e1, e2⟩ := h2.get' (q vs (SqL.of h1))
    obtain ⟨k1, k2⟩ := pair_new (H' := H') m hT (d := .int (i : Nat)) (v := .int (i : Nat)) (by simp [Rp]) e2
    refine ⟨.tup [.int (i : Nat), d], ?_, k1, k2⟩
    have hlt : i < ds.length := by rw [enum_len] at hi; exact hi
    have e3 : ds[i] = d := by rw [List.getElem?_eq_getElem hlt] at e1; simpa using e1
    simp [enumD, hlt, e3]
theorem zip_len : (zipD ds es).length = min ds.length es.length := by simp [zipD]
theorem zip_get {i : Nat} {d e : D} (h1 : ds[i]? = some d) (h2 : es[i]? = some e) : (zipD ds es)[i]? = some (.tup [d, e]) := by
  rw [zipD, List.getElem?_map, List.getElem?_zip_eq_some (z := (d, e)) |>.mpr ⟨h1, h2⟩]
  rfl
theorem wkd_zipL (h : RowL mg R H c M a ds ws) (k : RowL mg R H c M b es us) : Wkd mg R H c M (Itz K a b) (zipD ds es) (ws ++ us) where
  go := fun R' H' c' M' i m g w hi => by
    obtain ⟨vs, h1, h2⟩ := h R' H' c' M' m g (same_split w).1
    obtain ⟨zs, k1, k2⟩ := k R' H' c' M' m g (same_split w).2
    rw [zip_len] at hi
    exact ⟨vs, zs, vs[i]'(by rw [h2.len]; omega), zs[i]'(by rw [k2.len]; omega), SqL.of h1, SqL.of k1, by simp, by simp⟩
  stop := fun R' H' c' M' m g w => by
    obtain ⟨vs, h1, h2⟩ := h R' H' c' M' m g (same_split w).1
    obtain ⟨zs, k1, k2⟩ := k R' H' c' M' m g (same_split w).2
    exact ⟨vs, zs, SqL.of h1, SqL.of k1, by rw [h2.len, k2.len, zip_len]; omega⟩
  yld := fun R' H' c' M' i x H'' m g w hi q => by
    obtain ⟨T, z1, z2, rfl, hT, rfl, q1, q2⟩ := q
    obtain ⟨vs, h1, h2⟩ := h R' H' c' M' m g (same_split w).1
    obtain ⟨zs, k1, k2⟩ := k R' H' c' M' m g (same_split w).2
    obtain ⟨d, e1, e2⟩ := h2.get' (q1 vs (SqL.of h1))
    obtain ⟨e, f1, f2⟩ := k2.get' (q2 zs (SqL.of k1))
    obtain ⟨g1, g2⟩ := pair_new (H' := H') m hT e2 f2
    exact ⟨.tup [d, e], zip_get e1 f1, g1, g2⟩
theorem wkd_zipT (h : RowT mg R H c M a ds) (k : RowT mg R H c M b es) : Wkd mg R H c M (RZ.ItzT K a b) (zipD ds es) ws where
  go := fun R' H' c' M' i m g w hi => by
    obtain ⟨vs, h1, h2⟩ := h R' H' c' M' m g
    obtain ⟨zs, k1, k2⟩ := k R' H' c' M' m g
    rw [zip_len] at hi
    exact ⟨vs, zs, vs[i]'(by rw [h2.len]; omega), zs[i]'(by rw [k2.len]; omega), SqT.of h1, SqT.of k1, by simp, by simp⟩
  stop := fun R' H' c' M' m g w => by
    obtain ⟨vs, h1, h2⟩ := h R' H' c' M' m g
    obtain ⟨zs, k1, k2⟩ := k R' H' c' M' m g
    exact ⟨vs, zs, SqT.of h1, SqT.of k1, by rw [h2.len, k2.len, zip_len]; omega⟩
  yld := fun R' H' c' M' i x H'' m g w hi q => by
    obtain ⟨T, z1, z2, rfl, hT, rfl, q1, q2⟩ := q
    obtain ⟨vs, h1, h2⟩ := h R' H' c' M' m g
    obtain ⟨zs, k1, k2⟩ := k R' H' c' M' m g
    obtain ⟨d, e1, e2⟩ := h2.get' (q1 vs (SqT.of h1))
    obtain ⟨e, f1, f2⟩ := k2.get' (q2 zs (SqT.of k1))
    obtain ⟨g1, g2⟩ := pair_new (H' := H') m hT e2 f2
    exact ⟨.tup [d, e], zip_get e1 f1, g1, g2⟩

/-! ### the forms of what is walked -/
theorem i_seq {e : ME} {Q : It → Hp → Prop} (h : tI ω (evI C (.seq e)) σ H Q) : iList K (tE ω (evE C e)) σ H Q ∨ iTup K (tE ω (evE C e)) σ H Q := by
  obtain ⟨R, c, σd, M, m, rs, h⟩ := h
  rw [evI] at h
  cases e1 : evE C e σd M with
  | bad => rw [e1] at h; exact h.elim
  | ex x M1 =>
    rw [e1] at h
    exact .inl ⟨R, c, σd, M, m, rs, by rw [e1]; exact h⟩
  | ok x M1 =>
    rw [e1, ok_bind] at h
    cases e2 : itemsD M1 x with
    | none => rw [e2] at h; exact h.elim
    | some ds =>
      rw [e2] at h
      cases e3 : rd M1 x with
      | none => simp [itemsD, e3] at e2
      | some z =>
        by_cases hz : ∃ ys, z = .tup ys
        · obtain ⟨ys, rfl⟩ := hz
          refine .inr ⟨R, c, σd, M, m, rs, Post.eq e1 fun v H1 c1 a1 r1 => ?_⟩
          obtain ⟨a, rfl, k⟩ := row_of a1.2 r1 e2
          rcases k with ⟨k, _⟩ | ⟨k, w⟩
          · rw [e3] at k; cases k
          · obtain ⟨vs, h1, _⟩ := w R H1 c1 M1 a1.2 (Stp.refl R H1 c1 M1).gr
            exact ⟨a, rfl, ⟨vs, SqT.of h1⟩, h _ H1 c1 a1 (wkd_tup w)⟩
        · refine .inl ⟨R, c, σd, M, m, rs, Post.eq e1 fun v H1 c1 a1 r1 => ?_⟩
          obtain ⟨a, rfl, k⟩ := row_of a1.2 r1 e2
          rcases k with ⟨k, w⟩ | ⟨k, _⟩
          · obtain ⟨vs, h1, _⟩ := w R H1 c1 M1 a1.2 (Stp.refl R H1 c1 M1).gr (by simp [same])
            exact ⟨a, rfl, ⟨vs, SqL.of h1⟩, h _ H1 c1 a1 (wkd_lst w)⟩
          · rw [e3] at k; cases k; exact (hz ⟨_, rfl⟩).elim
theorem rngD_some {p q : D} {zs : List D} (h : rngD p q = some zs) : ∃ i j : Int, p = .int i ∧ q = .int j ∧ (-(2 ^ 62) ≤ i ∧ i < 2 ^ 62 ∧ -(2 ^ 62) ≤ j ∧ j < 2 ^ 62) ∧ zs = (List.range (j - i).toNat).map fun n : Nat => .int (i + n) := by
  cases p <;> cases q <;> simp only [rngD] at h <;> try contradiction
  rename_i i j
  split at h
  · rename_i k
    simp only [Bool.and_eq_true, decide_eq_true_eq] at k
    cases h
    exact ⟨i, j, rfl, rfl, ⟨k.1.1.1, k.1.1.2, k.1.2, k.2⟩, rfl⟩
  · cases h
theorem i_rng {p q : ME} {Q : It → Hp → Prop} (h : tI ω (evI C (.rng p q)) σ H Q) : iRng2 (tCons (tE ω (evE C p)) (tCons (tE ω (evE C q)) tNil)) σ H Q := by
  obtain ⟨R, c, σd, M, m, rs, h⟩ := h
  rw [evI] at h
  refine ⟨R, c, σd, M, m, rs, h.bind fun x M1 v H1 c1 a1 r1 h1 => ⟨R, c1, σd, M1, a1.2, rs.mono a1.1.gr, h1.bind fun y M2 u H2 c2 a2 r2 h2 => ?_⟩⟩
  obtain ⟨d, e, h3⟩ := h2.opt
  simp only [Option.map_eq_some_iff] at e
  obtain ⟨zs, e, rfl⟩ := e
  obtain ⟨i, j, rfl, rfl, k, rfl⟩ := rngD_some e
  simp only [rlD, Rp] at r1 r2
  exact ⟨i, j, by rw [r1, r2], k, h3 _ H2 c2 (Aft.refl a2.2) wkd_rng⟩
theorem i_rng1 {q : ME} {Q : It → Hp → Prop} (h : tI ω (evI C (.rng (.con (.int 0)) q)) σ H Q) : iRng1 (tCons (tE ω (evE C q)) tNil) σ H Q := by
  obtain ⟨R, c, σd, M, m, rs, h⟩ := h
  rw [evI, evE, ok_bind] at h
  refine ⟨R, c, σd, M, m, rs, h.bind fun y M2 u H2 c2 a2 r2 h2 => ?_⟩
  obtain ⟨d, e, h3⟩ := h2.opt
  simp only [Option.map_eq_some_iff] at e
  obtain ⟨zs, e, rfl⟩ := e
  obtain ⟨i, j, e1, rfl, k, rfl⟩ := rngD_some e
  cases e1
  simp only [rlD, Rp] at r2
  have h4 := h3 (Itr 0 j.toNat) H2 c2 (Aft.refl a2.2) (by
    have : (j - 0).toNat = j.toNat := by rw [Int.sub_zero]
    show Wkd _ _ _ _ _ _ _ _
    rw [this]
    exact wkd_rng)
  exact ⟨j, by rw [r2], k.2.2.1, k.2.2.2, h4⟩
/-! ### range(a, -1, -1), list(range(..)) -/
theorem wkd_rdn {R : Addr → Prop} {c : List Addr} {M : Cs} {ws : List Nat} {mg : Mg} {i : Int} {n : Nat} : Wkd mg R H c M (Itc i (-1) n) ((List.range n).map fun k : Nat => .int (i - k)) ws where
  go := fun _ _ _ _ j _ _ _ hj => by rw [List.length_map, List.length_range] at hj; exact hj
  stop := fun _ _ _ _ _ _ _ => by rw [List.length_map, List.length_range]; exact Nat.le_refl _
  yld := fun R' H' c' M' j x H'' m g w hj q => by
    obtain ⟨rfl, rfl⟩ := q
    rw [List.length_map, List.length_range] at hj
    exact ⟨.int (i - j), by simp [hj], Aft.refl m, by simp [Rp, Int.sub_eq_add_neg]⟩
/-- -1 -/
def tM1 : TE := tUn (rU fun i => .int (-i)) (tC (.int 1))
theorem i_rdn {p : ME} {Q : It → Hp → Prop} (h : tI ω (evI C (.rdn p)) σ H Q) : iRng3 (tCons (tE ω (evE C p)) (tCons tM1 (tCons tM1 tNil))) σ H Q := by
  obtain ⟨R, c, σd, M, m, rs, h⟩ := h
  rw [evI] at h
  refine ⟨R, c, σd, M, m, rs, h.bind fun x M1 v H1 c1 a1 r1 h1 => ?_⟩
  obtain ⟨d, e, h3⟩ := h1.opt
  simp only [Option.map_eq_some_iff] at e
  obtain ⟨zs, e, rfl⟩ := e
  cases x <;> simp only [rdnD] at e <;> try contradiction
  rename_i i
  split at e
  · rename_i k
    simp only [Bool.and_eq_true, decide_eq_true_eq] at k
    cases e
    simp only [rlD, Rp] at r1
    refine ⟨1, rfl, 1, rfl, i, -1, -1, (i + 1).toNat, by rw [r1], ?_, h3 _ H1 c1 (Aft.refl a1.2) wkd_rdn⟩
    have := RgC.neg (i := i) (j := -1) k.1 k.2 (by omega) (by omega)
    rw [show i - -1 = i + 1 by omega] at this
    exact this
  · cases e
theorem rgV_rp {mg : Mg} {U : Addr → Prop} {c : List Addr} (i : Int) : ∀ n : Nat, RpL mg H U c ((List.range n).map fun k : Nat => .int (i + k)) ((List.range n).map fun k : Nat => V.int (i + k)) := fun n => by
  have key : ∀ ks : List Nat, RpL mg H U c (ks.map fun k : Nat => .int (i + k)) (ks.map fun k : Nat => V.int (i + k)) := fun ks => by
    induction ks with
    | nil => exact RpL.nil
    | cons k ks ih => exact RpL.cons (by simp [Rp]) ih
  exact key _
theorem sF_lrng {Q : VK} {p q : ME} (h : tF ω (evE C (.lrng p q)) σ H Q) : tLstRg (tRg2 (tE ω (evE C p)) (tE ω (evE C q))) σ H Q := by
  obtain ⟨R, c, σd, M, m, rs, h⟩ := h
  dsimp only at h
  rw [evE, bind_assoc] at h
  refine ⟨R, c, σd, M, m, rs, h.bind fun x M1 v H1 c1 a1 r1 h1 => ?_⟩
  rw [bind_assoc] at h1
  refine ⟨R, c1, σd, M1, a1.2, rs.mono a1.1.gr, h1.bind fun y M2 u H2 c2 a2 r2 h2 => ?_⟩
  obtain ⟨d, e, h3⟩ := nw_opt h2
  simp only [Option.bind_eq_some_iff] at e
  obtain ⟨zs, e, e2⟩ := e
  obtain ⟨i, j, rfl, rfl, k, rfl⟩ := rngD_some e
  split at e2
  · rename_i hl
    cases e2
    simp only [rlD, Rp] at r1 r2
    rw [List.length_map, List.length_range] at hl
    refine ⟨i, j, r1, r2, ⟨k.1, k.2.1, k.2.2.1, k.2.2.2, hl⟩, fun l hl2 => ?_⟩
    exact h3.2 (l, .lst (rgV i j)) H2 c2 (Aft.refl a2.2) ⟨_, rfl, rgV_rp i _⟩ hl2
  · cases e2
theorem sF_lrng1 {Q : VK} {q : ME} (h : tF ω (evE C (.lrng (.con (.int 0)) q)) σ H Q) : tLstRg (tRg1 (tE ω (evE C q))) σ H Q := by
  obtain ⟨R, c, σd, M, m, rs, h⟩ := h
  dsimp only at h
  rw [evE, bind_assoc, evE, ok_bind, bind_assoc] at h
  refine ⟨R, c, σd, M, m, rs, h.bind fun y M2 u H2 c2 a2 r2 h2 => ?_⟩
  obtain ⟨d, e, h3⟩ := nw_opt h2
  simp only [Option.bind_eq_some_iff] at e
  obtain ⟨zs, e, e2⟩ := e
  obtain ⟨i, j, e1, rfl, k, rfl⟩ := rngD_some e
  cases e1
  split at e2
  · rename_i hl
    cases e2
    simp only [rlD, Rp] at r2
    rw [List.length_map, List.length_range] at hl
    refine ⟨j, r2, ⟨k.1, k.2.1, k.2.2.1, k.2.2.2, hl⟩, fun l hl2 => ?_⟩
    exact h3.2 (l, .lst (rgV 0 j)) H2 c2 (Aft.refl a2.2) ⟨_, rfl, rgV_rp 0 _⟩ hl2
  · cases e2
end
end Mp

/-! enumerate over a tuple; the forms enumerate, zip. -/
namespace Mp
open PySem PySem.Spec PyProof.Rows L2
open Sem (wp)

section
variable {prog : Program} {w : World} {A : Around} {E : Value → Shared → Prop} {s : Shared}
theorem meets_enum1 {v : Value} {oi : Obj} {Hv : Heap → Prop} (B : Begins v oi Hv) :
    Meets (Builtin.«enumerate.__new__» ⟨[.type "enumerate", v], []⟩) (fun _ R s1 => Hv s1.heap ∧ R (.ok (.ret (.ref (s1.heap.push oi).objs.size)))
      { s1 with heap := (s1.heap.push oi).push { cls := .type "enumerate", data := .fields #[.none, .bool false, .ref s1.heap.objs.size, rawInt 0, .none, .none] } }) :=
  .of_wp fun prog w A R s h => by
    obtain ⟨hq, gq, dq, tq, oq⟩ := s
    obtain ⟨hv, hk⟩ := h
    have _sub := sub_enumerate
    have itv : ∀ {A' : Around} {E : Value → Shared → Prop} {Q : Value → Shared → Prop}, Q (.ref hq.objs.size) ⟨hq.push oi, gq, dq, tq, oq⟩ → wpAny (model prog w) A' (pyIter v) Q E ⟨hq, gq, dq, tq, oq⟩ := fun q => B.iter prog w _ _ ⟨hq, gq, dq, tq, oq⟩ _ hv q
    wp_walk using itv
    refine wpAny_stack_any fun st => wpAny_pure ?_
    split
    · rename_i cq _ _ _ _ _
      cases (cq == Value.type "enumerate")
      all_goals
        wp_walk using itv
        exact ⟨_, rfl, hk⟩
    · wp_walk using itv
      exact ⟨_, rfl, hk⟩
/-- enumerate(t): its two new records -/
theorem call_enum1 {t : Addr} {its : Array Value} {Q : Value → Shared → Prop} (ht : s.heap.IsTuple t its)
    (k : ∀ hn, IsEnum hn (s.heap.objs.size + 1) s.heap.objs.size 0 .none → hn.IsTupleIter s.heap.objs.size t 0 → (∀ b o, s.heap.get? b = some o → hn.get? b = some o) → Q (.ref (s.heap.objs.size + 1)) { s with heap := hn }) :
    wpAny (model prog w) A (call (.type "enumerate") [.ref t]) Q E s := by
  refine callType_new F.called_enumerate (by decide) (F.typeCall_enumerate_1 _) (F.newCall_enumerate_1 _) (fun ob => F.args_object_init_2 ob _) F.entry_enumerate_new (meets_enum1 (begins_tuple t its)) ⟨ht, ?_⟩
  generalize hoi : ({ cls := .type "tuple_iterator", data := .fields #[.ref t, .int 0 0] } : Obj) = oi
  have size1 : (s.heap.push oi).objs.size = s.heap.objs.size + 1 := Heap.size_push ..
  show _ ∧ _
  rw [size1]
  have here : IsEnum ((s.heap.push oi).push { cls := .type "enumerate", data := .fields #[.none, .bool false, .ref s.heap.objs.size, rawInt 0, .none, .none] }) (s.heap.objs.size + 1) s.heap.objs.size 0 .none := by
    have e := Heap.get?_push_size (s.heap.push oi) (o := { cls := .type "enumerate", data := .fields #[.none, .bool false, .ref s.heap.objs.size, rawInt 0, .none, .none] }) rfl
    rw [size1] at e
    exact e
  exact ⟨⟨_, here, rfl⟩, k _ here ⟨oi, Heap.get?_push_of_some _ (Heap.get?_push_size _ (by rw [← hoi]; rfl)), by rw [← hoi], by rw [← hoi]; rfl⟩ fun b o q => Heap.get?_push_of_some _ (Heap.get?_push_of_some _ q)⟩
end

/-- the tuple at a as it stands at each turn, each item in a new pair -/
def IteT (K : PySem.W.Frag) (a : Addr) : It where
  go := fun i H => ∃ (xs : List V) (x : V), SqT K H a xs ∧ xs[i]? = some x
  yld := fun i H v H' => ∃ T x, v = .ref T ∧ H T = none ∧ H' = upd H T (.tup [.int (i : Nat), x]) ∧ ∀ xs, SqT K H a xs → xs[i]? = some x
  stop := fun i H => ∃ xs : List V, SqT K H a xs ∧ xs.length ≤ i
theorem turn_enumT {P : Program} {w : World} {K : PySem.W.Frag} {elts : List Expr} {kk : Nat} {tpos : Pos} (a e it : Addr) :
    Turn P w K (.Tuple elts kk tpos) (IteT K a) [e, it] e (fun i h => (∃ old, IsEnum h e it ((i : Nat) : Int) old) ∧ h.IsTupleIter it a i ∧ e ≠ it) where
  mem := List.mem_cons_self ..
  obj := by
    rintro i h ⟨⟨old, he⟩, ⟨oi, ho, hc, hd⟩, ne⟩ b hb
    rcases (by simpa using hb : b = e ∨ b = it) with rfl | rfl
    · exact ⟨_, he, fun v q => nomatch q⟩
    · exact ⟨oi, ho, fun v q => by rw [hd] at q; cases q⟩
  keep := by
    rintro i h h' ⟨⟨old, he⟩, hi, ne⟩ k
    exact ⟨⟨old, k e (by simp) _ he⟩, hi.at fun o q => k it (by simp) o q, ne⟩
  item := by
    rintro X rfl rfl rfl hc i pins s σ H E I hf ⟨⟨old, he⟩, hit, ne⟩ ⟨xs, x, hq, hx⟩
    obtain ⟨its, rv, tp, hz⟩ := I.tuple hq
    obtain ⟨u, hu, ru⟩ := rv.get hx
    have tp' : s.heap.IsTuple a its.toArray := let ⟨o, h1, h2, n, h4⟩ := tp; ⟨o, h1, h2, n, h4⟩
    have le : e < s.heap.objs.size := Heap.lt_size he
    have li : it < s.heap.objs.size := let ⟨_, q, _⟩ := hit; Heap.lt_size q
    have na : a ≠ it := fun z => by
      obtain ⟨o1, p1, p2, _⟩ := hit
      obtain ⟨o2, q1, q2, _⟩ := tp'
      rw [z, p1] at q1; cases q1
      rw [p2] at q2; injection q2 with q2; exact absurd q2 (by decide)
    have nae : e ∉ [it, a] := fun z => by
      rcases (by simpa using z : e = it ∨ e = a) with z | z
      · exact ne z
      · obtain ⟨o2, q1, q2, _⟩ := tp'
        rw [← z, show s.heap.get? e = _ from he] at q1
        cases q1; injection q2 with q2; exact absurd q2 (by decide)
    have lt : i < its.toArray.size := by
      have := (List.getElem?_eq_some_iff.mp hu).1
      simpa using this
    refine wpAny_pyNext_enum_itemD (Draws.tuple (A := X.A.in1) (I.ok.hd hc) it a na its.toArray) he ⟨hit, tp'⟩ lt ne nae fun z h1 tk hz1 out st hT hs1 keepb => ?_
    have ez : z = u := by
      have : (its.toArray)[i]? = some u := by simpa using hu
      rw [this] at hz1; cases hz1; rfl
    subst ez
    refine ⟨_, rfl, wpAny_letOwnedTupleGo_enum (s := { s with heap := h1, toks := tk + 1 }) out fun h2 he2 sb => ?_⟩
    have hT2 : h2.get? s.heap.objs.size = some { cls := .type "tuple", data := .seq #[.int i tk, z] } := (sb.2 _ (Nat.ne_of_gt le)).trans hT
    have made : ObjOk X.prog X.w (upd H s.heap.objs.size (.tup [.int (i : Nat), x])) h2 s.heap.objs.size (.tup [.int (i : Nat), x]) := ⟨by show 2 ≤ sizeLine; decide, [.int i tk, z], .cons ⟨_, rfl⟩ (.cons ru .nil), ⟨_, hT2, rfl, _, rfl⟩⟩
    have I1 : Inv X pins σ (upd H s.heap.objs.size (.tup [.int (i : Nat), x])) { s with heap := h2, toks := tk + 1 } :=
      I.turnedNew (ch := [e, it]) (fun b ob hb q => (sb.2 b (fun z => hb (by simp [z]))).trans (keepb b ob (fun z => hb (by simp [z])) (fun z => hb (by simp [z])) q)) hf (Nat.le_refl _) made
    refine ⟨.ref s.heap.objs.size, _, I1, rfl, ⟨_, x, rfl, I.hok.fresh (Nat.le_refl _), rfl, fun ys hy => by rw [I.tuple_inj hy hq]; exact hx⟩, ⟨⟨z, ?_⟩, st.1.at fun o q => (sb.2 it (Ne.symm ne)).trans q, ne⟩, fun b hb => ?_⟩
    · rw [show ((i + 1 : Nat) : Int) = (i : Int) + 1 by omega]; exact he2
    · have hb' : b < s.heap.objs.size := by
        rcases (by simpa using hb : b = e ∨ b = it) with rfl | rfl
        · exact le
        · exact li
      rw [upd_ne (Nat.ne_of_lt hb')]
      exact (hf b hb).1
  done := by
    rintro X rfl rfl rfl hc i pins s σ H E I hf ⟨⟨old, he⟩, hit, ne⟩ ⟨xs, hq, hx⟩
    obtain ⟨its, rv, tp, hz⟩ := I.tuple hq
    have tp' : s.heap.IsTuple a its.toArray := let ⟨o, h1, h2, n, h4⟩ := tp; ⟨o, h1, h2, n, h4⟩
    obtain ⟨f0, f1, f2, f3, f4, f5⟩ := hf it (by simp)
    have hl := rv.length
    have hT : s.TypeIs (.ref e) "enumerate" := ⟨_, he, rfl⟩
    unfold pyNext
    refine wpAny_bind (wpAny_attempt (wpAny_callSpecial?_slot (name := Str.ofString "__next__") hT F.slot_enumerate_next (wpAny_call_entry F.slot_enumerate_next hT F.entry_enumerate_next ?_ (F.args_enumerate_next_1 _))))
    show wpAny _ _ (field (.ref e) 2 >>= _) _ _ _
    refine wpAny_bind (wpAny_field he rfl (x := .ref it) rfl ?_)
    refine wpAny_bind (wpAny_nextOf_tuple_end (I.ok.hd hc) hit tp' (by simp; omega) fun h1 ev ex hx1 => ?_)
    obtain ⟨oe, ho, hc1⟩ := hx1
    exact wpAny_bind (wpAny_isInstance (T := "StopIteration") (b := true) ⟨oe, ho, hc1⟩ isSubtype_stop (wpAny_pure ⟨rfl, I.turned (t' := s.toks) (fun b o hb q => ex b o hb q) f0 f1 f3 f4 f5⟩))
  self := fun A i s Q E st h => let ⟨⟨_, he⟩, _⟩ := st; wpAny_pyIter_enum he h
def iEnumT (K : PySem.W.Frag) (ta : TA) : TI := fun σ H R => ta σ H fun vs H1 => ∃ a xs, vs = [.ref a] ∧ SqT K H1 a xs ∧ R (IteT K a) H1
theorem pi_enumT {X : Cx} {e : Expr} {ta : TA} {p pos tpos : Pos} {elts : List Expr} {kk : Nat} (hg : Gl X "enumerate") (hm : X.mg "enumerate" = none) (ha : PA X [e] ta) (hs : starEach [e] X.env = [(false, eval e X.env)]) : PI X (.Tuple elts kk tpos) (.Call (.Name "enumerate" p) [e] [] pos) (iEnumT X.K ta) := by
  refine ⟨fun pins s σ H R I h => ?_⟩
  refine Call_ (ld_blt I hg hm boot_enumerate (PyProof.Rows.callWith_type1 (thn (ha.run pos pins s σ H _ I h) fun us s1 ⟨vs, H1, I1, r1, a, xs, ex, hq, q⟩ => ?_) hs rfl))
  subst ex
  obtain ⟨u, rfl, ru⟩ := vals1 r1
  obtain rfl : u = Value.ref a := ru
  obtain ⟨its, rv, tp, hz⟩ := I1.tuple hq
  have tp' : s1.heap.IsTuple a its.toArray := let ⟨o, h1, h2, n, h4⟩ := tp; ⟨o, h1, h2, n, h4⟩
  refine call_enum1 tp' fun hn he hit hk => wpAny_pyIter_enum he ?_
  have I2 : Inv X pins σ H1 { s1 with heap := hn } := I1.kept (t' := s1.toks) hk
  refine ⟨s1.heap.objs.size + 1, [s1.heap.objs.size + 1, s1.heap.objs.size], _, _, H1, rfl, I2, turn_enumT a (s1.heap.objs.size + 1) s1.heap.objs.size, ⟨⟨.none, he⟩, hit, Nat.succ_ne_self _⟩, fun b hb => ?_, q⟩
  have up : s1.heap.objs.size ≤ b := by
    rcases (by simpa using hb : b = s1.heap.objs.size + 1 ∨ b = s1.heap.objs.size) with z | z
    · rw [z]; exact Nat.le_add_right _ _
    · rw [z]; exact Nat.le_refl _
  exact I1.fpOk up (I1.hok.fresh up)
section
variable {ω : Wk} {C : Cl} {σ : L2.St} {H : Hp} {X : Cx} {K : PySem.W.Frag} {mg : Mg} {R : Addr → Prop} {c : List Addr} {M : Cs} {a b : Addr} {ds es : List D} {ws us : List Nat}
theorem wkd_enumT (h : RowT mg R H c M a ds) : Wkd mg R H c M (IteT K a) (enumD ds) ws where
  go := fun R' H' c' M' i m g w hi => by
    obtain ⟨vs, h1, h2⟩ := h R' H' c' M' m g
    rw [enum_len] at hi
    exact ⟨vs, vs[i]'(by rw [h2.len]; exact hi), SqT.of h1, List.getElem?_eq_getElem _⟩
  stop := fun R' H' c' M' m g w => by
    obtain ⟨vs, h1, h2⟩ := h R' H' c' M' m g
    exact ⟨vs, SqT.of h1, by rw [h2.len, enum_len]; exact Nat.le_refl _⟩
  yld := fun R' H' c' M' i x H'' m g w hi q => by
    obtain ⟨T, z, rfl, hT, rfl, q⟩ := q
    obtain ⟨vs, h1, h2⟩ := h R' H' c' M' m g
    obtain ⟨d, e1, e2⟩ := h2.get' (q vs (SqT.of h1))
    obtain ⟨k1, k2⟩ := pair_new (H' := H') m hT (d := .int (i : Nat)) (v := .int (i : Nat)) (by simp [Rp]) e2
    refine ⟨.tup [.int (i : Nat), d], ?_, k1, k2⟩
    have hlt : i < ds.length := by rw [enum_len] at hi; exact hi
    have e3 : ds[i] = d := by rw [List.getElem?_eq_getElem hlt] at e1; simpa using e1
    simp [enumD, hlt, e3]
theorem i_enm {e : ME} {Q : It → Hp → Prop} (h : tI ω (evI C (.enm e)) σ H Q) : iEnum K (tCons (tE ω (evE C e)) tNil) σ H Q ∨ iEnumT K (tCons (tE ω (evE C e)) tNil) σ H Q := by
  obtain ⟨R, c, σd, M, m, rs, h⟩ := h
  rw [evI] at h
  cases e1 : evE C e σd M with
  | bad => rw [e1] at h; exact h.elim
  | ex x M1 =>
    rw [e1] at h
    exact .inl ⟨R, c, σd, M, m, rs, by rw [e1]; exact h⟩
  | ok x M1 =>
    rw [e1, ok_bind] at h
    cases e2 : itemsD M1 x with
    | none => rw [e2] at h; exact h.elim
    | some ds =>
      rw [e2] at h
      cases e3 : rd M1 x with
      | none => simp [itemsD, e3] at e2
      | some z =>
        by_cases hz : ∃ ys, z = .tup ys
        · obtain ⟨ys, rfl⟩ := hz
          refine .inr ⟨R, c, σd, M, m, rs, Post.eq e1 fun v H1 c1 a1 r1 => ?_⟩
          obtain ⟨a, rfl, k⟩ := row_of a1.2 r1 e2
          rcases k with ⟨k, _⟩ | ⟨k, w⟩
          · rw [e3] at k; cases k
          · obtain ⟨vs, h1, _⟩ := w R H1 c1 M1 a1.2 (Stp.refl R H1 c1 M1).gr
            exact ⟨a, vs, rfl, SqT.of h1, h _ H1 c1 a1 (wkd_enumT w)⟩
        · refine .inl ⟨R, c, σd, M, m, rs, Post.eq e1 fun v H1 c1 a1 r1 => ?_⟩
          obtain ⟨a, rfl, k⟩ := row_of a1.2 r1 e2
          rcases k with ⟨k, w⟩ | ⟨k, _⟩
          · obtain ⟨vs, h1, _⟩ := w R H1 c1 M1 a1.2 (Stp.refl R H1 c1 M1).gr (by simp [same])
            exact ⟨a, vs, rfl, SqL.of h1, h _ H1 c1 a1 (wkd_enum w)⟩
          · rw [e3] at k; cases k; exact (hz ⟨_, rfl⟩).elim
theorem i_zip {e f : ME} {Q : It → Hp → Prop} (h : tI ω (evI C (.zip e f)) σ H Q) : RZ.iZipA K (tCons (tE ω (evE C e)) (tCons (tE ω (evE C f)) tNil)) σ H Q := by
  obtain ⟨R, c, σd, M, m, rs, h⟩ := h
  rw [evI] at h
  refine ⟨R, c, σd, M, m, rs, h.bind fun x M1 v H1 c1 a1 r1 h1 => ⟨R, c1, σd, M1, a1.2, rs.mono a1.1.gr, h1.bind fun y M2 u H2 c2 a2 r2 h2 => ?_⟩⟩
  obtain ⟨d, e, h3⟩ := h2.opt
  simp only [Option.bind_eq_some_iff] at e
  obtain ⟨xs, e1, e⟩ := e
  split at e
  · rename_i k
    simp only [Option.map_eq_some_iff] at e
    obtain ⟨ys, e2, rfl⟩ := e
    obtain ⟨a, rfl, k1⟩ := row_of a2.2 (r1.mono a2.1.gr) e1
    obtain ⟨b, rfl, k2⟩ := row_of a2.2 r2 e2
    have g := (Stp.refl R H2 c2 M2).gr
    rcases k1 with ⟨q1, w1⟩ | ⟨q1, w1⟩ <;> rcases k2 with ⟨q2, w2⟩ | ⟨q2, w2⟩
    · obtain ⟨vs, g1, _⟩ := w1 R H2 c2 M2 a2.2 g (by simp [same])
      obtain ⟨zs, g2, _⟩ := w2 R H2 c2 M2 a2.2 g (by simp [same])
      exact ⟨a, b, vs, zs, rfl, .inl ⟨SqL.of g1, SqL.of g2, h3 _ H2 c2 (Aft.refl a2.2) (wkd_zipL w1 w2)⟩⟩
    · rw [q1, q2] at k; cases k
    · rw [q1, q2] at k; cases k
    · obtain ⟨vs, g1, _⟩ := w1 R H2 c2 M2 a2.2 g
      obtain ⟨zs, g2, _⟩ := w2 R H2 c2 M2 a2.2 g
      exact ⟨a, b, vs, zs, rfl, .inr ⟨SqT.of g1, SqT.of g2, h3 _ H2 c2 (Aft.refl a2.2) (wkd_zipT w1 w2)⟩⟩
  · cases e
end
end Mp

/-! List comprehensions. -/
namespace Mp
open PySem PySem.Spec PyProof.Rows L2

def hide (D : Addr) (H : Hp) : Hp := fun a => if a = D then none else H a
theorem hide_ne {D a : Addr} {H : Hp} (h : a ≠ D) : hide D H a = H a := if_neg h
theorem hide_same {D : Addr} {H : Hp} : hide D H D = none := if_pos rfl
theorem hide_none {D : Addr} {H : Hp} (h : H D = none) : hide D H = H := by
  funext a
  unfold hide
  split
  · rename_i e; rw [e, h]
  · rfl
theorem hide_upd {D : Addr} {H : Hp} {o : HO} : hide D (upd H D o) = hide D H := by
  funext a
  unfold hide
  split
  · rfl
  · rename_i e; exact upd_ne e
theorem upd_hide {D : Addr} {H : Hp} {o : HO} (h : H D = some o) : upd (hide D H) D o = H := by
  funext a
  unfold upd
  split
  · rename_i e; rw [e, h]
  · rename_i e; exact hide_ne e
def plus (R : Addr → Prop) (D : Addr) : Addr → Prop := fun a => R a ∨ a = D
/-- a step, the object at D apart -/
def SD (R : Addr → Prop) (D : Addr) (H : Hp) (c : List Addr) (M : Cs) (H' : Hp) (c' : List Addr) (M' : Cs) : Prop := Stp R (hide D H) c M (hide D H') c' M'
section
variable {mg : Mg} {R : Addr → Prop} {D : Addr} {H H1 H' H'' : Hp} {c c1 c' c'' : List Addr} {M M1 M' M'' : Cs} {o : HO}
theorem lv_plus {a : Addr} : Lv (plus R D) c M a ↔ Lv R c M a ∨ a = D := by
  unfold Lv plus
  constructor
  · rintro ((h | h) | h)
    · exact .inl (.inl h)
    · exact .inr h
    · exact .inl (.inr h)
  · rintro ((h | h) | h)
    · exact .inl (.inl h)
    · exact .inr h
    · exact .inl (.inr h)
theorem SD.trans (a : SD R D H c M H' c' M') (b : SD R D H' c' M' H'' c'' M'') : SD R D H c M H'' c'' M'' := Stp.trans a b
theorem SD.refl : SD R D H c M H c M := Stp.refl ..
theorem SD.of (nD : ¬ R D) (a : Stp (plus R D) H c M H' c' M') : SD R D H c M H' c' M' := by
  refine ⟨fun b o e n => ?_, a.pre, fun b r => ?_⟩
  · have nb : b ≠ D := fun z => by rw [z, hide_same] at e; cases e
    rw [hide_ne nb] at e
    obtain ⟨k1, k2⟩ := a.keep b o e fun q => (lv_plus.mp q).elim n nb
    exact ⟨by rw [hide_ne nb]; exact k1, fun q => k2 (lv_plus.mpr (.inl q))⟩
  · have nb : b ≠ D := fun z => nD (z ▸ r)
    rw [hide_ne nb, hide_ne nb]
    exact a.res b (.inl r)
theorem SD.gr (a : SD R D H c M H' c' M') : Gr H (Lv (plus R D) c M) c H' (Lv (plus R D) c' M') c' := by
  refine ⟨fun b o e n => ?_, a.pre⟩
  have nb : b ≠ D := fun z => n (lv_plus.mpr (.inr z))
  obtain ⟨k1, k2⟩ := a.keep b o (by rw [hide_ne nb]; exact e) fun q => n (lv_plus.mpr (.inl q))
  rw [hide_ne nb] at k1
  exact ⟨k1, fun q => (lv_plus.mp q).elim k2 nb⟩
/-- from where D was not yet -/
theorem SD.gr0 (h : H D = none) (a : SD R D H c M H' c' M') : Gr H (Lv R c M) c H' (Lv (plus R D) c' M') c' := by
  refine ⟨fun b o e n => ?_, a.pre⟩
  have nb : b ≠ D := ne_of_none e h
  obtain ⟨k1, k2⟩ := a.keep b o (by rw [hide_ne nb]; exact e) n
  rw [hide_ne nb] at k1
  exact ⟨k1, fun q => (lv_plus.mp q).elim k2 nb⟩
theorem SD.upd : SD R D H c M (upd H D o) c M := by
  unfold SD
  rw [hide_upd]
  exact Stp.refl ..
theorem CM.notR (m : CM mg R H c M) (h : H D = none) : ¬ R D := fun r => by
  obtain ⟨o, e, _⟩ := m.there D r
  rw [h] at e; cases e
theorem CM.cne (m : CM mg R H c M) (h : H D = none) {n : Nat} {a : Addr} (l : live M n) (e : c[n]? = some a) : a ≠ D := fun z => by
  obtain ⟨d, e1⟩ := l
  obtain ⟨b, e2, e3⟩ := m.obj n d e1
  rw [e] at e2; cases e2
  obtain ⟨o, e4⟩ := e3.at
  rw [z, h] at e4; cases e4
/-- D is laid and kept apart -/
theorem CM.reserve (m : CM mg R H c M) (h : H D = none) (ho : ∀ vs, o ≠ .tup vs) : CM mg (plus R D) (L2.upd H D o) c M := by
  have g := SD.gr0 (R := R) (c := c) (M := M) h (SD.upd (H := H) (o := o))
  refine ⟨m.len, m.inj, fun n a l e r => ?_, fun a r => ?_, fun n d e => ?_, m.fre⟩
  · rcases r with r | r
    · exact m.nres n a l e r
    · exact m.cne h l e r
  · rcases r with r | r
    · obtain ⟨o', e1, e2⟩ := m.there a r
      exact ⟨o', by rw [upd_ne (ne_of_none e1 h)]; exact e1, e2⟩
    · exact ⟨o, by rw [r]; exact upd_same, ho⟩
  · obtain ⟨a, e1, e2⟩ := m.obj n d e
    exact ⟨a, e1, e2.mono g (upd_ne (m.cne h ⟨d, e⟩ e1))⟩
/-- what stands at D changes -/
theorem CM.upd (m : CM mg (plus R D) H c M) (ho : ∀ vs, o ≠ .tup vs) : CM mg (plus R D) (L2.upd H D o) c M := by
  have g := SD.gr (SD.upd (R := R) (D := D) (H := H) (c := c) (M := M) (o := o))
  refine ⟨m.len, m.inj, m.nres, fun a r => ?_, fun n d e => ?_, m.fre⟩
  · by_cases z : a = D
    · exact ⟨o, by rw [z]; exact upd_same, ho⟩
    · obtain ⟨o', e1, e2⟩ := m.there a r
      exact ⟨o', by rw [upd_ne z]; exact e1, e2⟩
  · obtain ⟨a, e1, e2⟩ := m.obj n d e
    exact ⟨a, e1, e2.mono g (upd_ne fun z => m.nres n a ⟨d, e⟩ e1 (.inr z))⟩
/-- D is given back, hidden -/
theorem CM.unres (m : CM mg (plus R D) H c M) (nD : ¬ R D) : CM mg R (hide D H) c M ∧ Gr H (Lv (plus R D) c M) c (hide D H) (Lv R c M) c := by
  have g : Gr H (Lv (plus R D) c M) c (hide D H) (Lv R c M) c := by
    refine ⟨fun b o e n => ?_, fun _ _ => rfl⟩
    have nb : b ≠ D := fun z => n (lv_plus.mpr (.inr z))
    exact ⟨by rw [hide_ne nb]; exact e, fun q => n (lv_plus.mpr (.inl q))⟩
  refine ⟨⟨m.len, m.inj, fun n a l e r => m.nres n a l e (.inl r), fun a r => ?_, fun n d e => ?_, m.fre⟩, g⟩
  · obtain ⟨o', e1, e2⟩ := m.there a (.inl r)
    exact ⟨o', by rw [hide_ne fun z => by rw [z] at r; exact nD r]; exact e1, e2⟩
  · obtain ⟨a, e1, e2⟩ := m.obj n d e
    exact ⟨a, e1, e2.mono g (hide_ne fun z => m.nres n a ⟨d, e⟩ e1 (.inr z))⟩
theorem same_trans {ws : List Nat} (a : same ws M M1 = true) (b : same ws M1 M' = true) : same ws M M' = true := by
  simp only [same, List.all_eq_true, decide_eq_true_eq] at a b ⊢
  exact fun n hn => (b n hn).trans (a n hn)
end
section
variable {ω : Wk} {C : Cl} {σ : L2.St} {H : Hp} {Q : VK} {K : PySem.W.Frag}
theorem lcGo_ok {M : Cs} {ws : List Nat} {step : D → Cs → Res (List D)} {d : D} {ds acc : List D} (h : lcGo ws step (d :: ds) acc M ≠ .bad) :
    ∃ xs M1, step d M = .ok xs M1 ∧ acc.length + xs.length ≤ sizeLine ∧ same ws M M1 = true ∧ lcGo ws step (d :: ds) acc M = lcGo ws step ds (acc ++ xs) M1 := by
  rw [lcGo] at h
  split at h
  · rename_i xs M1 e
    split at h
    · rename_i k
      simp only [Bool.and_eq_true, decide_eq_true_eq] at k
      refine ⟨xs, M1, e, k.1, k.2, ?_⟩
      rw [lcGo, e]
      simp only
      rw [if_pos (by simp [k.1, k.2])]
    · exact (h rfl).elim
  · exact (h rfl).elim
theorem drop_cons {α : Type} {ds : List α} {i : Nat} {d : α} (e : ds[i]? = some d) : ds.drop i = d :: ds.drop (i + 1) := by
  have hi := (List.getElem?_eq_some_iff.mp e).1
  have := (List.getElem?_eq_some_iff.mp e).2
  rw [List.drop_eq_getElem_cons hi, this]
theorem wipe_in {u : Nat} : ∀ {vs : List Nat} {σ : L2.St}, u ∈ vs → (wipe σ vs).set u none = wipe σ vs
  | v :: vs, σ, h => by
    simp only [wipe]
    by_cases e : u = v
    · rw [e, List.set_set]
    · rw [List.set_comm _ _ (fun z => e z.symm), wipe_in (by simpa [e] using h)]
theorem wipe_sub {vs : List Nat} {σ : L2.St} : ∀ {us : List Nat}, (∀ u ∈ us, u ∈ vs) → wipe (wipe σ vs) us = wipe σ vs
  | [], _ => rfl
  | u :: us, h => by
    simp only [wipe]
    rw [wipe_sub fun x hx => h x (List.mem_cons_of_mem _ hx), wipe_in (h u List.mem_cons_self)]
theorem g_wipe1 {vs : List Nat} (t : MT) {v : V} {σ : L2.St} {H : Hp} {Q : L2.St → Hp → Prop} (w : t.within vs = true) (h : gOf ω C K t v (wipe σ vs) H Q) : gOf ω C K t v (wipe σ vs) H fun σ2 H2 => wipe σ2 vs = wipe σ vs ∧ Q σ2 H2 := by
  have := g_wipe t w h
  rwa [wipe_sub fun _ h => h] at this
theorem s_lc {own : List Nat} {e : ME} {t : MT} {it : MI} {q : MC} (hw : t.within own = true) (h : tF ω (evE C (.lc own e t it q)) σ H Q) :
    tLc (tI ω (evI C it)) (gOf ω.no C K t) (tB ω.no (evC C q)) (tE ω.no (evE C e)) own σ H Q := by
  obtain ⟨R, c, σd, M, m, rs, h⟩ := h
  dsimp only at h
  rw [evE, bind_assoc] at h
  refine ⟨R, c, σd, M, m, rs, h.bind fun p M1 J H1 c1 a1 w h1 D hD => ?_⟩
  obtain ⟨ds, ws⟩ := p
  dsimp only at h1
  generalize hstep : (fun d M => (evT C t d (wip σd own) M).bind fun σ1 M2 => (evC C q σ1 M2).bind fun b M3 => if b = true then (evE C e σ1 M3).bind fun x M4 => Res.ok [x] M4 else .ok [] M3) = step at h1
  have hst : ∀ d M, step d M = (evT C t d (wip σd own) M).bind fun σ1 M2 => (evC C q σ1 M2).bind fun b M3 => if b = true then (evE C e σ1 M3).bind fun x M4 => Res.ok [x] M4 else .ok [] M3 := fun d M => by rw [← hstep]
  clear hstep
  have nb : lcGo ws step ds [] M1 ≠ .bad := fun z => by rw [z] at h1; exact h1
  have nD : ¬ R D := a1.2.notR hD
  have rs1 := rs.mono a1.1.gr
  let Iv : Nat → Hp → Prop := fun i Hh => ∃ c' M' acc vs, CM ω.mg (plus R D) Hh c' M' ∧ SD R D H1 c1 M1 Hh c' M' ∧ same ws M1 M' = true ∧ Hh D = some (.lst vs) ∧ RpL ω.mg Hh (Lv (plus R D) c' M') c' acc vs ∧ lcGo ws step ds [] M1 = lcGo ws step (ds.drop i) acc M'
  refine ⟨fun i n Hh => n = ds.length - i ∧ i ≤ ds.length ∧ Iv i Hh, ⟨ds.length, by simp, Nat.zero_le _, c1, M1, [], [], a1.2.reserve hD (fun _ => nofun), SD.upd, by simp [same], upd_same, RpL.nil, rfl⟩, ?_⟩
  rintro i n Hh ⟨rfl, hi, c', M', acc, vs, m', sd, sm, hDl, hacc, heq⟩
  have g0 := sd.gr0 hD
  rcases Nat.lt_or_ge i ds.length with hlt | hge
  · refine .inr ⟨w.go (plus R D) Hh c' M' i m' g0 sm hlt, Iv (i + 1), fun H' p' => ⟨ds.length - (i + 1), by omega, rfl, hlt, p'⟩, fun x H' y => ?_⟩
    obtain ⟨d, e1, af, rx⟩ := w.yld (plus R D) Hh c' M' i x H' m' g0 sm hlt y
    rw [drop_cons e1] at heq
    obtain ⟨xs, M2, es, hl, sm2, heq2⟩ := lcGo_ok (by rw [← heq]; exact nb)
    rw [heq2] at heq
    have hp : Post ω.no (rlL ω) (plus R D) H' c' M' (wipe σ own) (fun b H4 => ∃ c4, Aft ω.mg (plus R D) H' c' M' M2 H4 c4 ∧ RpL ω.mg H4 (Lv (plus R D) c4 M2) c4 xs b) (step d M') := Post.here (ω := ω.no) es
    rw [hst] at hp
    have sdA := sd.trans (SD.of nD af.1)
    have rsA : RpS ω.mg H' (Lv (plus R D) c' M') c' (wip σd own) (wipe σ own) := ((rs1.mono g0).mono af.1.gr).wip own
    refine g_wipe1 t hw (g_ok t ⟨plus R D, c', wip σd own, M', d, af.2, rsA, rx, hp.bind fun σ1 M3 σ1' H2 c2 a2 r2 h2 => ?_⟩)
    refine ⟨plus R D, c2, σ1, M3, a2.2, r2, (h2.slots).bind fun b M4 b' H3 c3 a3 r3 h3 => ?_⟩
    obtain rfl : b = b' := r3
    have resB : H3 D = some (.lst vs) := by
      rw [a3.1.res D (.inr rfl), a2.1.res D (.inr rfl), af.1.res D (.inr rfl)]; exact hDl
    cases b with
    | false =>
      rw [if_neg (by decide)] at h3 ⊢
      obtain ⟨c4, a4, r4⟩ := h3 [] H3 c3 (Aft.refl a3.2) (by simp [rlL, RpL])
      have ex : xs = [] := by cases xs with | nil => rfl | cons => obtain ⟨_, _, z, _⟩ := RpL.cons_iff.mp r4; cases z
      subst ex
      rw [List.append_nil] at heq
      exact ⟨c4, M2, acc, vs, a4.2, sdA.trans (SD.of nD a4.1), same_trans sm sm2, resB, (hacc.mono af.1.gr).mono a4.1.gr, heq⟩
    | true =>
      rw [if_pos rfl] at h3 ⊢
      refine ⟨plus R D, c3, σ1, M4, a3.2, r2.mono a3.1.gr, h3.bind fun x5 M5 v H4 c5 a5 r5 h5 => ?_⟩
      obtain ⟨c4, a4, r4⟩ := h5 [v] H4 c5 (Aft.refl a5.2) (RpL.cons r5 RpL.nil)
      have l1 := r4.len
      have l2 := hacc.len
      simp at l1
      refine ⟨vs, by rw [a5.1.res D (.inr rfl)]; exact resB, by omega, c4, M2, acc ++ xs, vs ++ [v], a4.2.upd (fun _ => nofun), (sdA.trans (SD.of nD a4.1)).trans SD.upd, same_trans sm sm2, upd_same, ?_, heq⟩
      exact ((((hacc.mono af.1.gr).mono a4.1.gr).app r4).mono SD.upd.gr)
  · obtain rfl : i = ds.length := by omega
    refine .inl ⟨w.stop (plus R D) Hh c' M' m' g0 sm, ?_⟩
    rw [List.drop_length, lcGo] at heq
    rw [heq] at h1
    obtain ⟨u1, u2⟩ := m'.unres nD
    have st : Stp R H1 c1 M1 (hide D Hh) c' M' := by
      have := sd
      unfold SD at this
      rwa [hide_none hD] at this
    have := h1 (D, .lst vs) (hide D Hh) c' ⟨st, u1⟩ ⟨vs, rfl, hacc.mono u2⟩ hide_same
    rwa [upd_hide hDl] at this
end
end Mp

/-! List comprehensions with two clauses. -/
namespace Mp
open PySem PySem.Spec PyProof.Rows L2
theorem Post.bindE {α β γ δ : Type} {ω : Wk} {rel : Rl α β} {rel2 : Rl γ δ} {R : Addr → Prop} {H : Hp} {c : List Addr} {M : Cs} {σ : L2.St} {Q : δ → Hp → Prop} {Q1 : β → Hp → Prop} {g : α → Cs → Res γ} : ∀ {x : Res α}, Post ω rel2 R H c M σ Q (x.bind g) →
    (∀ a M1 b H1 c1, x = .ok a M1 → Aft ω.mg R H c M M1 H1 c1 → rel R H1 c1 M1 a b → Post ω rel2 R H1 c1 M1 σ Q (g a M1) → Q1 b H1) → Post ω rel R H c M σ Q1 x
  | .ok a M1, h, k => fun b H1 c1 a1 r => k a M1 b H1 c1 rfl a1 r (h.shift a1)
  | .ex _ _, h, _ => h
  | .bad, h, _ => h.elim
theorem lcGo_grow {ws : List Nat} {step : D → Cs → Res (List D)} : ∀ {ds acc : List D} {M : Cs} {xs : List D} {M1 : Cs}, lcGo ws step ds acc M = .ok xs M1 → acc.length ≤ xs.length
  | [], acc, M, xs, M1, h => by rw [lcGo] at h; cases h; exact Nat.le_refl _
  | d :: ds, acc, M, xs, M1, h => by
    obtain ⟨ys, M2, _, _, _, e⟩ := lcGo_ok (ws := ws) (step := step) (d := d) (ds := ds) (acc := acc) (M := M) (by rw [h]; nofun)
    rw [e] at h
    have := lcGo_grow h
    rw [List.length_append] at this
    omega
section
variable {ω : Wk} {C : Cl} {σ : L2.St} {H : Hp} {Q : VK} {K : PySem.W.Frag}
theorem s_lc2 {own own1 : List Nat} {e : ME} {t t1 : MT} {it it1 : MI} {q q1 : MC} (hw : t.within own = true) (hw1 : t1.within own1 = true) (h : tF ω (evE C (.lc2 own own1 e t it q t1 it1 q1)) σ H Q) :
    tLc2 (tI ω (evI C it)) (gOf ω.no C K t) (tB ω.no (evC C q)) (tI ω.no (evI C it1)) (gOf ω.no C K t1) (tB ω.no (evC C q1)) (tE ω.no (evE C e)) own own1 σ H Q := by
  obtain ⟨R, c, σd, M, m, rs, h⟩ := h
  dsimp only at h
  rw [evE, bind_assoc] at h
  refine ⟨R, c, σd, M, m, rs, h.bind fun p M1 J H1 c1 a1 w h1 D hD => ?_⟩
  obtain ⟨ds, ws⟩ := p
  dsimp only at h1
  let step1 : En → Mp.D → Cs → Res (List Mp.D) := fun σ1 d1 M => (evT C t1 d1 (wip σ1 own1) M).bind fun σ2 M5 => (evC C q1 σ2 M5).bind fun b1 M6 => if b1 = true then (evE C e σ2 M6).bind fun x M7 => Res.ok [x] M7 else .ok [] M6
  generalize hstep : (fun d M => (evT C t d (wip σd own) M).bind fun σ1 M2 => (evC C q σ1 M2).bind fun b M3 => if b = true then (evI C it1 σ1 M3).bind fun ds1 M4 => lcGo ds1.2 (fun d1 M => (evT C t1 d1 (wip σ1 own1) M).bind fun σ2 M5 => (evC C q1 σ2 M5).bind fun b1 M6 => if b1 = true then (evE C e σ2 M6).bind fun x M7 => Res.ok [x] M7 else .ok [] M6) ds1.1 [] M4 else .ok [] M3) = step at h1
  have hst : ∀ d M, step d M = (evT C t d (wip σd own) M).bind fun σ1 M2 => (evC C q σ1 M2).bind fun b M3 => if b = true then (evI C it1 σ1 M3).bind fun ds1 M4 => lcGo ds1.2 (step1 σ1) ds1.1 [] M4 else .ok [] M3 := fun d M => by rw [← hstep]
  have hst1 : ∀ σ1 d1 M, step1 σ1 d1 M = (evT C t1 d1 (wip σ1 own1) M).bind fun σ2 M5 => (evC C q1 σ2 M5).bind fun b1 M6 => if b1 = true then (evE C e σ2 M6).bind fun x M7 => Res.ok [x] M7 else .ok [] M6 := fun _ _ _ => rfl
  clear_value step1
  clear hstep
  have nb : lcGo ws step ds [] M1 ≠ .bad := fun z => by rw [z] at h1; exact h1
  have nD : ¬ R D := a1.2.notR hD
  have rs1 := rs.mono a1.1.gr
  let Iv : Nat → Hp → Prop := fun i Hh => ∃ c' M' acc vs, CM ω.mg (plus R D) Hh c' M' ∧ SD R D H1 c1 M1 Hh c' M' ∧ same ws M1 M' = true ∧ Hh D = some (.lst vs) ∧ RpL ω.mg Hh (Lv (plus R D) c' M') c' acc vs ∧ lcGo ws step ds [] M1 = lcGo ws step (ds.drop i) acc M'
  refine ⟨fun i n Hh => n = ds.length - i ∧ i ≤ ds.length ∧ Iv i Hh, ⟨ds.length, by simp, Nat.zero_le _, c1, M1, [], [], a1.2.reserve hD (fun _ => nofun), SD.upd, by simp [same], upd_same, RpL.nil, rfl⟩, ?_⟩
  rintro i n Hh ⟨rfl, hi, c', M', acc, vs, m', sd, sm, hDl, hacc, heq⟩
  have g0 := sd.gr0 hD
  rcases Nat.lt_or_ge i ds.length with hlt | hge
  · refine .inr ⟨w.go (plus R D) Hh c' M' i m' g0 sm hlt, Iv (i + 1), fun H' p' => ⟨ds.length - (i + 1), by omega, rfl, hlt, p'⟩, fun x H' y => ?_⟩
    obtain ⟨d, e1, af, rx⟩ := w.yld (plus R D) Hh c' M' i x H' m' g0 sm hlt y
    rw [drop_cons e1] at heq
    obtain ⟨xs, M2, es, hl, sm2, heq2⟩ := lcGo_ok (by rw [← heq]; exact nb)
    rw [heq2] at heq
    have hp : Post ω.no (rlL ω) (plus R D) H' c' M' (wipe σ own) (fun b H4 => True) (step d M') := Post.eq (ω := ω.no) es fun _ _ _ _ _ => trivial
    rw [hst] at hp es
    have sdA := sd.trans (SD.of nD af.1)
    have rsA : RpS ω.mg H' (Lv (plus R D) c' M') c' (wip σd own) (wipe σ own) := ((rs1.mono g0).mono af.1.gr).wip own
    refine g_wipe1 t hw (g_ok t ⟨plus R D, c', wip σd own, M', d, af.2, rsA, rx, hp.bindE fun σ1 M3 σ1' H2 c2 ee2 a2 r2 h2 => ?_⟩)
    refine ⟨plus R D, c2, σ1, M3, a2.2, r2, (h2.slots).bindE fun b M4 b' H3 c3 ee3 a3 r3 h3 => ?_⟩
    obtain rfl : b = b' := r3
    rw [ee2, ok_bind, ee3, ok_bind] at es
    have sdB := (sdA.trans (SD.of nD a2.1)).trans (SD.of nD a3.1)
    have resB : H3 D = some (.lst vs) := by
      rw [a3.1.res D (.inr rfl), a2.1.res D (.inr rfl), af.1.res D (.inr rfl)]; exact hDl
    have accB := ((hacc.mono af.1.gr).mono a2.1.gr).mono a3.1.gr
    cases b with
    | false =>
      rw [if_neg (by decide)] at es ⊢
      cases es
      rw [List.append_nil] at heq
      exact ⟨c3, M2, acc, vs, a3.2, sdB, same_trans sm sm2, resB, accB, heq⟩
    | true =>
      rw [if_pos rfl] at es h3 ⊢
      refine ⟨plus R D, c3, σ1, M4, a3.2, r2.mono a3.1.gr, h3.bindE fun p1 M5 J1 H4 c5 ee5 a5 w1 h5 => ?_⟩
      obtain ⟨ds1, ws1⟩ := p1
      rw [ee5, ok_bind] at es
      dsimp only at es h5
      have nb1 : lcGo ws1 (step1 σ1) ds1 [] M5 ≠ .bad := by rw [es]; nofun
      have sdC := sdB.trans (SD.of nD a5.1)
      have resC : H4 D = some (.lst vs) := by rw [a5.1.res D (.inr rfl)]; exact resB
      have accC := accB.mono a5.1.gr
      have rsC := r2.mono (a3.1.trans a5.1).gr
      let Iv1 : Nat → Hp → Prop := fun j Hh => ∃ c' M' acc1 vs1, CM ω.mg (plus R D) Hh c' M' ∧ SD R D H4 c5 M5 Hh c' M' ∧ same ws1 M5 M' = true ∧ Hh D = some (.lst (vs ++ vs1)) ∧ RpL ω.mg Hh (Lv (plus R D) c' M') c' acc1 vs1 ∧ lcGo ws1 (step1 σ1) ds1 [] M5 = lcGo ws1 (step1 σ1) (ds1.drop j) acc1 M'
      refine ⟨fun j n Hh => n = ds1.length - j ∧ j ≤ ds1.length ∧ Iv1 j Hh, ⟨ds1.length, by simp, Nat.zero_le _, c5, M5, [], [], a5.2, SD.refl, by simp [same], by simpa using resC, RpL.nil, rfl⟩, ?_⟩
      rintro j n Hk ⟨rfl, hj, c6, M6, acc1, vs1, m6, sd6, sm6, hD6, hacc6, heq6⟩
      rcases Nat.lt_or_ge j ds1.length with hlt1 | hge1
      · refine .inr ⟨w1.go (plus R D) Hk c6 M6 j m6 sd6.gr sm6 hlt1, Iv1 (j + 1), fun H' p' => ⟨ds1.length - (j + 1), by omega, rfl, hlt1, p'⟩, fun x1 H6 y1 => ?_⟩
        obtain ⟨d1, e6, af6, rx6⟩ := w1.yld (plus R D) Hk c6 M6 j x1 H6 m6 sd6.gr sm6 hlt1 y1
        rw [drop_cons e6] at heq6
        obtain ⟨xs1, M7, es1, hl1, sm7, heq7⟩ := lcGo_ok (by rw [← heq6]; exact nb1)
        rw [heq7] at heq6
        have grow := lcGo_grow (heq6.symm.trans es)
        rw [List.length_append] at grow
        have hp1 : Post ω.no (rlL ω) (plus R D) H6 c6 M6 (wipe σ1' own1) (fun b H4 => True) (step1 σ1 d1 M6) := Post.eq (ω := ω.no) es1 fun _ _ _ _ _ => trivial
        rw [hst1] at hp1 es1
        have rs6 : RpS ω.mg H6 (Lv (plus R D) c6 M6) c6 σ1 σ1' := (rsC.mono sd6.gr).mono af6.1.gr
        have sd7 := sd6.trans (SD.of nD af6.1)
        refine g_wipe1 t1 hw1 (g_ok t1 ⟨plus R D, c6, wip σ1 own1, M6, d1, af6.2, rs6.wip own1, rx6, hp1.bindE fun σ2 M8 σ2' H7 c7 ee7 a7 r7 h7 => ?_⟩)
        refine ⟨plus R D, c7, σ2, M8, a7.2, r7, (h7.slots).bindE fun b M9 b' H8 c8 ee8 a8 r8 h8 => ?_⟩
        obtain rfl : b = b' := r8
        rw [ee7, ok_bind, ee8, ok_bind] at es1
        have sd8 := (sd7.trans (SD.of nD a7.1)).trans (SD.of nD a8.1)
        have res8 : H8 D = some (.lst (vs ++ vs1)) := by
          rw [a8.1.res D (.inr rfl), a7.1.res D (.inr rfl), af6.1.res D (.inr rfl)]; exact hD6
        have acc8 := ((hacc6.mono af6.1.gr).mono a7.1.gr).mono a8.1.gr
        cases b with
        | false =>
          rw [if_neg (by decide)] at es1 ⊢
          cases es1
          rw [List.append_nil] at heq6
          exact ⟨c8, M7, acc1, vs1, a8.2, sd8, same_trans sm6 sm7, res8, acc8, heq6⟩
        | true =>
          rw [if_pos rfl] at es1 h8 ⊢
          refine ⟨plus R D, c8, σ2, M9, a8.2, r7.mono a8.1.gr, h8.bindE fun z M10 v H9 c9 ee9 a9 r9 h9 => ?_⟩
          rw [ee9, ok_bind] at es1
          cases es1
          have l1 := hacc.len
          have l2 := hacc6.len
          simp only [List.length_singleton] at grow
          refine ⟨vs ++ vs1, by rw [a9.1.res D (.inr rfl)]; exact res8, by rw [List.length_append]; omega, c9, M7, acc1 ++ [z], vs1 ++ [v], a9.2.upd (fun _ => nofun), (sd8.trans (SD.of nD a9.1)).trans SD.upd, same_trans sm6 sm7, by rw [upd_same, List.append_assoc], ?_, heq6⟩
          exact (((acc8.mono a9.1.gr).app (RpL.cons r9 RpL.nil)).mono SD.upd.gr)
      · obtain rfl : j = ds1.length := by omega
        rw [List.drop_length, lcGo, es] at heq6
        cases heq6
        refine .inl ⟨w1.stop (plus R D) Hk c6 M2 m6 sd6.gr sm6, c6, M2, acc ++ xs, vs ++ vs1, m6, sdC.trans sd6, same_trans sm sm2, hD6, (accC.mono sd6.gr).app hacc6, heq⟩
  · obtain rfl : i = ds.length := by omega
    refine .inl ⟨w.stop (plus R D) Hh c' M' m' g0 sm, ?_⟩
    rw [List.drop_length, lcGo] at heq
    rw [heq] at h1
    obtain ⟨u1, u2⟩ := m'.unres nD
    have st : Stp R H1 c1 M1 (hide D Hh) c' M' := by
      have := sd
      unfold SD at this
      rwa [hide_none hD] at this
    have := h1 (D, .lst vs) (hide D Hh) c' ⟨st, u1⟩ ⟨vs, rfl, hacc.mono u2⟩ hide_same
    rwa [upd_hide hDl] at this
end
end Mp

/-! Dict comprehensions, keys of either kind. -/
namespace Mp
open PySem PySem.Spec PyProof.Rows L2

/-- an empty dict of the kind b -/
def dict0 (b : Bool) : HO := if b = true then .dT [] else .dK []
theorem dict0_lay {P : Program} {w : World} {H : Hp} (b : Bool) (h : Heap) (hb : sysModules < h.objs.size) : ObjOk P w H (h.push { cls := .type "dict", data := .dict #[] }) h.objs.size (dict0 b) := by
  cases b
  · exact dk_empty h hb
  · exact dt_empty h hb
section
variable {X : Cx} {pins : List (Addr × Obj)} {σ : L2.St} {H : Hp} {s : Shared}
/-- a key and its value laid into a dict, where no call runs -/
theorem d_lay {A : Around} {E : Value → Shared → Prop} {a : Addr} {y v : V} {u r : Value} {H' : Hp} {Q : Unit → Shared → Prop} (hu : A.units < cLine) (I : Inv X pins σ H s) (g : DPut H a y v H') (ry : RelV y u) (rv : RelV v r) (k : ∀ s', Inv X pins σ H' s' → Q () s') :
    wpAny (model X.prog X.w) A (dictSet a u r) Q E s := by
  rcases g with ⟨kvs, κ, e, rfl, l, rfl⟩ | ⟨kvs, κ, b, e, rfl, eb, l, rfl⟩
  · obtain ⟨z, hd, vs, rel, dd⟩ := dk_of I.hok e
    refine wpAny_dictSet_pairs (hsz := by rw [← rel.length]; exact z) (kV_is ry) dd fun h1 d1 hs => k _ ?_
    refine d_write I (by rw [e]; trivial) hs (let ⟨q, _, _, hq, _⟩ := d1; ⟨q, hq⟩) (dk_new ?_ hd (rel.put κ rv) d1)
    have := length_putK kvs κ v
    omega
  · obtain rfl : u = Value.ref b := ry
    obtain ⟨z, hd, xs, rel, dd⟩ := dt_of I.hok e
    refine wpAny_dictSet_heap (hsz := by rw [← Paired.length rel]; exact z) (show (tupleKind (mixKind X.prog X.w)).room A from hu) (key_of I.hok eb) dd fun h1 d1 hs => k _ ?_
    obtain ⟨q, es, ep, hq, p2, p3, p4, _, p5⟩ := d1
    refine d_write I (by rw [e]; trivial) hs ⟨q, hq⟩ ⟨?_, hd, _, (rel.put κ eb rv).keeps fun c ys ec => ?_, q, es, ep, hq, p2, p3, p4, p5⟩
    · have := length_putK kvs κ v
      omega
    · rw [upd_ne (ne_of ec e (fun z => nomatch z))]
      exact ec
end
theorem dcGo_ok {b : Bool} {ws : List Nat} {step : D → Cs → Res (Option (D × D))} {d : D} {ds ks us : List D} {M : Cs} (h : dcGo b ws step (d :: ds) ks us M ≠ .bad) :
    (∃ M1, step d M = .ok none M1 ∧ same ws M M1 = true ∧ dcGo b ws step (d :: ds) ks us M = dcGo b ws step ds ks us M1) ∨
    (∃ p M1, step d M = .ok (some p) M1 ∧ same ws M M1 = true ∧ isKey b p.1 = true ∧ ks.length < sizeLine ∧ dcGo b ws step (d :: ds) ks us M = dcGo b ws step ds (putD p.1 p.2 ks us).1 (putD p.1 p.2 ks us).2 M1) := by
  rw [dcGo] at h
  split at h
  · rename_i M1 e
    split at h
    · rename_i k
      refine .inl ⟨M1, e, k, ?_⟩
      rw [dcGo, e]
      simp only
      rw [if_pos k]
    · exact (h rfl).elim
  · rename_i p M1 e
    split at h
    · rename_i k
      have k' := k
      simp only [Bool.and_eq_true, decide_eq_true_eq] at k
      refine .inr ⟨p, M1, e, k.1, k.2.1, k.2.2, ?_⟩
      rw [dcGo, e]
      simp only
      rw [if_pos k']
    · exact (h rfl).elim
  · exact (h rfl).elim
/-- the dict at D as keys and values -/
def DctAt (mg : Mg) (H : Hp) (U : Addr → Prop) (c : List Addr) (D : Addr) (b : Bool) (ks us : List Mp.D) : Prop := ∃ o, H D = some o ∧ NwO mg H U c o (.dct b ks us)
theorem DctAt.put {mg : Mg} {H : Hp} {U : Addr → Prop} {c : List Addr} {D : Addr} {b : Bool} {ks us : List Mp.D} {x y : Mp.D} {u v : V} (h : DctAt mg H U c D b ks us) (k : isKey b x = true) (l : ks.length < sizeLine) (rx : Rp mg H U c x u) (ry : Rp mg H U c y v) :
    ∃ o', (∀ vs, o' ≠ .tup vs) ∧ DPut H D u v (upd H D o') ∧ ∀ U', Gr H U c (upd H D o') U' c → DctAt mg (upd H D o') U' c D b (putD x y ks us).1 (putD x y ks us).2 := by
  obtain ⟨o, e, n⟩ := h
  rcases n with ⟨rfl, kvs, rfl, rfl, r⟩ | ⟨rfl, kvs, rfl, rfl, r⟩
  · obtain ⟨κ, rfl⟩ := isKeyK_ok (show isKeyK x = true from k)
    obtain rfl := rx.key
    refine ⟨.dK (putK kvs κ v), (fun _ z => nomatch z), DPut.k e (by simpa using l), fun U' g => ⟨_, upd_same, ?_⟩⟩
    obtain ⟨p1, p2⟩ := put_ok keyD_inj κ (r.mono g) (ry.mono g)
    exact .inl ⟨rfl, _, rfl, p1, p2⟩
  · obtain ⟨κ, rfl⟩ := isKeyT_ok (show isKeyT x = true from k)
    obtain ⟨q, rfl, eq⟩ := rx.keyT
    refine ⟨.dT (putK kvs κ v), (fun _ z => nomatch z), DPut.t e eq (by simpa using l), fun U' g => ⟨_, upd_same, ?_⟩⟩
    obtain ⟨p1, p2⟩ := put_ok keyTD_inj κ (r.mono g) (ry.mono g)
    exact .inr ⟨rfl, _, rfl, p1, p2⟩

section
variable {ω : Wk} {C : Cl} {X : Cx} {K : PySem.W.Frag}
/-- {k: v for t in it if q}, whatever is done with it -/
theorem dict_core {pins : List (Addr × Obj)} {s : Shared} {σ : L2.St} {H : Hp} {Q : VK} {use : Option (Value → Sem Unit)} {Qf : Value → Shared → Prop} {pos' : Pos} {b : Bool} {own : List (Str × Nat)} {k v : ME} {t : MT} {it : MI} {q : MC} {kx vx tg iter : Expr} {ifs : List Expr} {scope : Scope} {pos : Pos} (I : Inv X pins σ H s) (hc : X.calm = true) (hN : X.N.Nodup) (hu : X.A.units < cLine) (hw : t.within (own.map (·.2)) = true)
    (hi : PI X tg iter (tI ω (evI C it))) (ok : BlkOk X.N X.env.scope scope own) (hfs : ∀ x, foldedSetIterable iter X.env x = pure x)
    (inn : ∀ (s : Shared) (H : Hp) (Ca : Addr) (cl : List (Str × Addr)) (fp : List Addr), let B := X.blk s H scope (compEnvC scope cl Ca X.env) fp
      PG B tg (gOf ω.no C K t) ∧ PTs B ifs (tB ω.no (evC C q)) ∧ PE B kx (tE ω.no (evE C k)) ∧ PE B vx (tE ω.no (evE C v)))
    (h : tF ω (evE C (.dc b (own.map (·.2)) k v t it q)) σ H Q)
    (fin0 : ∀ D Ca s' m H', Inv X pins σ H' s' → Q (.ref D) H' → s'.heap.Ns Ca m → FpOk X pins H' Ca → compPost (model X.prog X.w) X.A X.xe use Qf (.ref D) Ca (.ok .next) s') :
    wpAny (model X.prog X.w) X.A (comprehension (.DictComp kx vx [⟨tg, iter, ifs, 0⟩] scope pos) scope X.env pos' newDict false (eval iter X.env) use) Qf X.xe s := by
  obtain ⟨R, c, σd, M, m, rs, h⟩ := h
  dsimp only at h
  rw [evE, bind_assoc] at h
  obtain ⟨vs, hvs⟩ : ∃ vs, vs = own.map (·.2) := ⟨_, rfl⟩
  rw [← hvs] at hw h
  obtain ⟨step, hst⟩ : ∃ step : Mp.D → Cs → Res (Option (Mp.D × Mp.D)), ∀ d M, step d M = (evT C t d (wip σd vs) M).bind fun σ1 M2 => (evC C q σ1 M2).bind fun z M3 => if z = true then (evE C k σ1 M3).bind fun x M4 => (evE C v σ1 M4).bind fun y M5 => Res.ok (some (x, y)) M5 else .ok none M3 := ⟨_, fun _ _ => rfl⟩
  rw [show (fun d M => (evT C t d (wip σd vs) M).bind fun σ1 M2 => (evC C q σ1 M2).bind fun z M3 => if z = true then (evE C k σ1 M3).bind fun x M4 => (evE C v σ1 M4).bind fun y M5 => Res.ok (some (x, y)) M5 else .ok none M3) = step from funext fun d => funext fun M => (hst d M).symm] at h
  have outer : ∀ y ∈ scope.names, y.2 = .free → ∃ a, X.env.cells.lookup y.1 = some a := fun y hy e => (ok.free y hy e).elim (fun z => I.ok.has _ (.inl z)) fun z => I.ok.has _ (.inr z)
  let Rest : Hp → List Addr → Cs → List Mp.D → List Nat → Prop := fun H1 c1 M1 ds ws => Post ω (rlN ω) R H1 c1 M1 σ (fun po H2 => H2 po.1 = none → Q (.ref po.1) (upd H2 po.1 po.2)) (((dcGo b ws step ds [] [] M1).bind fun p M2 => Res.ok (.dct b p.1 p.2) M2).bind nwD)
  refine wpAny_comprehension_free (use := use) rfl hfs (closure_ok outer) ok.kind (fun y hy e => (ok.uniq y hy).trans (congrArg some e))
    (thn (hi.run pins s σ H (fun J H1 => ∃ ds ws M1 c1, Aft ω.mg R H c M M1 H1 c1 ∧ Wkd ω.mg R H1 c1 M1 J ds ws ∧ Rest H1 c1 M1 ds ws) I ⟨R, c, σd, M, m, rs, h.bind fun p M1 J H1 c1 a1 w h1 => ⟨p.1, p.2, M1, c1, a1, w, h1⟩⟩) fun xv s1 hx => thn hx fun itv s2 h2 => ?_)
  clear h
  obtain ⟨itr, fp, tn, J, HB, rfl, IB, T, tn0, fpB, ds, ws, M1, c1, a1, w, h1⟩ := h2
  refine wpAny_newObj_type (newEnv_comp ?_)
  have below : ∀ z ∈ fp, z < s2.heap.objs.size := fun z hz => let ⟨_, e, _⟩ := T.obj 0 _ tn0 z hz; Heap.lt_size e
  have bigB := IB.big
  generalize hD : s2.heap.objs.size = D at below
  have noD : HB D = none := IB.hok.fresh (Nat.le_of_eq hD)
  have nD : ¬ R D := a1.2.notR noD
  obtain ⟨HC, eHC⟩ : ∃ HC, HC = upd HB D (dict0 b) := ⟨_, rfl⟩
  obtain ⟨s3, e3⟩ : ∃ s3 : Shared, s3 = { s2 with heap := s2.heap.push { cls := .type "dict", data := .dict #[] } } := ⟨_, rfl⟩
  have I3 : Inv X pins σ HC s3 := by
    rw [eHC, e3]
    refine IB.laid (t' := s2.toks) (fun _ _ e => Heap.get?_push_of_some _ e) (Nat.le_of_eq hD) ?_
    rw [← hD]
    exact dict0_lay b s2.heap bigB
  have h3 : s3.heap = s2.heap.push { cls := .type "dict", data := .dict #[] } := by rw [e3]
  have fp3 : ∀ z ∈ fp, FpOk X pins HC z ∧ z < s3.heap.objs.size := fun z hz => by
    have lt := below z hz
    obtain ⟨p0, p⟩ := fpB z hz
    refine ⟨⟨?_, p⟩, ?_⟩
    · rw [eHC, upd_ne (Nat.ne_of_lt lt)]; exact p0
    · rw [h3, Heap.size_push, hD]; exact Nat.lt_succ_of_lt lt
  have tn3 : tn 0 s3.heap := T.keep 0 _ _ tn0 fun z _ o e => by rw [h3]; exact Heap.get?_push_of_some _ e
  have I4 := block_start I3 ok hN fp3
  rw [← hvs] at I4
  obtain ⟨qG, qT, qK, qV⟩ := inn s3 HC s3.heap.objs.size (cellsFrom (s3.heap.objs.size + 1) scope.names (cloFrom X.env.cells scope.names [])) fp
  rw [← e3]
  show codeAny _ _ (.compStart (.DictComp kx vx [⟨tg, iter, ifs, 0⟩] scope pos) 0 (.ref itr) (.ref D) (compEnvC scope (cellsFrom (s3.heap.objs.size + 1) scope.names (cloFrom X.env.cells scope.names [])) s3.heap.objs.size X.env)) (compPost (model X.prog X.w) X.A X.xe use Qf (.ref D) s3.heap.objs.size) { s3 with heap := pushCells (s3.heap.push { cls := .type "dict", data := .dict #[] }) scope.names }
  generalize hce : compEnvC scope (cellsFrom (s3.heap.objs.size + 1) scope.names (cloFrom X.env.cells scope.names [])) s3.heap.objs.size X.env = ce at I4 qG qT qK qV ⊢
  have ceL : ce.locals = s3.heap.objs.size := by rw [← hce]; rfl
  obtain ⟨s4, e4⟩ : ∃ s4 : Shared, s4 = { s3 with heap := pushCells (s3.heap.push { cls := .type "dict", data := .dict #[] }) scope.names } := ⟨_, rfl⟩
  rw [← e4] at I4 ⊢
  have tn4 : tn 0 s4.heap := T.keep 0 _ _ tn3 fun z _ o e => by rw [e4]; exact pushCells_keeps _ _ _ _ (Heap.get?_push_of_some _ e)
  have quiet : ∀ {σ' : L2.St} {H' : Hp} {s' : Shared}, Inv (X.blk s3 HC scope ce fp) [] σ' H' s' → (∀ z ∈ fp, H' z = none) → ∀ z ∈ fp, FpOk (X.blk s3 HC scope ce fp) [] H' z := fun I' n z hz =>
    ⟨n z hz, (I'.ok.exf z hz).1, I'.ok.exfs z hz, .inl hz, fun x a e => (I'.ok.exf z hz).2 x a e, fun p hp => absurd (show p ∈ ([] : List (Addr × Obj)) ++ [] from hp) (by simp)⟩
  have nb : dcGo b ws step ds [] [] M1 ≠ .bad := fun z => by
    have h1 : Post ω (rlN ω) R HB c1 M1 σ _ _ := h1
    rw [z] at h1; exact h1
  have rs1 := rs.mono a1.1.gr
  let Iv : Nat → Hp → Prop := fun i Hh => ∃ c' M' ks us, CM ω.mg (plus R D) Hh c' M' ∧ SD R D HB c1 M1 Hh c' M' ∧ same ws M1 M' = true ∧ DctAt ω.mg Hh (Lv (plus R D) c' M') c' D b ks us ∧ dcGo b ws step ds [] [] M1 = dcGo b ws step (ds.drop i) ks us M'
  have d0 : ∀ vs, dict0 b ≠ .tup vs := fun vs => by cases b <;> nofun
  have iv0 : Iv 0 HC := by
    refine ⟨c1, M1, [], [], ?_, ?_, by simp [same], ⟨dict0 b, by rw [eHC]; exact upd_same, ?_⟩, rfl⟩
    · rw [eHC]; exact a1.2.reserve noD d0
    · rw [eHC]; exact SD.upd
    · cases b
      · exact .inl ⟨rfl, [], rfl, rfl, RpL.nil⟩
      · exact .inr ⟨rfl, [], rfl, rfl, RpL.nil⟩
  have theLoop : codeAny (model X.prog X.w) X.A (.compLoop (.DictComp kx vx [⟨tg, iter, ifs, 0⟩] scope pos) 0 (.ref itr) (.ref D) ce) (compPost (model X.prog X.w) X.A X.xe use Qf (.ref D) s3.heap.objs.size) s4 := by
    refine compLoop_anyD (fun n s' => ∃ i Hh, Inv (X.blk s3 HC scope ce fp) [] (wipe σ vs) Hh s' ∧ tn i s'.heap ∧ (∀ z ∈ fp, Hh z = none) ∧ n = ds.length - i ∧ i ≤ ds.length ∧ Iv i Hh) ?_ ds.length ⟨0, HC, I4, tn4, fun z hz => (fp3 z hz).1.1, by simp, Nat.zero_le _, iv0⟩
    rintro n s5 ⟨i, Hh, I5, tn5, fp5, rfl, hi, c', M', ks, us, m', sd, sm, dct, heq⟩
    have g0 := sd.gr0 noD
    rcases Nat.lt_or_ge i ds.length with hlt | hge
    · refine thnF (T.item (X.blk s3 HC scope ce fp) rfl rfl rfl hc i [] s5 _ Hh (fun _ _ => False) I5 (quiet I5 fp5) tn5 (w.go (plus R D) Hh c' M' i m' g0 sm hlt)) fun r s6 ⟨u, hr, h6⟩ => ?_
      subst hr
      refine thnF h6 fun _ s7 ⟨x, H7, I7, r7, y7, tn7, fp7⟩ => ?_
      obtain ⟨d, e1, af, rx⟩ := w.yld (plus R D) Hh c' M' i x H7 m' g0 sm hlt y7
      rw [drop_cons e1] at heq
      have sdA := sd.trans (SD.of nD af.1)
      have rsA : RpS ω.mg H7 (Lv (plus R D) c' M') c' (wip σd vs) (wipe σ vs) := ((rs1.mono g0).mono af.1.gr).wip vs
      have I7p := I7.pinned (quiet I7 fp7) (T.obj _ _ tn7)
      -- the end of a turn
      have done : ∀ {s' : Shared} {σ8 : L2.St} {H' : Hp}, Inv (X.blk s3 HC scope ce fp) ([] ++ pinsAt fp s7.heap) σ8 H' s' → wipe σ8 vs = wipe σ vs → Iv (i + 1) H' → ∃ m, m < ds.length - i ∧ ∃ i Hh, Inv (X.blk s3 HC scope ce fp) [] (wipe σ vs) Hh s' ∧ tn i s'.heap ∧ (∀ z ∈ fp, Hh z = none) ∧ m = ds.length - i ∧ i ≤ ds.length ∧ Iv i Hh := fun {s' σ8 H'} I' hw8 iv => by
        have pin : ∀ z ∈ fp, ∀ o, s7.heap.get? z = some o → s'.heap.get? z = some o ∧ H' z = none := fun z hz o e => by
          obtain ⟨q1, q2, _⟩ := I'.pin (z, o) (List.mem_append_right _ (List.mem_append_right _ (mem_pinsAt hz e)))
          exact ⟨q1, q2⟩
        refine ⟨ds.length - (i + 1), by omega, i + 1, H', (I'.unpinned (pins := [])).weak (by rw [← hw8, wipe_length]) (fun j v e => ?_), T.keep _ _ _ tn7 fun z hz o e => (pin z hz o e).1, fun z hz => ?_, rfl, hlt, iv⟩
        · rw [← hw8] at e
          exact (wipe_some e).1
        · obtain ⟨o, e, _⟩ := T.obj _ _ tn7 z hz
          exact (pin z hz o e).2
      have dctM : ∀ {H' : Hp} {c'' : List Addr} {M'' : Cs}, Stp (plus R D) H7 c' M' H' c'' M'' → DctAt ω.mg H' (Lv (plus R D) c'' M'') c'' D b ks us := fun {H' c'' M''} st => by
        obtain ⟨o, eo, no⟩ := dct
        exact ⟨o, by rw [st.res D (.inr rfl), af.1.res D (.inr rfl)]; exact eo, (no.mono af.1.gr).mono st.gr⟩
      have plan : gOf ω.no C K t x (wipe σ vs) H7 fun σ2 H2 => wipe σ2 vs = wipe σ vs ∧ tB ω.no (evC C q) σ2 H2 fun z H3 => if z = true then tE ω.no (evE C k) σ2 H3 fun y H4 => tE ω.no (evE C v) σ2 H4 fun yv H5 => ∃ H6, DPut H5 D y yv H6 ∧ Iv (i + 1) H6 else Iv (i + 1) H3 := by
        rcases dcGo_ok (by rw [← heq]; exact nb) with ⟨M2, es, sm2, heq2⟩ | ⟨p, M2, es, sm2, hk, hl, heq2⟩
        all_goals
          rw [heq2] at heq
          have hp : Post ω.no (fun _ _ _ _ _ (_ : Unit) => True) (plus R D) H7 c' M' (wipe σ vs) (fun _ _ => True) (step d M') := Post.eq (ω := ω.no) es fun _ _ _ _ _ => trivial
          rw [hst] at hp es
          refine g_wipe1 t hw (g_ok t ⟨plus R D, c', wip σd vs, M', d, af.2, rsA, rx, hp.bindE fun σ1 M3 σ1' H2 c2 e2 a2 r2 hh2 => ?_⟩)
          refine ⟨plus R D, c2, σ1, M3, a2.2, r2, (hh2.slots).bindE fun z M4 z' H3 c3 e3' a3 r3 hh3 => ?_⟩
          obtain rfl : z = z' := r3
          rw [e2, ok_bind, e3', ok_bind] at es
        · cases z with
          | false =>
            rw [if_neg (by decide)] at es ⊢
            cases es
            exact ⟨c3, M2, ks, us, a3.2, (sdA.trans (SD.of nD a2.1)).trans (SD.of nD a3.1), same_trans sm sm2, dctM (a2.1.trans a3.1), heq⟩
          | true =>
            exfalso
            rw [if_pos rfl] at es
            cases ek : evE C k σ1 M4 with
            | ok x5 M5 =>
              rw [ek, ok_bind] at es
              cases ev : evE C v σ1 M5 with
              | ok y6 M6 => rw [ev, ok_bind] at es; cases es
              | _ => rw [ev] at es; cases es
            | _ => rw [ek] at es; cases es
        · cases z with
          | false => rw [if_neg (by decide)] at es; cases es
          | true =>
            rw [if_pos rfl] at es hh3 ⊢
            refine ⟨plus R D, c3, σ1, M4, a3.2, r2.mono a3.1.gr, hh3.bindE fun x5 M5 y H4 c4 e5 a5 r5 hh5 => ?_⟩
            refine ⟨plus R D, c4, σ1, M5, a5.2, (r2.mono a3.1.gr).mono a5.1.gr, hh5.bindE fun y6 M6 yv H5 c6 e6 a6 r6 hh6 => ?_⟩
            rw [e5, ok_bind, e6, ok_bind] at es
            cases es
            obtain ⟨o', no', dp, dn⟩ := (dctM (((a2.1.trans a3.1).trans a5.1).trans a6.1)).put hk hl (r5.mono a6.1.gr) r6
            refine ⟨_, dp, c6, M2, _, _, a6.2.upd no', ?_, same_trans sm sm2, dn _ SD.upd.gr, heq⟩
            exact (sdA.trans (SD.of nD (((a2.1.trans a3.1).trans a5.1).trans a6.1))).trans SD.upd
      refine thnF (qG.run _ s7 _ H7 x u _ I7p r7 plan) fun _ s8 ⟨σ8, H8, I8, hw8, q8⟩ => ?_
      refine thnF (qT.run _ s8 σ8 H8 _ I8 q8) fun z s9 ⟨H9, I9, q9⟩ => ?_
      cases z with
      | false =>
        simp only [Bool.false_eq_true, if_false] at q9 ⊢
        exact done I9 hw8 q9
      | true =>
        simp only [if_true] at q9 ⊢
        refine thnF (qK.run _ s9 σ8 H9 _ I9 q9) fun ku s10 ⟨y, H10, I10, ry, q10⟩ => ?_
        refine thnF (qV.run _ s10 σ8 H10 _ I10 q10) fun vu s11 ⟨yv, H11, I11, rv, H12, dp, iv⟩ => ?_
        exact d_lay (X := X.blk s3 HC scope ce fp) hu I11 dp ry rv fun s12 I12 => done I12 hw8 iv
    · obtain rfl : i = ds.length := by omega
      refine thnF (T.done (X.blk s3 HC scope ce fp) rfl rfl rfl hc ds.length [] s5 _ Hh (fun _ _ => False) I5 (quiet I5 fp5) tn5 (w.stop (plus R D) Hh c' M' m' g0 sm)) fun r s6 ⟨hr, I6⟩ => ?_
      subst hr
      have I7 : Inv X pins σ Hh s6 := I3.call' (ch := fp) I6.os I6.base I6.hok I6.bare fun z hz => by
        obtain ⟨_, p1, p2, p3, p4, p5⟩ := (fp3 z hz).1
        exact ⟨p3, p1, p4, p5⟩
      have nL : Hh s3.heap.objs.size = none := by rw [← ceL]; exact I6.free
      obtain ⟨mm, hn, _⟩ := I6.loc
      have hn : s6.heap.Ns ce.locals mm := hn
      rw [ceL] at hn
      have fin : Q (.ref D) Hh := by
        rw [List.drop_length, dcGo] at heq
        have h1 : Post ω (rlN ω) R HB c1 M1 σ _ _ := h1
        rw [heq] at h1
        obtain ⟨u1, u2⟩ := m'.unres nD
        have st : Stp R HB c1 M1 (hide D Hh) c' M' := by
          have := sd
          unfold SD at this
          rwa [hide_none noD] at this
        obtain ⟨o, eo, no⟩ := dct
        have := h1 (D, o) (hide D Hh) c' ⟨st, u1⟩ (no.mono u2) hide_same
        rwa [upd_hide eo] at this
      exact fin0 D s3.heap.objs.size s6 mm Hh I7 fin hn (I3.fpOk (Nat.le_refl _) nL)
  exact codeAny_compStart_dict theLoop (T.self X.A 0 _ _ _ tn4 theLoop)
/-- as a value -/
theorem pe_dict {b : Bool} {own : List (Str × Nat)} {k v : ME} {t : MT} {it : MI} {q : MC} {kx vx tg iter : Expr} {ifs : List Expr} {scope : Scope} {pos : Pos} (hc : X.calm = true) (hN : X.N.Nodup) (hu : X.A.units < cLine) (hw : t.within (own.map (·.2)) = true)
    (hi : PI X tg iter (tI ω (evI C it))) (ok : BlkOk X.N X.env.scope scope own) (hfs : ∀ x, foldedSetIterable iter X.env x = pure x)
    (inn : ∀ (s : Shared) (H : Hp) (Ca : Addr) (cl : List (Str × Addr)) (fp : List Addr), let B := X.blk s H scope (compEnvC scope cl Ca X.env) fp
      PG B tg (gOf ω.no C K t) ∧ PTs B ifs (tB ω.no (evC C q)) ∧ PE B kx (tE ω.no (evE C k)) ∧ PE B vx (tE ω.no (evE C v))) :
    PE X (.DictComp kx vx [⟨tg, iter, ifs, 0⟩] scope pos) (tF ω (evE C (.dc b (own.map (·.2)) k v t it q))) := by
  refine ⟨fun pins s σ H Q I h => ?_⟩
  rw [arm_eval_DictComp]
  refine dict_core (use := none) I hc hN hu hw hi ok hfs inn h fun D Ca s' m H' I' hq hn ⟨f0, f1, f2, f3, f4, f5⟩ => ?_
  exact ⟨m, hn, fun h'' sb => ⟨.ref D, H', I'.turned (t' := s'.toks) (fun z o hz e => (sb.2 z hz).trans e) f0 f1 f3 f4 f5, rfl, hq⟩⟩
/-- name = {..} on one line, the name a local -/
theorem ps_setDict {i : Nat} {y : Str} {py spos : Pos} {b : Bool} {own : List (Str × Nat)} {k v : ME} {t : MT} {it : MI} {q : MC} {kx vx tg iter : Expr} {ifs : List Expr} {scope : Scope} {pos : Pos} (hc : X.calm = true) (hN : X.N.Nodup) (hy : X.N[i]? = some y) (hyl : X.env.scope.names.lookup y = some .local)
    (hsw : swapsWith (.DictComp kx vx [⟨tg, iter, ifs, 0⟩] scope pos) (some (.Name y py)) spos.line X.env = pure true) (hu : X.A.units < cLine) (hw : t.within (own.map (·.2)) = true)
    (hi : PI X tg iter (tI ω (evI C it))) (ok : BlkOk X.N X.env.scope scope own) (hfs : ∀ x, foldedSetIterable iter X.env x = pure x)
    (inn : ∀ (s : Shared) (H : Hp) (Ca : Addr) (cl : List (Str × Addr)) (fp : List Addr), let B := X.blk s H scope (compEnvC scope cl Ca X.env) fp
      PG B tg (gOf ω.no C K t) ∧ PTs B ifs (tB ω.no (evC C q)) ∧ PE B kx (tE ω.no (evE C k)) ∧ PE B vx (tE ω.no (evE C v))) :
    PS X (.Assign [.Name y py] (.DictComp kx vx [⟨tg, iter, ifs, 0⟩] scope pos) spos) (tAsg (tF ω (evE C (.dc b (own.map (·.2)) k v t it q))) (gName i)) := by
  refine ⟨fun pins s σ H D I h => ?_⟩
  rw [exec_Assign_Name_used _ _ _ _ hsw]
  refine wpAny_bind (wpAny_standAt (wpAny_bind ?_))
  refine wpAny_bind (m := comprehension (.DictComp kx vx [⟨tg, iter, ifs, 0⟩] scope pos) scope X.env (firstIterPos [⟨tg, iter, ifs, 0⟩] pos) newDict false (eval iter X.env) (some (assign (.Name y py) X.env)))
    (thn (dict_core (use := some (assign (.Name y py) X.env)) (Qf := fun _ s' => SP X pins D .next s') I hc hN hu hw hi ok hfs inn h fun L Ca s' m H' I' hq hn ⟨f0, f1, f2, f3, f4, f5⟩ => ?_) fun _ s' hq => wpAny_pure (wpAny_pure hq))
  show wpAny _ _ (assign (.Name y py) X.env (.ref L)) _ _ _
  refine wpAny_assign_Name (store_ok2 (v := V.ref L) I' hN hy (.inl hyl) rfl (fun s2 I2 ⟨a, sb, ha⟩ => ?_) (.inr hyl))
  have na : Ca ≠ a := ha.elim (fun z => z ▸ f1) fun z => fun e => f4 y a z e.symm
  exact ⟨m, hn.sameBut sb na, fun h3 sb3 => ⟨_, H', I2.turned (t' := s2.toks) (fun z o hz e => (sb3.2 z hz).trans e) f0 f1 f3 f4 f5, hq⟩⟩
end

/-! ### dict displays of constants -/
section
variable {ω : Wk} {C : Cl} {X : Cx} {σ : L2.St} {H : Hp} {Q : VK}
theorem s_dsp0 {t : Bool} (h : tF ω (evE C (.dsp t .nil)) σ H Q) : (if t = true then tDNewT else tDNewK) σ H Q := by
  obtain ⟨R, c, σd, M, m, rs, h⟩ := h
  dsimp only at h
  rw [evE, evPs, ok_bind] at h
  have h' : ∀ p, H p = none → Q (.ref p) (upd H p (dict0 t)) := by
    intro p hp
    refine h (p, dict0 t) H c (Aft.refl m) ?_ hp
    cases t
    · exact .inl ⟨rfl, [], rfl, rfl, RpL.nil⟩
    · exact .inr ⟨rfl, [], rfl, rfl, RpL.nil⟩
  cases t
  · exact h'
  · exact h'
/-- the pairs of a display of constants -/
def cps : MPs → List (D × D)
  | .cons (.con k) (.con v) r => (k, v) :: cps r
  | _ => []
def allCon : MPs → Bool
  | .nil => true
  | .cons (.con _) (.con _) r => allCon r
  | _ => false
theorem evPs_con : ∀ (ps : MPs) (σd : En) (M : Cs), allCon ps = true → evPs C ps σd M = .ok ((cps ps).map (·.1), (cps ps).map (·.2)) M
  | .nil, σd, M, _ => by rw [evPs]; rfl
  | .cons k v r, σd, M, h => by
    cases k <;> cases v <;> simp only [allCon, Bool.false_eq_true] at h
    rw [evPs, evE, ok_bind, evE, ok_bind, evPs_con r σd M h, ok_bind]
    rfl
theorem tPairs_con : ∀ (us : List (V × V)) (σ : L2.St) (H : Hp) (Q : List (V × V) → Hp → Prop), Q us H → tPairs (us.map fun u => (tC u.1, tC u.2)) σ H Q
  | [], _, _, _, h => h
  | u :: us, σ, H, Q, h => tPairs_con us σ H (fun ps H3 => Q ((u.1, u.2) :: ps) H3) h
def PairR (mg : Mg) (H : Hp) (U : Addr → Prop) (c : List Addr) : List (D × D) → List (V × V) → Prop
  | [], us => us = []
  | p :: ps, us => ∃ u r, us = u :: r ∧ Rp mg H U c p.1 u.1 ∧ Rp mg H U c p.2 u.2 ∧ PairR mg H U c ps r
theorem puts_ok {mg : Mg} {U : Addr → Prop} {c : List Addr} : ∀ (ps : List (D × D)) (us : List (V × V)) (acc : List (Key × V)) (ds : List D), PairR mg H U c ps us → (ps.map (·.1)).all isKeyK = true → RpL mg H U c ds (acc.map (·.2)) →
    ∃ kvs : List (Key × V), us = kvs.map (fun kv => (kV kv.1, kv.2)) ∧ (putsD (ps.map (·.1)) (ps.map (·.2)) (acc.map fun p => keyD p.1) ds).1 = (mergeK acc kvs).map (fun p => keyD p.1) ∧ RpL mg H U c (putsD (ps.map (·.1)) (ps.map (·.2)) (acc.map fun p => keyD p.1) ds).2 ((mergeK acc kvs).map (·.2))
  | [], us, acc, ds, h, _, r => by
    obtain rfl : us = [] := h
    exact ⟨[], rfl, rfl, r⟩
  | (x, y) :: ps, us, acc, ds, h, hk, r => by
    obtain ⟨u, us', rfl, h1, h2, h3⟩ := h
    simp only [List.map_cons, List.all_cons, Bool.and_eq_true] at hk
    obtain ⟨κ, rfl⟩ := isKeyK_ok hk.1
    have e := h1.key
    obtain ⟨p1, p2⟩ := put_ok keyD_inj κ r h2
    obtain ⟨kvs, e1, e2, e3⟩ := puts_ok ps us' (putK acc κ u.2) _ h3 hk.2 p2
    refine ⟨(κ, u.2) :: kvs, ?_, ?_, ?_⟩
    · rw [List.map_cons, ← e1, ← e]
    · simp only [List.map_cons, putsD]
      rw [p1]
      exact e2
    · simp only [List.map_cons, putsD]
      rw [p1]
      exact e3
theorem s_dspC {ps : MPs} {us : List (V × V)} (hc : allCon ps = true) (hu : ∀ mg H U c, PairR mg H U c (cps ps) us) (h : tF ω (evE C (.dsp false ps)) σ H Q) : tDisp (us.map fun u => (tC u.1, tC u.2)) σ H Q := by
  obtain ⟨R, c, σd, M, m, rs, h⟩ := h
  dsimp only at h
  rw [evE, evPs_con ps σd M hc, ok_bind] at h
  split at h
  · rename_i k
    simp only [Bool.and_eq_true, decide_eq_true_eq] at k
    intro p hp
    refine tPairs_con us σ _ _ ⟨upd_same, ?_⟩
    obtain ⟨kvs, e1, e2, e3⟩ := puts_ok (H := H) (U := Lv R c M) (c := c) (cps ps) us [] [] (hu ω.mg _ _ _) (by simpa [isKey] using k.1) RpL.nil
    refine ⟨kvs, e1, ?_, ?_⟩
    · have hl : ∀ (ps : List (D × D)) (us : List (V × V)), PairR ω.mg H (Lv R c M) c ps us → us.length = ps.length := fun ps => by
        induction ps with
        | nil => intro us h; obtain rfl : us = [] := h; rfl
        | cons p ps ih =>
          intro us h
          obtain ⟨u, r, rfl, _, _, h3⟩ := h
          simp [ih r h3]
      have h1 := hl _ _ (hu ω.mg H (Lv R c M) c)
      rw [e1] at h1
      simp at h1 k
      omega
    · rw [upd_upd]
      exact h (p, .dK (mergeK [] kvs)) H c (Aft.refl m) (.inl ⟨rfl, _, rfl, e2, e3⟩) hp
  · exact h.elim
end
end Mp
namespace Mp
open PySem PySem.Spec PyProof.Rows L2
section
variable {X : Cx}
theorem mt_get (hu : X.A.units + 1 < cLine) : MtR X "dict.get" (rMt X.Mg getD) := by
  intro pins s σ H v vs w us Q I rx rv h
  obtain ⟨R, c, M, x, xs, d, m, hx, hxs, e, q⟩ := h
  unfold getD at e
  split at e
  · rename_i t ks ws k
    split at e
    · rename_i hk
      cases e
      obtain ⟨y, rfl, hy⟩ := hxs.one
      obtain ⟨a, o, rfl, g, r⟩ := dget_ok hx hk (rr_key hy hk)
      cases rx
      cases rv with
      | cons ry rt =>
        cases rt
        refine d_get1 hu I g ry fun w' s' I' r' => ⟨o.getD .non, H, I', r', ?_⟩
        cases el : lookD k ks ws with
        | none =>
          rw [el] at r q
          rw [r]
          exact q.same m (by simp [Rp])
        | some d =>
          rw [el] at r q
          obtain ⟨v, rfl, r1⟩ := r
          exact q.same m r1
    · cases e
  · rename_i t ks ws k x
    split at e
    · rename_i hk
      simp only [Bool.and_eq_true] at hk
      cases e
      obtain ⟨y, z, rfl, hy, hz⟩ := RrL.two hxs
      obtain ⟨a, o, rfl, g, r⟩ := dget_ok hx hk.1 (rr_key hy hk.1)
      cases rx
      cases rv with
      | cons ry rt =>
        cases rt with
        | cons rz rt =>
        cases rt
        refine d_get2 hu I g ry rz fun w' s' I' r' => ⟨o.getD z, H, I', r', ?_⟩
        cases el : lookD k ks ws with
        | none =>
          rw [el] at r q
          rw [r]
          refine q.same m ?_
          have hs := hk.2
          cases x <;> simp only [solid, Bool.false_eq_true] at hs <;> exact hz
        | some d =>
          rw [el] at r q
          obtain ⟨v, rfl, r1⟩ := r
          exact q.same m r1
    · cases e
  · cases e
end
end Mp
namespace Mp
open PySem PySem.Spec PyProof.Rows L2
section
variable {prog : Program} {w : World} {K : Type} [DecidableEq K] {knd : PySem.KeyKind prog w K} {A : Around} {E : Value → Shared → Prop} {s : Shared}
theorem dictPut_pairs {d : Addr} {kvs : List (K × Value)} {k : K} {key v : Value} {Q : Unit → Shared → Prop} (hkey : knd.is k key = true) (hm : s.heap.DictOf knd d kvs)
    (hQ : ∀ h', h'.DictOf knd d (stored kvs k v) → Heap.SameBut d s.heap h' → Q () { s with heap := h' })
    (hsz : kvs.length ≤ sizeLine) :
    wpAny (model prog w) A (dictPut d (knd.hash k) key v) Q E s := by
  obtain ⟨o, es, ep, ho, hc, hd, hk, hp, hn⟩ := hm
  have hes : es.size ≤ sizeLine := by have e1 := hp.length; have e2 : es.toList.length = es.size := by simp
                                      omega
  unfold dictPut
  refine wpAny_bind (wpAny_dictFind_of hkey ho hd hk ?_)
  have hidx : (es.findIdx? fun e => knd.is k e.key) = kvs.findIdx? fun kv => decide (kv.1 = k) := by
    rw [← hp.findIdx k]; obtain ⟨l⟩ := es; simp
  cases hi : es.findIdx? fun e => knd.is k e.key with
  | some i =>
    refine (wpAny_updateDict ho hd (hQ _ ⟨_, _, ep, Heap.get?_update_self _ ho (Obj.isFreed_of_dict (Obj.data_mapDict hd _)),
      hc.mapDict _, Obj.data_mapDict hd _, hk.modify _ _, ?_, ?_⟩ (Heap.SameBut.update ..)))
    · rw [stored, if_pos (any_of_findIdx_some (hidx ▸ hi))]
      have hl : (es.toList.findIdx? fun e => knd.is k e.key) = some i := by rw [← hi]; obtain ⟨l⟩ := es; simp
      have := hp.modify hn hl v
      obtain ⟨l⟩ := es
      simpa using this
    · rw [stored, if_pos (any_of_findIdx_some (hidx ▸ hi)), keys_map_store]; exact hn
  | none =>
    have hnot : k ∉ kvs.map (·.1) := not_mem_of_findIdx_none (hidx ▸ hi)
    have hany : ¬ (kvs.any fun kv => decide (kv.1 = k)) = true := by
      rw [List.any_eq_true]; rintro ⟨kv, hkv, he⟩
      exact hnot (List.mem_map.mpr ⟨kv, hkv, of_decide_eq_true he⟩)
    refine (wpAny_updateDictKeys (hz := hes) ho hd (hQ _ ⟨_, _, ep + 1, Heap.get?_update_self _ ho (Obj.isFreed_of_dict (Obj.data_mapDictKeys hd _)),
      hc.mapDictKeys _, Obj.data_mapDictKeys hd _, hk.push hkey _, ?_, ?_⟩ (Heap.SameBut.update ..)))
    · rw [stored, if_neg hany]
      have := hp.append hkey (knd.hash k) v
      obtain ⟨l⟩ := es
      simpa using this
    · rw [stored, if_neg hany, List.map_append, List.nodup_append]
      refine ⟨hn, by simp, ?_⟩
      intro a ha b hb
      simp only [List.map_cons, List.map_nil, List.mem_singleton] at hb
      subst hb
      exact fun e => hnot (e ▸ ha)
theorem merge_plain {d o : Addr} {kvs more : List (K × Value)} {Q : Unit → Shared → Prop} (hdo : d ≠ o) (hoS : (o == sysModules) = false)
    (hd : s.heap.DictOf knd d kvs) (ho : s.heap.DictOf knd o more)
    (hQ : ∀ h', h'.DictOf knd d (merged kvs more) → h'.DictOf knd o more → Heap.SameBut d s.heap h' → Q () { s with heap := h' })
    (hsz : kvs.length + more.length ≤ sizeLine) :
    wpAny (model prog w) A (mergeMapping d (.ref o) false) Q E s := by
  obtain ⟨od, esd, epd, hod, hcd, hdd, hkd, hpd, hnd⟩ := id hd
  obtain ⟨oo, eso, epo, hoo, hco, hdo', hko, hpo, hno⟩ := id ho
  have hlen : more.length = eso.size := by rw [← hpo.length]; simp
  unfold mergeMapping
  refine wpAny_bind (wpAny_isInstance (U := "dict") ho.typeIs (b := true) (by with_unfolding_all rfl) ?_)
  rw [if_pos rfl]
  refine wpAny_bind (wpAny_specialOf ho.typeIs F.slot_dict_iter.lookup ?_)
  refine wpAny_bind (wpAny_pure ?_)
  simp only [beq_self_eq_true]
  rw [if_neg (by rw [hoS]; exact Bool.false_ne_true)]
  have loop : wpAny (model prog w) A (do
      let size := (← dictEntries o).size
      let epoch ← dictEpoch o
      forIn (List.range size) PUnit.unit fun i (_ : PUnit) => (do
          let l' ← dictEntries o
          match l'[i]? with
            | some e => do
              holding [e.key, e.val] (dictPut d e.hash e.key e.val)
              let ep' ← dictEpoch o
              if (ep' != epoch) = true then do
                  (unsupported "dict.changed-during-merge" : Sem PUnit)
                  pure (ForInStep.yield PUnit.unit)
                else pure (ForInStep.yield PUnit.unit)
            | _ => do
              (unsupported "dict.changed-during-merge" : Sem PUnit)
              pure (ForInStep.yield PUnit.unit) : Sem (ForInStep PUnit))
      pure ()) Q E s := by
    refine wpAny_bind (wpAny_dictEntries hoo hdo' ?_)
    refine wpAny_bind (wpAny_dictEpoch hoo hdo' ?_)
    refine wpAny_bind ?_
    rw [List.range_eq_range']
    refine wpAny_forIn_list _
      (fun rest _ s' => ∃ h' i, s' = { s with heap := h' } ∧ rest = List.range' i (eso.size - i) ∧ i ≤ eso.size ∧ h'.DictOf knd d (merged kvs (more.take i)) ∧ h'.get? o = some oo ∧ Heap.SameBut d s.heap h')
      _ ?_ ?_ _ _ ⟨s.heap, 0, rfl, by simp, Nat.zero_le _, by simpa [merged] using hd, hoo, Heap.SameBut.refl _ _⟩
    · rintro x rest b s' ⟨h', i, rfl, hr, hi, hd', hoo', hs'⟩
      have hlt : i < eso.size := by
        rcases Nat.lt_or_ge i eso.size with h | h
        · exact h
        · rw [Nat.sub_eq_zero_of_le h] at hr; simp at hr
      obtain ⟨rfl, hrest⟩ : x = i ∧ rest = List.range' (i + 1) (eso.size - (i + 1)) := by
        have e : eso.size - i = (eso.size - (i + 1)) + 1 := by omega
        rw [e, List.range'_succ] at hr
        injection hr with h1 h2
        exact ⟨h1, h2⟩
      refine wpAny_bind (wpAny_dictEntries hoo' hdo' ?_)
      rw [Array.getElem?_eq_getElem hlt]
      obtain ⟨kv, hkv⟩ : ∃ kv, more[x]? = some kv := ⟨more[x]'(by rw [hlen]; exact hlt), List.getElem?_eq_getElem _⟩
      obtain ⟨k, v⟩ := kv
      obtain ⟨hkey, hval⟩ := hpo.get? (e := eso[x]) (by simp [hlt]) hkv
      obtain ⟨k', hkey', hhash⟩ := hko eso[x] (Array.getElem_mem hlt)
      obtain rfl : k' = k := knd.inj _ _ _ hkey' hkey
      show wpAny _ _ (holding [eso[x].key, eso[x].val] (dictPut d eso[x].hash eso[x].key eso[x].val) >>= _) _ _ _
      rw [hhash, hval]
      have hmx : (merged kvs (more.take x)).length ≤ sizeLine := by
        have e1 := merged_length_le kvs (more.take x)
        have e2 : (more.take x).length ≤ more.length := by rw [List.length_take]; omega
        omega
      refine wpAny_bind (wpAny_holding (dictPut_pairs (hsz := hmx) hkey hd' fun h'' hd'' hs'' => ?_))
      have hoo'' : h''.get? o = some oo := (hs''.2 o (Ne.symm hdo)).trans hoo'
      refine wpAny_bind (wpAny_dictEpoch hoo'' hdo' ?_)
      rw [if_neg (by simp)]
      exact wpAny_pure ⟨h'', x + 1, rfl, hrest, hlt, by rw [merged_take_succ kvs more x (k', v) hkv]; exact hd'', hoo'', hs'.trans hs''⟩
    · rintro b s' ⟨h', i, rfl, hr, hi, hd', hoo', hs'⟩
      have hin : i = eso.size := by
        rcases Nat.lt_or_ge i eso.size with h | h
        · have e : eso.size - i = (eso.size - (i + 1)) + 1 := by omega
          rw [e, List.range'_succ] at hr; exact nomatch hr
        · exact Nat.le_antisymm hi h
      refine wpAny_pure (hQ h' ?_ ⟨oo, eso, epo, hoo', hco, hdo', hko, hpo, hno⟩ hs')
      rw [hin, ← hlen, List.take_length] at hd'; exact hd'
  refine wpAny_bind (wpAny_dictEntries hod hdd ?_)
  split
  · refine wpAny_bind (wpAny_dictEntries hoo hdo' ?_)
    refine wpAny_bind ?_
    rw [← Array.forIn_toList]
    have hloop : ∀ (f : DictEntry → PUnit → Sem (ForInStep PUnit)), (∀ e ∈ eso.toList, ∀ c, f e c = pure (ForInStep.yield c)) → forIn eso.toList PUnit.unit f = pure PUnit.unit := fun f hf => forIn_yield_id _ fun e he c => hf e he c
    refine wpAny_of_eq (hloop _ fun e he c => ?_) loop
    obtain ⟨k, hkey, _⟩ := hko e (Array.mem_toList_iff.mp he)
    have hb := knd.byValue k _ hkey
    cases hk : e.key <;> first | rfl | (rw [hk] at hb; simp [carriedByValue] at hb)
  · exact loop
end
end Mp
namespace Mp
open PySem PySem.Spec PyProof.Rows L2
theorem dd_eq (ta tk tv : Sem Value) : dictDisplay [(none, ta), (some tk, tv)] = (do
    let d ← alloc { cls := .type "dict", data := .dict #[] }
    let m ← holding [.ref d] ta
    (((holding [.ref d, m] (mergeMapping d m false)).onRaise fun x => do let _ ← holding [.ref d, m, x] (runValue (.builtin "proto.let_go" {}))).tryCatch fun e => do
        if ← isInstance e (.type "AttributeError") then
          rule "dict.display.not-a-mapping"; raiseError "TypeError" s!"'{← typeNameOf m}' object is not a mapping"
        throw e).onRaise fun x => do let _ ← holding [.ref d, x] (runValue (.builtin "proto.let_go" {}))
    let sub ← holding [.ref d] (subDict [(tk, tv)])
    (holding [.ref d, .ref sub] (mergeMapping d (.ref sub) false)).onRaise fun x => do let _ ← holding [.ref d, x] (runValue (.builtin "proto.let_go" {}))
    pure (.ref d)) := by
  unfold dictDisplay
  simp
end Mp
namespace Mp
open PySem PySem.Spec PyProof.Rows L2
section
variable {X : Cx} {pins : List (Addr × Obj)} {σ : L2.St} {H : Hp} {s : Shared} {A : Around} {E : Value → Shared → Prop}
theorem merge_inv {d o : Addr} {kvs more : List (Key × V)} {Q : Unit → Shared → Prop} (I : Inv X pins σ H s) (ed : H d = some (.dK kvs)) (eo : H o = some (.dK more)) (ne : d ≠ o) (hsz : kvs.length + more.length ≤ sizeLine)
    (q : ∀ s', Inv X pins σ (upd H d (.dK (mergeK kvs more))) s' → Q () s') : wpAny (model X.prog X.w) A (mergeMapping d (.ref o) false) Q E s := by
  obtain ⟨z1, hd1, vs, r1, dd1⟩ := dk_of I.hok ed
  obtain ⟨z2, hd2, us, r2, dd2⟩ := dk_of I.hok eo
  have l1 : kvs.length = vs.length := Paired.length r1
  have l2 : more.length = us.length := Paired.length r2
  refine merge_plain ne hd2 dd1 dd2 (fun h' a b c => q _ ?_) (by omega)
  refine d_write I (by rw [ed]; trivial) c (let ⟨q, _, _, hq, _⟩ := a; ⟨q, hq⟩) (dk_new ?_ hd1 (r2.merge r1) a)
  have := length_mergeK more kvs
  omega
theorem putK_fresh {kvs : List (Key × V)} {k : Key} {v : V} (h : k ∉ kvs.map (·.1)) : putK kvs k v = kvs ++ [(k, v)] := by
  unfold putK
  rw [if_neg]
  intro e
  rw [List.any_eq_true] at e
  obtain ⟨kv, hm, he⟩ := e
  exact h (List.mem_map.mpr ⟨kv, hm, of_decide_eq_true he⟩)
theorem mergeK_app : ∀ (more acc : List (Key × V)), ((acc ++ more).map (·.1)).Nodup → mergeK acc more = acc ++ more
  | [], acc, _ => by simp [mergeK]
  | p :: r, acc, h => by
    show mergeK (putK acc p.1 p.2) r = _
    have hn : p.1 ∉ acc.map (·.1) := fun hm => by
      rw [List.map_append, List.nodup_append] at h
      exact h.2.2 _ hm _ (by simp) rfl
    rw [putK_fresh hn, mergeK_app r (acc ++ [(p.1, p.2)]) (by simpa using h)]
    simp
theorem dk_nodup {kvs : List (Key × V)} {d : Addr} (I : Inv X pins σ H s) (ed : H d = some (.dK kvs)) : (kvs.map (·.1)).Nodup := by
  obtain ⟨z1, hd1, vs, r1, dd1⟩ := dk_of I.hok ed
  obtain ⟨_, _, _, _, _, _, _, _, hn⟩ := dd1
  have e : kvs.map (·.1) = vs.map (·.1) := (KV.keys r1)
  rw [e]; exact hn
/-- {**a, k: v} -/
def tDPut (td tk tv : TE) : TE := fun σ H Q => ∀ p, H p = none → td σ (upd H p (.dK [])) fun x H1 => ∃ a kvs, x = .ref a ∧ a ≠ p ∧ H1 p = some (.dK []) ∧ H1 a = some (.dK kvs) ∧ kvs.length < sizeLine ∧
  ∀ q, q ≠ p → (upd H1 p (.dK kvs)) q = none → tk σ (upd (upd H1 p (.dK kvs)) q (.dK [])) fun y H2 => tv σ H2 fun z H3 => H3 p = some (.dK kvs) ∧ H3 q = some (.dK []) ∧ ∃ κ, y = kV κ ∧ Q (.ref p) (upd (upd H3 q (.dK [(κ, z)])) p (.dK (putK kvs κ z)))
theorem pe_dput {ea ek ev : Expr} {td tk tv : TE} {pos : Pos} (ha : PE X ea td) (hk : PE X ek tk) (hv : PE X ev tv) : PE X (.Dict [none, some ek] [ea, ev] pos) (tDPut td tk tv) := by
  refine ⟨fun pins s σ H Q I q => ?_⟩
  rw [arm_eval_Dict]
  refine wpAny_bind (wpAny_standAt ?_)
  show wpAny _ _ (dictDisplay [(none, do let x ← eval ea X.env; standAt pos; pure x), (some (eval ek X.env), do let x ← eval ev X.env; standAt pos; pure x)]) _ _ s
  rw [dd_eq]
  refine wpAny_bind (wpAny_alloc ?_)
  have hn := I.hok.fresh (Nat.le_refl s.heap.objs.size)
  have I1 := I.laid (a := s.heap.objs.size) (o := .dK []) (h' := s.heap.push { cls := .type "dict", data := .dict #[] }) (t' := s.toks) (fun _ _ q => Heap.get?_push_of_some _ q) (Nat.le_refl _) (dk_empty s.heap I.big)
  generalize s.heap.objs.size = p at *
  refine wpAny_bind (wpAny_holding (wpAny_bind (thn (ha.run pins _ σ _ _ I1 (q _ hn)) fun u s1 ⟨x, H1, I2, rx, a, kvs, ex, ne, e1, e2, hl, q2⟩ => ?_)))
  subst ex
  obtain rfl : u = Value.ref a := rx
  refine wpAny_bind (wpAny_standAt (wpAny_pure ?_))
  have nd := dk_nodup I2 e2
  have em : mergeK [] kvs = kvs := by rw [mergeK_app kvs [] (by simpa using nd)]; rfl
  refine wpAny_bind (wpAny_onRaise (wpAny_tryCatch (wpAny_onRaise (wpAny_holding ?_))))
  refine merge_inv I2 e1 e2 (Ne.symm ne) (by simp; omega) fun s2 I3 => ?_
  rw [em] at I3
  have hn3 := I3.hok.fresh (Nat.le_refl s2.heap.objs.size)
  have hne : s2.heap.objs.size ≠ p := fun e => by
    rw [e, upd_same] at hn3; cases hn3
  have hp := hn3
  have I4 := I3.laid (a := s2.heap.objs.size) (o := .dK []) (h' := s2.heap.push { cls := .type "dict", data := .dict #[] }) (t' := s2.toks) (fun _ _ q => Heap.get?_push_of_some _ q) (Nat.le_refl _) (dk_empty s2.heap I3.big)
  refine wpAny_bind (wpAny_holding ?_)
  have pr := (pps_cons (pos := pos) hk hv (pps_nil (X := X) (pos := pos)))
  refine wpAny_subDict (knd := mixKind X.prog X.w) (by simp) (thn (pr.run pins _ σ _ (fun ps H3 => match ps with
    | [(y, z)] => H3 p = some (.dK kvs) ∧ H3 s2.heap.objs.size = some (.dK []) ∧ ∃ κ, y = kV κ ∧ Q (.ref p) (upd (upd H3 s2.heap.objs.size (.dK [(κ, z)])) p (.dK (putK kvs κ z)))
    | _ => False) I4 (q2 _ hne hp)) fun ws s3 ⟨ps, H3, I5, rel, q3⟩ => ?_)
  match ps, q3 with
  | [(y, z)], ⟨f1, f2, κ, ey, qq⟩ =>
    subst ey
    obtain ⟨rs, c, rk⟩ := carries_of (P := X.prog) (w := X.w) (kvs := [(κ, z)]) rel
    obtain ⟨_, hd, vs0, r0, dd⟩ := dk_of I5.hok f2
    cases r0
    refine ⟨rs, c, dd, fun h' dd' hs => ?_⟩
    have he : ∃ q, h'.get? s2.heap.objs.size = some q := let ⟨q, _, _, hq, _⟩ := dd'; ⟨q, hq⟩
    have I6 := d_write (t' := s3.toks + ws.length) I5 (by rw [f2]; trivial) hs he (dk_new (by rw [sizeLine_eq]; simp [mergeK, putK]) hd (rk.merge .nil) dd')
    have ek : mergeK [] [(κ, z)] = [(κ, z)] := rfl
    rw [ek] at I6
    refine wpAny_bind (wpAny_onRaise (wpAny_holding ?_))
    refine merge_inv I6 (by rw [upd_ne (Ne.symm hne)]; exact f1) upd_same (Ne.symm hne) (by simp; omega) fun s4 I7 => ?_
    exact wpAny_pure ⟨.ref p, _, I7, rfl, qq⟩
end
end Mp
namespace Mp
open PySem PySem.Spec PyProof.Rows L2
section
variable {ω : Wk} {C : Cl} {σ : L2.St} {H : Hp} {Q : VK} {X : Cx}
theorem var_of {mg : Mg} {U : Addr → Prop} {c : List Addr} {σd : En} {M M1 : Cs} {i : Nat} {d : D} (rs : RpS mg H U c σd σ) (e : evE C (.var i) σd M = .ok d M1) : M1 = M ∧ ∃ v, σ[i]? = some (some v) ∧ Rp mg H U c d v := by
  rw [evE] at e
  split at e
  · rename_i d' e1
    cases e
    exact ⟨rfl, rs.2 i d e1⟩
  · cases e
theorem s_dput {i j l : Nat} (h : tE ω (evE C (.dput (.var i) (.var j) (.var l))) σ H Q) : tDPut (tVar i) (tVar j) (tVar l) σ H Q := by
  obtain ⟨R, c, σd, M, m, rs, h⟩ := h
  rw [evE] at h
  intro p hp
  have ve : ∀ i, evE C (.var i) σd M = .bad ∨ ∃ d, evE C (.var i) σd M = .ok d M := fun i => by
    rw [evE]; split
    · exact .inr ⟨_, rfl⟩
    · exact .inl rfl
  rcases ve i with e1 | ⟨x, e1⟩
  · rw [e1] at h; exact h.elim
  rcases ve j with e2 | ⟨y, e2⟩
  · rw [e1, ok_bind, e2] at h; exact h.elim
  rcases ve l with e3 | ⟨z, e3⟩
  · rw [e1, ok_bind, e2, ok_bind, e3] at h; exact h.elim
  rw [e1, ok_bind, e2, ok_bind, e3, ok_bind] at h
  obtain ⟨-, v, s1, r1⟩ := var_of rs e1
  obtain ⟨-, u, s2, r2⟩ := var_of rs e2
  obtain ⟨-, w, s3, r3⟩ := var_of rs e3
  obtain ⟨d, e, h3⟩ := h.opt
  unfold dputD at e
  split at e
  · rename_i ks us
    split at e
    · rename_i k
      simp only [Bool.and_eq_true, decide_eq_true_eq] at k
      cases e
      simp only [Rp] at r1
      obtain ⟨a, rfl, nu, hh⟩ := r1
      rcases hh with ⟨_, kvs, ea, rfl, ru⟩ | ⟨hf, _⟩
      · obtain ⟨κ, rfl⟩ := isKeyK_ok (show isKeyK y = true from k.1)
        obtain rfl := r2.key
        have nap : a ≠ p := fun z => by rw [z, hp] at ea; cases ea
        refine ⟨.ref a, s1, a, kvs, rfl, nap, upd_same, by rw [upd_ne nap]; exact ea, by simpa using k.2, fun q hqp hq => ?_⟩
        have hq0 : H q = none := by rw [upd_ne hqp, upd_ne hqp] at hq; exact hq
        refine ⟨_, s2, _, s3, by rw [upd_ne (Ne.symm hqp), upd_same], upd_same, κ, rfl, ?_⟩
        have eH : ∀ (o1 o2 o3 o4 o5 : HO), upd (upd (upd (upd (upd H p o1) p o2) q o3) q o4) p o5 = upd (upd H q o4) p o5 := fun o1 o2 o3 o4 o5 => by
          funext b
          by_cases hb : b = p
          · subst hb; rw [upd_same, upd_same]
          · rw [upd_ne hb, upd_ne hb]
            by_cases hc : b = q
            · subst hc; rw [upd_same, upd_same]
            · rw [upd_ne hc, upd_ne hc, upd_ne hc, upd_ne hb, upd_ne hb]
        rw [eH]
        have hp1 : upd H q (HO.dK [(κ, w)]) p = none := by rw [upd_ne (Ne.symm hqp)]; exact hp
        have st1 := Stp.new (o := HO.dK [(κ, w)]) m hq0
        have m1 := m.new (o := HO.dK [(κ, w)]) hq0
        have st2 := Stp.new (o := HO.dK (putK kvs κ w)) m1 hp1
        have m2 := m1.new (o := HO.dK (putK kvs κ w)) hp1
        have af : Aft ω.mg R H c M M _ c := ⟨st1.trans st2, m2⟩
        obtain ⟨p1, p2⟩ := put_ok keyD_inj κ (ru.mono af.1.gr) (r3.mono af.1.gr)
        refine h3 _ _ c af ?_
        simp only [rlD, Rp]
        exact ⟨p, rfl, m1.fresh hp1, .inl ⟨trivial, _, upd_same, p1, p2⟩⟩
      · cases hf
    · cases e
  · cases e
end
end Mp
namespace Mp
open PySem PySem.Spec PyProof.Rows L2
section
variable {ω : Wk} {C : Cl} {σ : L2.St} {H : Hp} {Q : VK} {X : Cx}
/-- the keys that the values of kvs are -/
theorem keys_vals {mg : Mg} {U : Addr → Prop} {c : List Addr} : ∀ {us : List D} {vs : List V}, RpL mg H U c us vs → us.all isKeyK = true → ∃ κs : List Key, vs = κs.map kV ∧ us = κs.map keyD
  | [], vs, h, _ => ⟨[], by rw [RpL.nil_iff.mp h]; rfl, rfl⟩
  | u :: us, vs, h, k => by
    obtain ⟨v, r, rfl, h1, h2⟩ := RpL.cons_iff.mp h
    simp only [List.all_cons, Bool.and_eq_true] at k
    obtain ⟨κs, e1, e2⟩ := keys_vals h2 k.2
    obtain ⟨κ, rfl⟩ := isKeyK_ok k.1
    exact ⟨κ :: κs, by rw [h1.key, e1]; rfl, by rw [e2]; rfl⟩
def accT (κs : List Key) (acc : List (Key × V)) : List (Key × V) := κs.foldl (fun a κ => putK a κ (.bl true)) acc
theorem accT_snoc (κs : List Key) (κ : Key) (acc : List (Key × V)) : accT (κs ++ [κ]) acc = putK (accT κs acc) κ (.bl true) := by
  unfold accT; rw [List.foldl_append]; rfl
theorem accT_len : ∀ (κs : List Key) (acc : List (Key × V)), (accT κs acc).length ≤ acc.length + κs.length
  | [], acc => by simp [accT]
  | κ :: κs, acc => by
    have h1 := accT_len κs (putK acc κ (.bl true))
    have h2 := length_putK acc κ (V.bl true)
    show (accT κs (putK acc κ (.bl true))).length ≤ _
    rw [List.length_cons]; omega
theorem accT_puts {mg : Mg} {U : Addr → Prop} {c : List Addr} : ∀ (κs : List Key) (acc : List (Key × V)) (us : List D), RpL mg H U c us (acc.map (·.2)) →
    (putsD (κs.map keyD) ((κs.map keyD).map fun _ => D.bl true) (acc.map fun p => keyD p.1) us).1 = (accT κs acc).map (fun p => keyD p.1) ∧ RpL mg H U c (putsD (κs.map keyD) ((κs.map keyD).map fun _ => D.bl true) (acc.map fun p => keyD p.1) us).2 ((accT κs acc).map (·.2))
  | [], acc, us, h => ⟨rfl, h⟩
  | κ :: κs, acc, us, h => by
    obtain ⟨p1, p2⟩ := put_ok keyD_inj κ h (show Rp mg H U c (.bl true) (.bl true) by simp [Rp])
    have := accT_puts κs (putK acc κ (.bl true)) _ p2
    simp only [List.map_cons, putsD]
    rw [p1]
    exact this
theorem s_dvals {i j : Nat} (h : tE ω (evE C (.dvals i j)) σ H Q) : tLockE (tDc (iVals (tVar i)) (gName j) tYes (tVar j) (tC (.bl true)) [j]) σ H Q := by
  obtain ⟨R, c, σd, M, m, rs, h⟩ := h
  rw [evE] at h
  obtain ⟨d, e, h3⟩ := h.opt
  split at e
  · rename_i hj
    unfold dvalsD at e
    split at e
    · rename_i ks us hi
      split at e
      · rename_i k
        simp only [Bool.and_eq_true, decide_eq_true_eq] at k
        cases e
        obtain ⟨v, hv, r1⟩ := rs.2 i _ hi
        simp only [Rp] at r1
        obtain ⟨a, rfl, nu, hh⟩ := r1
        rcases hh with ⟨_, kvs, ea, rfl, ru⟩ | ⟨hf, _⟩
        · obtain ⟨κs, eκ, rfl⟩ := keys_vals ru k.1
          have hlen : kvs.length = κs.length := by have := congrArg List.length eκ; simpa using this
          have hk2 : κs.length < sizeLine := by simpa using k.2
          refine ⟨a, .dK kvs, ea, trivial, fun od => ⟨.ref a, hv, a, od, kvs, rfl, upd_same, fun D hD => ?_⟩⟩
          have hDa : D ≠ a := fun z => by rw [z, upd_same] at hD; cases hD
          have hD0 : H D = none := by rw [upd_ne hDa] at hD; exact hD
          refine ⟨fun n n2 Hh => n2 = kvs.length - n ∧ n ≤ kvs.length ∧ Hh = upd (upd H a (.frz od (.dK kvs))) D (.dK (accT (κs.take n) [])), ⟨kvs.length, by simp, Nat.zero_le _, by simp [accT]⟩, ?_⟩
          rintro n n2 Hh ⟨rfl, hn, rfl⟩
          have hat : ∀ X : HO, upd (upd H a (.frz od (.dK kvs))) D X a = some (.frz od (.dK kvs)) := fun X => by rw [upd_ne (Ne.symm hDa), upd_same]
          by_cases hlt : n < kvs.length
          · refine .inr ⟨⟨hat _, hlt⟩, fun H' => H' = upd (upd H a (.frz od (.dK kvs))) D (.dK (accT (κs.take (n + 1)) [])), fun H' e' => ⟨kvs.length - (n + 1), by omega, rfl, hlt, e'⟩, fun x H' y => ?_⟩
            obtain ⟨rfl, kk, hk⟩ := y
            have hx : x = kV (κs[n]'(by omega)) := by
              have e1 : (kvs.map (·.2))[n]? = some x := by rw [List.getElem?_map, hk]; rfl
              rw [eκ, List.getElem?_map, List.getElem?_eq_getElem (by omega)] at e1
              exact (Option.some.inj e1).symm
            have hj' : j < σ.length := by rw [← rs.1]; exact hj
            refine ⟨?_, ?_⟩
            · show wipe ((wipe σ [j]).set j (some x)) [j] = wipe σ [j]
              show ((σ.set j none).set j (some x)).set j none = σ.set j none
              rw [List.set_set, List.set_set]
            · simp only [tYes, if_true]
              refine ⟨x, ?_, ?_⟩
              · show ((σ.set j none).set j (some x))[j]? = some (some x)
                rw [List.getElem?_set_self (by simpa using hj')]
              · refine ⟨accT (κs.take n) [], κs[n], hx, upd_same, ?_, ?_⟩
                · have := accT_len (κs.take n) []
                  have h2 : (κs.take n).length ≤ κs.length := by rw [List.length_take]; omega
                  simp at this h2 ⊢
                  omega
                · funext b
                  by_cases hb : b = D
                  · subst hb
                    rw [upd_same, upd_same, List.take_add_one, List.getElem?_eq_getElem (by omega), Option.toList_some, accT_snoc]
                  · rw [upd_ne hb, upd_ne hb, upd_ne hb]
          · have e' : n = kvs.length := by omega
            refine .inl ⟨⟨hat _, by omega⟩, hat _, ?_⟩
            have et : κs.take n = κs := List.take_of_length_le (by omega)
            rw [et]
            have eH : upd (upd (upd H a (.frz od (.dK kvs))) D (.dK (accT κs []))) a (.dK kvs) = upd H D (.dK (accT κs [])) := by
              funext b
              by_cases hb : b = a
              · subst hb
                rw [upd_same, upd_ne (Ne.symm hDa), ea]
              · rw [upd_ne hb]
                by_cases hc : b = D
                · subst hc; rw [upd_same, upd_same]
                · rw [upd_ne hc, upd_ne hc, upd_ne hb]
            rw [eH]
            have m2 := m.new (o := HO.dK (accT κs [])) hD0
            have af : Aft ω.mg R H c M M _ c := ⟨Stp.new m hD0, m2⟩
            obtain ⟨p1, p2⟩ := accT_puts (mg := ω.mg) (H := upd H D (HO.dK (accT κs []))) (U := Lv R c M) (c := c) κs [] [] RpL.nil
            refine h3 _ _ c af ?_
            simp only [rlD, Rp]
            exact ⟨D, rfl, m.fresh hD0, .inl ⟨trivial, _, upd_same, p1, p2⟩⟩
        · cases hf
      · cases e
    · cases e
  · cases e
end
end Mp
namespace Mp
open PySem PySem.Spec PyProof.Rows L2
section
variable {prog : Program} {w : World} {A : Around} {E : Value → Shared → Prop} {s : Shared} {z TI TO T i1 i2 l1 l2 : Addr} {f : Bool} {oT : Obj} {k : Nat} {xs ys : Array Value}
/-- what stands while a zip of two tuples goes on that does not own its pair any more -/
structure Hd (h : Heap) (z TI TO T i1 i2 l1 l2 : Addr) (f : Bool) (k : Nat) (xs ys : Array Value) : Prop where
  hz : IsZipHeld h z TI TO T f
  hT : ∃ o, h.get? T = some o
  hI : IsPair h TI (.ref i1) (.ref i2)
  h1 : h.IsTupleIter i1 l1 k
  h2 : h.IsTupleIter i2 l2 k
  e1 : h.IsTuple l1 xs
  e2 : h.IsTuple l2 ys
def Rest (z i1 i2 : Addr) (h h' : Heap) : Prop := ∀ c o, c ≠ z → c ≠ i1 → c ≠ i2 → h.get? c = some o → h'.get? c = some o
/-- next, both have an item -/
theorem held_item {x y : Value} {Q : Value → Shared → Prop} (D : ZipApart z TI TO i1 i2 l1 l2) (g : Hd s.heap z TI TO T i1 i2 l1 l2 f k xs ys) (hx : xs[k]? = some x) (hy : ys[k]? = some y)
    (q : ∀ h', IsZipHeld h' z TI TO T true → h'.IsTupleIter i1 l1 (k + 1) → h'.IsTupleIter i2 l2 (k + 1) → IsPair h' s.heap.objs.size x y → Rest z i1 i2 s.heap h' → Q (.ref s.heap.objs.size) { s with heap := h' }) :
    wpAny (model prog w) A (Builtin.«zip.__next__» ⟨[.ref z], []⟩) (fun fin s' => ∃ v, fin = .done (.ret v) ∧ Q v s') E s := by
  obtain ⟨oT, hT⟩ := g.hT
  refine wpAny_bind (m := field (.ref z) 2) (wpAny_field g.hz rfl (x := .bool false) rfl ?_)
  refine wpAny_bind (m := field (.ref z) 3) (wpAny_field g.hz rfl (x := .ref TI) rfl ?_)
  refine wpAny_bind (wpAny_seqItems g.hI rfl ?_)
  refine wpAny_bind (m := Builtin.SmallTypes.ownedTupleIsFree (.ref z)) (wpAny_tupleHeld_zip g.hz hT fun ha za sa => ?_)
  simp only [Bool.false_eq_true, if_false]
  refine wpAny_bind ?_
  rw [← Array.forIn_toList]
  simp only [List.forIn_cons, List.forIn_nil]
  refine wpAny_bind (wpAny_bind (wpAny_holding (wpAny_bind (m := Builtin.SmallTypes.nextOf (.ref i1)) (RZ.nextOf_tuple_item (s := { s with heap := ha }) (g.h1.at fun o e => sa.extBut _ o D.i1z e) (g.e1.at fun o e => sa.extBut _ o D.l1z e) hx fun hb it1 sb => wpAny_pure (wpAny_pure ?_)))))
  refine wpAny_bind (wpAny_bind (wpAny_holding (wpAny_bind (m := Builtin.SmallTypes.nextOf (.ref i2)) (RZ.nextOf_tuple_item (s := { s with heap := hb }) ((g.h2.at fun o e => sa.extBut _ o D.i2z e).at fun o e => sb.extBut _ o D.i12.symm e) ((g.e2.at fun o e => sa.extBut _ o D.l2z e).at fun o e => sb.extBut _ o D.l2i1 e) hy fun hc it2 sc => wpAny_pure (wpAny_pure (wpAny_pure ?_))))))
  refine wpAny_bind (m := newTuple [x, y]) (wpAny_newTuple (wpAny_pure ⟨_, rfl, ?_⟩))
  have size : hc.objs.size = s.heap.objs.size := by rw [sc.1, sb.1, sa.1]
  have zc : IsZipHeld hc z TI TO T true := sc.extBut _ _ D.i2z.symm (sb.extBut _ _ D.i1z.symm za)
  have rest : Rest z i1 i2 s.heap hc := fun c o c1 c2 c3 e => sc.extBut _ _ c3 (sb.extBut _ _ c2 (sa.extBut _ _ c1 e))
  have new : ∀ {c o}, hc.get? c = some o → (hc.push { cls := .type "tuple", data := .seq #[x, y] }).get? c = some o := fun e => Heap.get?_push_of_some _ e
  have pr : IsPair (hc.push { cls := .type "tuple", data := .seq #[x, y] }) hc.objs.size x y := Heap.get?_push_size _ rfl
  have := q _ (new zc) ((it1.at fun o e => sc.extBut _ o D.i12 e).at fun o e => new e) (it2.at fun o e => new e) (by rw [← size]; exact pr) fun c o c1 c2 c3 e => new (rest c o c1 c2 c3 e)
  show Q (.ref hc.objs.size) _
  rw [size]; exact this
/-- next, one has none -/
theorem held_end {Q : Fin → Shared → Prop} (hh : A.handled = none) (D : ZipApart z TI TO i1 i2 l1 l2) (g : Hd s.heap z TI TO T i1 i2 l1 l2 f k xs ys) (he : xs[k]? = none ∨ ys[k]? = none)
    (q : ∀ h' e, Rest z i1 i2 s.heap h' → (∃ o, h'.get? e = some o ∧ o.cls = .type "StopIteration") → E (.ref e) { s with heap := h' }) :
    wpAny (model prog w) A (Builtin.«zip.__next__» ⟨[.ref z], []⟩) Q E s := by
  obtain ⟨oT, hT⟩ := g.hT
  refine wpAny_bind (m := field (.ref z) 2) (wpAny_field g.hz rfl (x := .bool false) rfl ?_)
  refine wpAny_bind (m := field (.ref z) 3) (wpAny_field g.hz rfl (x := .ref TI) rfl ?_)
  refine wpAny_bind (wpAny_seqItems g.hI rfl ?_)
  refine wpAny_bind (m := Builtin.SmallTypes.ownedTupleIsFree (.ref z)) (wpAny_tupleHeld_zip g.hz hT fun ha za sa => ?_)
  simp only [Bool.false_eq_true, if_false]
  refine wpAny_bind ?_
  rw [← Array.forIn_toList]
  simp only [List.forIn_cons, List.forIn_nil]
  have a1 : ha.IsTupleIter i1 l1 k := g.h1.at fun o e => sa.extBut _ o D.i1z e
  have a2 : ha.IsTuple l1 xs := g.e1.at fun o e => sa.extBut _ o D.l1z e
  cases hx : xs[k]? with
  | none =>
    exact wpAny_bind (wpAny_bind (wpAny_holding (wpAny_bind (m := Builtin.SmallTypes.nextOf (.ref i1)) (RZ.nextOf_tuple_end (s := { s with heap := ha }) hh a1 a2 hx fun hb e sb ex => q hb e (fun c o c1 c2 _ x => sb _ _ c2 (sa.extBut _ _ c1 x)) ex))))
  | some x =>
    have hy : ys[k]? = none := he.resolve_left (by rw [hx]; exact nofun)
    refine wpAny_bind (wpAny_bind (wpAny_holding (wpAny_bind (m := Builtin.SmallTypes.nextOf (.ref i1)) (RZ.nextOf_tuple_item (s := { s with heap := ha }) a1 a2 hx fun hb it1 sb => wpAny_pure (wpAny_pure ?_)))))
    exact wpAny_bind (wpAny_bind (wpAny_holding (wpAny_bind (m := Builtin.SmallTypes.nextOf (.ref i2)) (RZ.nextOf_tuple_end (s := { s with heap := hb }) hh ((g.h2.at fun o e => sa.extBut _ o D.i2z e).at fun o e => sb.extBut _ o D.i12.symm e) ((g.e2.at fun o e => sa.extBut _ o D.l2z e).at fun o e => sb.extBut _ o D.l2i1 e) hy
      fun hc e sc ex => q hc e (fun c o c1 c2 c3 x => sc _ _ c3 (sb.extBut _ _ c2 (sa.extBut _ _ c1 x))) ex))))
end
end Mp
namespace Mp
open PySem PySem.Spec PyProof.Rows L2
section
variable {prog : Program} {w : World} {A : Around} {E : Value → Shared → Prop} {s : Shared} {z TI TO T i1 i2 l1 l2 : Addr} {f : Bool} {k : Nat} {xs ys : Array Value}
theorem next_held_item {x y : Value} {Q : Option Value → Shared → Prop} (D : ZipApart z TI TO i1 i2 l1 l2) (g : Hd s.heap z TI TO T i1 i2 l1 l2 f k xs ys) (hx : xs[k]? = some x) (hy : ys[k]? = some y)
    (q : ∀ h', IsZipHeld h' z TI TO T true → h'.IsTupleIter i1 l1 (k + 1) → h'.IsTupleIter i2 l2 (k + 1) → IsPair h' s.heap.objs.size x y → Rest z i1 i2 s.heap h' → Q (some (.ref s.heap.objs.size)) { s with heap := h' }) :
    wpAny (model prog w) A (pyNext (.ref z)) Q E s := by
  have ty : s.TypeIs (.ref z) "zip" := ⟨_, g.hz, rfl⟩
  unfold pyNext
  refine wpAny_bind (wpAny_attempt (wpAny_callSpecial?_slot (name := Str.ofString "__next__") ty F.slot_zip_next (wpAny_call_entry F.slot_zip_next ty F.entry_zip_next ?_ (F.args_zip_next_1 _))))
  exact held_item D g hx hy fun h' a b c d e => wpAny_pure (q h' a b c d e)
theorem next_held_end {Q : Option Value → Shared → Prop} (hh : A.handled = none) (D : ZipApart z TI TO i1 i2 l1 l2) (g : Hd s.heap z TI TO T i1 i2 l1 l2 f k xs ys) (he : xs[k]? = none ∨ ys[k]? = none)
    (q : ∀ h', Rest z i1 i2 s.heap h' → Q none { s with heap := h' }) : wpAny (model prog w) A (pyNext (.ref z)) Q E s := by
  have ty : s.TypeIs (.ref z) "zip" := ⟨_, g.hz, rfl⟩
  unfold pyNext
  refine wpAny_bind (wpAny_attempt (wpAny_callSpecial?_slot (name := Str.ofString "__next__") ty F.slot_zip_next (wpAny_call_entry F.slot_zip_next ty F.entry_zip_next ?_ (F.args_zip_next_1 _))))
  refine held_end hh D g he fun h' e r ⟨o, ho, hc⟩ => ?_
  exact wpAny_bind (wpAny_isInstance (T := "StopIteration") (b := true) ⟨o, ho, hc⟩ isSubtype_stop (wpAny_pure (q _ r)))
/-- what a zip of two tuples needs: before its first pair, behind it -/
def ZSt (z TI TO i1 i2 l1 l2 d : Addr) (xs ys : Array Value) (k : Nat) (h : Heap) : Prop :=
  IsPair h TI (.ref i1) (.ref i2) ∧ h.IsTupleIter i1 l1 k ∧ h.IsTupleIter i2 l2 k ∧ h.IsTuple l1 xs ∧ h.IsTuple l2 ys ∧
  ((IsZip h z TI TO .none ∧ ∃ a b, IsPair h TO a b) ∨ ∃ T f oT, IsZipHeld h z TI TO T f ∧ h.get? T = some oT ∧ T ≠ z ∧ T ≠ i1 ∧ T ≠ i2 ∧ T ≠ d)
def ZOk (z TI TO i1 i2 l1 l2 : Addr) (xs ys : Array Value) (h : Heap) : Prop :=
  IsZip h z TI TO .none ∧ IsPair h TI (.ref i1) (.ref i2) ∧ (∃ a b, IsPair h TO a b) ∧ h.IsTupleIter i1 l1 0 ∧ h.IsTupleIter i2 l2 0 ∧ h.IsTuple l1 xs ∧ h.IsTuple l2 ys
theorem ZSt.keep {d : Addr} {h h' : Heap} (st : ZSt z TI TO i1 i2 l1 l2 d xs ys k h) (kp : ∀ b o, b ≠ d → h.get? b = some o → h'.get? b = some o) (n : ∀ b ∈ [z, TI, TO, i1, i2, l1, l2], d ≠ b) : ZSt z TI TO i1 i2 l1 l2 d xs ys k h' := by
  have k2 : ∀ b ∈ [z, TI, TO, i1, i2, l1, l2], ∀ o, h.get? b = some o → h'.get? b = some o := fun b hb o e => kp b o (Ne.symm (n b hb)) e
  obtain ⟨a1, a2, a3, a4, a5, a6⟩ := st
  refine ⟨k2 TI (by simp) _ a1, a2.at (k2 i1 (by simp)), a3.at (k2 i2 (by simp)), a4.at (k2 l1 (by simp)), a5.at (k2 l2 (by simp)), ?_⟩
  rcases a6 with ⟨b1, a, b, b2⟩ | ⟨T, f, oT, b1, b2, r1, r2, r3, r4⟩
  · exact .inl ⟨k2 z (by simp) _ b1, a, b, k2 TO (by simp) _ b2⟩
  · exact .inr ⟨T, f, oT, k2 z (by simp) _ b1, kp _ _ r4 b2, r1, r2, r3, r4⟩
theorem zsrc (D : ZipApart z TI TO i1 i2 l1 l2) (hA : A.handled = none) {d : Addr} (n : ∀ b ∈ [z, TI, TO, i1, i2, l1, l2], d ≠ b) :
    PairSrc prog w A z d [z, TO, i1, i2] (min xs.size ys.size) (fun i k v => xs[i]? = some k ∧ ys[i]? = some v) (ZSt z TI TO i1 i2 l1 l2 d xs ys) where
  off := fun hm => by
    simp only [List.mem_cons, List.not_mem_nil, or_false] at hm
    rcases hm with e | e | e | e
    · exact n z (by simp) e
    · exact n TO (by simp) e
    · exact n i1 (by simp) e
    · exact n i2 (by simp) e
  frame := fun i h h' st kp => st.keep kp n
  item := fun i s Q E hi st hds q => by
    obtain ⟨a1, a2, a3, a4, a5, a6⟩ := st
    have ex : xs[i]? = some _ := Array.getElem?_eq_getElem (show i < xs.size by omega)
    have ey : ys[i]? = some _ := Array.getElem?_eq_getElem (show i < ys.size by omega)
    have fr : ∀ {c : Addr} {o : Obj}, s.heap.get? c = some o → s.heap.objs.size ≠ c := fun e => Nat.ne_of_gt (Heap.lt_size e)
    have f1 : s.heap.objs.size ≠ i1 := let ⟨_, e, _⟩ := a2; fr e
    have f2 : s.heap.objs.size ≠ i2 := let ⟨_, e, _⟩ := a3; fr e
    rcases a6 with ⟨b1, a, b, b2⟩ | ⟨T, f, oT, b1, b2, r1, r2, r3, r4⟩
    · refine RZ.pyNext_zipT_item D b1 a1 b2 a2 a3 a4 a5 ex ey fun h' c1 c2 c3 c4 c5 c6 kp => ?_
      refine q s.heap.objs.size _ _ h' s.toks ⟨ex, ey⟩ (.inl ⟨_, c5, rfl, _, rfl⟩) ⟨kp _ _ D.TIz D.TITO D.TIi1 D.TIi2 a1, c3, c4, a4.at fun o e => kp _ o D.l1z D.l1TO D.l1i1 D.l1i2 e, a5.at fun o e => kp _ o D.l2z D.l2TO D.l2i1 D.l2i2 e, .inr ⟨s.heap.objs.size, false, _, c1, c5, fr b1, f1, f2, Nat.ne_of_gt hds⟩⟩ fun c o hc e => ?_
      simp only [List.mem_cons, List.not_mem_nil, or_false, not_or] at hc
      exact kp c o hc.1 hc.2.1 hc.2.2.1 hc.2.2.2 e
    · refine next_held_item D ⟨b1, ⟨_, b2⟩, a1, a2, a3, a4, a5⟩ ex ey fun h' c1 c3 c4 c5 kp => ?_
      refine q s.heap.objs.size _ _ h' s.toks ⟨ex, ey⟩ (.inl ⟨_, c5, rfl, _, rfl⟩) ⟨kp _ _ D.TIz D.TIi1 D.TIi2 a1, c3, c4, a4.at fun o e => kp _ o D.l1z D.l1i1 D.l1i2 e, a5.at fun o e => kp _ o D.l2z D.l2i1 D.l2i2 e, .inr ⟨T, true, oT, c1, kp _ _ r1 r2 r3 b2, r1, r2, r3, r4⟩⟩ fun c o hc e => ?_
      simp only [List.mem_cons, List.not_mem_nil, or_false, not_or] at hc
      exact kp c o hc.1 hc.2.2.1 hc.2.2.2 e
  done := fun s Q E st q => by
    obtain ⟨a1, a2, a3, a4, a5, a6⟩ := st
    have he : xs[min xs.size ys.size]? = none ∨ ys[min xs.size ys.size]? = none := by
      rcases Nat.le_total xs.size ys.size with h | h
      · left; simp [Nat.min_eq_left h]
      · right; simp [Nat.min_eq_right h]
    rcases a6 with ⟨b1, a, b, b2⟩ | ⟨T, f, oT, b1, b2, r1, r2, r3, r4⟩
    · refine RZ.pyNext_zipT_end hA D b1 a1 b2 a2 a3 a4 a5 he fun h' kp => q h' s.toks fun c o hc e => ?_
      simp only [List.mem_cons, List.not_mem_nil, or_false, not_or] at hc
      exact kp c o hc.1 hc.2.1 hc.2.2.1 hc.2.2.2 e
    · refine next_held_end hA D ⟨b1, ⟨_, b2⟩, a1, a2, a3, a4, a5⟩ he fun h' kp => q h' s.toks fun c o hc e => ?_
      simp only [List.mem_cons, List.not_mem_nil, or_false, not_or] at hc
      exact kp c o hc.1 hc.2.2.1 hc.2.2.2 e
theorem zarg (D : ZipApart z TI TO i1 i2 l1 l2) : PairArg prog w "zip" z [z, TI, TO, i1, i2, l1, l2] [z, TO, i1, i2] (min xs.size ys.size) (fun i k v => xs[i]? = some k ∧ ys[i]? = some v) (ZOk z TI TO i1 i2 l1 l2 xs ys) where
  type := fun s ok => ⟨_, ok.1, rfl⟩
  notDict := by decide
  keep := fun h h' ⟨a1, a2, ⟨a, b, a3⟩, a4, a5, a6, a7⟩ kp => ⟨kp _ _ a1, kp _ _ a2, ⟨a, b, kp _ _ a3⟩, a4.at fun o e => kp _ o e, a5.at fun o e => kp _ o e, a6.at fun o e => kp _ o e, a7.at fun o e => kp _ o e⟩
  there := fun h ⟨a1, a2, ⟨a, b, a3⟩, ⟨_, a4, _⟩, ⟨_, a5, _⟩, ⟨_, a6, _⟩, ⟨_, a7, _⟩⟩ c hc => by
    simp only [List.mem_cons, List.not_mem_nil, or_false] at hc
    rcases hc with rfl | rfl | rfl | rfl | rfl | rfl | rfl
    · exact ⟨_, a1⟩
    · exact ⟨_, a2⟩
    · exact ⟨_, a3⟩
    · exact ⟨_, a4⟩
    · exact ⟨_, a5⟩
    · exact ⟨_, a6⟩
    · exact ⟨_, a7⟩
  sub := fun b hb => by
    simp only [List.mem_cons, List.not_mem_nil, or_false] at hb ⊢
    rcases hb with e | e | e | e <;> simp [e]
  noKeys := fun A s Q E hA ok h => getAttrOr_miss_zip ok.1 rfl rfl rfl zip_no_keys (by decide +kernel) hA h
  iter := fun A s d Q E hA ⟨a1, a2, ⟨a, b, a3⟩, a4, a5, a6, a7⟩ hd hdf h => by
    have n : ∀ b ∈ [z, TI, TO, i1, i2, l1, l2], d ≠ b := fun b hb e => hdf (e ▸ hb)
    exact wpAny_pyIter_zip a1 (h z [z, TO, i1, i2] _ s.heap s.toks (zsrc D hA n) ⟨a2, a4, a5, a6, a7, .inl ⟨a1, a, b, a3⟩⟩ (fun _ _ e => e) fun b hb => .inl hb)
end
end Mp
namespace Mp
open PySem PySem.Spec PyProof.Rows L2
def mergeG {κ : Type} [DecidableEq κ] (acc more : List (κ × V)) : List (κ × V) := more.foldl (fun a p => putK a p.1 p.2) acc
theorem mergeG_len {κ : Type} [DecidableEq κ] : ∀ (more acc : List (κ × V)), (mergeG acc more).length ≤ acc.length + more.length
  | [], acc => by simp [mergeG]
  | p :: r, acc => by
    have h1 := mergeG_len r (putK acc p.1 p.2)
    have h2 := length_putK acc p.1 p.2
    show (mergeG (putK acc p.1 p.2) r).length ≤ _
    rw [List.length_cons]; omega
theorem kt_all {H : Hp} : ∀ {kvs : List (List Key × V)} {xs : List (List Key × Addr × Value)}, KT H kvs xs → ∀ {acc : List (List Key × V)} {ys : List (List Key × Addr × Value)}, KT H acc ys → KT H (mergeG acc kvs) (storedAllH ys xs) := fun {kvs xs} h => by
  induction h with
  | nil => intro acc ys r; exact r
  | @cons p q ps qs a b ih =>
    intro acc ys r
    have e := r.put p.1 (b := q.2.1) a.2.1 a.2.2
    show KT H (mergeG (putK acc p.1 p.2) ps) (storedAllH (storedH ys q.1 q.2.1 q.2.2) qs)
    rw [← a.1]
    exact ih e
/-- dict(zip(a, b)), two tuples -/
def tDZip (K : PySem.W.Frag) (t : Bool) (ta : TA) : TE := fun σ H Q => ta σ H fun vs H1 => ∃ a b xs ys, vs = [.ref a, .ref b] ∧ SqT K H1 a xs ∧ SqT K H1 b ys ∧ xs.length < sizeLine ∧
  ((t = false ∧ ∃ κs : List Key, xs = κs.map kV ∧ ∀ p, H1 p = none → Q (.ref p) (upd H1 p (.dK (mergeG [] (κs.zip ys))))) ∨
   (t = true ∧ ∃ ts : List (List Key × Addr), xs = ts.map (fun q => V.ref q.2) ∧ (∀ q ∈ ts, H1 q.2 = some (.tup (q.1.map kV))) ∧ ∀ p, H1 p = none → Q (.ref p) (upd H1 p (.dT (mergeG [] ((ts.zip ys).map fun q => (q.1.1, q.2)))))))
section
variable {X : Cx}
theorem vals_get {xs : List V} {us : List Value} (r : Vals xs us) : ∀ {i : Nat} {u : Value}, us[i]? = some u → ∃ x, xs[i]? = some x ∧ RelV x u := by
  induction r with
  | nil => intro i u e; simp at e
  | cons h t ih =>
    intro i u e
    cases i with
    | zero => simp at e; subst e; exact ⟨_, rfl, h⟩
    | succ i => exact ih (by simpa using e)
theorem kv_zip : ∀ {κs : List Key} {ys : List V} {us : List Value}, Vals ys us → KV (κs.zip ys) (κs.zip us) := fun {κs ys us} r => by
  induction r generalizing κs with
  | nil => rw [List.zip_nil_right, List.zip_nil_right]; exact .nil
  | cons h t ih =>
    cases κs with
    | nil => exact .nil
    | cons k ks => exact .cons ⟨rfl, h⟩ ih
theorem kt_zip {H : Hp} : ∀ {ts : List (List Key × Addr)} {ys : List V} {us : List Value}, (∀ q ∈ ts, H q.2 = some (.tup (q.1.map kV))) → Vals ys us → KT H ((ts.zip ys).map fun q => (q.1.1, q.2)) ((ts.zip us).map fun q => (q.1.1, q.1.2, q.2)) := fun {ts ys us} h r => by
  induction r generalizing ts with
  | nil => rw [List.zip_nil_right, List.zip_nil_right]; exact .nil
  | cons a t ih =>
    cases ts with
    | nil => exact .nil
    | cons k ks => exact .cons ⟨rfl, h k List.mem_cons_self, a⟩ (ih fun q hq => h q (List.mem_cons_of_mem _ hq))
theorem pe_dzip {e e2 : Expr} {ta : TA} {t : Bool} {p p2 pos pos2 : Pos} (hc : X.calm = true) (hu : X.A.units + 5 < cLine) (hd : Gl X "dict") (hdm : X.mg "dict" = none) (hg : Gl X "zip") (hm : X.mg "zip" = none) (ha : PA X [e, e2] ta)
    (hs : starEach [e, e2] X.env = (false, eval e X.env) :: starEach [e2] X.env) (hpl : (backTo pos2 (starEach [e2] X.env)).any (·.1) = false)
    (na : starEach [.Call (.Name "zip" p2) [e, e2] [] pos2] X.env = (false, eval (.Call (.Name "zip" p2) [e, e2] [] pos2) X.env) :: starEach [] X.env := by rfl) :
    PE X (.Call (.Name "dict" p) [.Call (.Name "zip" p2) [e, e2] [] pos2] [] pos) (tDZip X.K t ta) := by
  refine ⟨fun pins s σ H Q I h => ?_⟩
  refine Call_ (ld_blt I hd hdm PyProof.Rows.boot_dict (PyProof.Rows.callWith_type1 (args_cons ?_ na) na))
  refine Call_ (ld_blt I hg hm PyProof.Rows.boot_zip (PyProof.Rows.callWith_type1 (thn (ha.run pos2 pins s σ H _ I h) fun us s1 ⟨vs, H1, I1, r1, a, b, xs, ys, ex, qx, qy, hl, q1⟩ => ?_) hs hpl))
  subst ex
  obtain ⟨u1, u2, rfl, h1, h2⟩ : ∃ u1 u2, us = [u1, u2] ∧ RelV (.ref a) u1 ∧ RelV (.ref b) u2 := by
    cases r1 with
    | cons h1 r1 => cases r1 with
      | cons h2 r1 => cases r1; exact ⟨_, _, rfl, h1, h2⟩
  cases h1
  cases h2
  obtain ⟨its, rv, p1, z1⟩ := I1.tuple qx
  obtain ⟨its2, rv2, p2', z2⟩ := I1.tuple qy
  obtain ⟨o1, ho1, _⟩ := id p1
  obtain ⟨o2, ho2, _⟩ := id p2'
  have a1 : a < s1.heap.objs.size := Heap.lt_size ho1
  have a2 : b < s1.heap.objs.size := Heap.lt_size ho2
  refine RZ.call_zipT (show s1.heap.IsTuple a its.toArray from p1) (show s1.heap.IsTuple b its2.toArray from p2') fun h' hz hTI hTO t1 t2 hsz hk => args_nil ?_
  have D := PySem.W.ktu_apart s1.heap.objs.size a b a1 a2
  have ok : ZOk (s1.heap.objs.size + 4) (s1.heap.objs.size + 2) (s1.heap.objs.size + 3) s1.heap.objs.size (s1.heap.objs.size + 1) a b its.toArray its2.toArray h' :=
    ⟨hz, hTI, ⟨_, _, hTO⟩, t1, t2, (show s1.heap.IsTuple a its.toArray from p1).at fun o e => hk _ o e, (show s1.heap.IsTuple b its2.toArray from p2').at fun o e => hk _ o e⟩
  have kp : ∀ {h2 : Heap}, (∀ c o, c ∉ [s1.heap.objs.size + 4, s1.heap.objs.size + 3, s1.heap.objs.size, s1.heap.objs.size + 1] → h'.get? c = some o → h2.get? c = some o) → ∀ c o, s1.heap.get? c = some o → h2.get? c = some o := fun {h2} k c o e => by
    have := Heap.lt_size e
    refine k c o ?_ (hk c o e)
    simp only [List.mem_cons, List.not_mem_nil, or_false, not_or]
    exact ⟨Nat.ne_of_lt (Nat.lt_of_lt_of_le this (Nat.le_add_right _ _)), Nat.ne_of_lt (Nat.lt_of_lt_of_le this (Nat.le_add_right _ _)), Nat.ne_of_lt this, Nat.ne_of_lt (Nat.lt_of_lt_of_le this (Nat.le_add_right _ _))⟩
  have l1 : its.toArray.size = xs.length := by simpa using (Paired.length rv).symm
  have big : ((h'.objs.size : Addr) == sysModules) = false := by
    have h : h'.objs.size ≠ sysModules := by rw [hsz]; exact Nat.ne_of_gt (Nat.lt_of_lt_of_le I1.big (Nat.le_add_right _ _))
    exact beq_eq_false_iff_ne.mpr h
  have fre : H1 h'.objs.size = none := I1.hok.fresh (by rw [hsz]; exact Nat.le_add_right _ _)
  rcases q1 with ⟨rfl, κs, rfl, q⟩ | ⟨rfl, ts, rfl, ht, q⟩
  · have ex2 : PairsHave (mixKind X.prog X.w) (min its.toArray.size its2.toArray.size) (fun i k v => its.toArray[i]? = some k ∧ its2.toArray[i]? = some v) (κs.zip its2) := by
      refine ⟨by rw [List.length_zip, l1]; simp, fun i key v ⟨e1, e2⟩ => ?_⟩
      obtain ⟨x, f1, f2⟩ := vals_get rv (by simpa using e1)
      rw [List.getElem?_map, Option.map_eq_some_iff] at f1
      obtain ⟨k, f1, rfl⟩ := f1
      exact ⟨k, List.getElem?_zip_eq_some.mpr ⟨f1, by simpa using e2⟩, kV_is f2⟩
    refine call_dict_pairs (s := { s1 with heap := h' }) (zarg D) (I1.ok.hd hc) ok ex2 (by rw [l1]; exact Nat.le_trans (Nat.min_le_left _ _) (Nat.le_of_lt hl)) fun h2 tk dd k => ?_
    have rel := (kv_zip (κs := κs) rv2).merge (kvs := []) (vs := []) .nil
    refine ⟨.ref h'.objs.size, _, I1.laid (t' := tk) (o := .dK (mergeG [] (κs.zip ys))) (kp k) (by rw [hsz]; exact Nat.le_add_right _ _) ⟨?_, big, _, rel, dd⟩, rfl, q _ fre⟩
    have := mergeG_len (κs.zip ys) []
    have h3 : (κs.zip ys).length ≤ κs.length := by rw [List.length_zip]; omega
    simp at this hl h3 ⊢
    omega
  · have ex2 : PairsHaveH (tupleKind (mixKind X.prog X.w)) (min its.toArray.size its2.toArray.size) (fun i k v => its.toArray[i]? = some k ∧ its2.toArray[i]? = some v) ((ts.zip its2).map fun q => (q.1.1, q.1.2, q.2)) := by
      refine ⟨by rw [List.length_map, List.length_zip, l1]; simp, fun i key v ⟨e1, e2⟩ => ?_⟩
      obtain ⟨x, f1, f2⟩ := vals_get rv (by simpa using e1)
      rw [List.getElem?_map, Option.map_eq_some_iff] at f1
      obtain ⟨k, f1, rfl⟩ := f1
      refine ⟨k.1, k.2, ?_, f2⟩
      rw [List.getElem?_map, List.getElem?_zip_eq_some (z := (k, v)) |>.mpr ⟨f1, show its2[i]? = some v by simpa using e2⟩]
      rfl
    have stay : KeysStay (tupleKind (mixKind X.prog X.w)) h' h'.objs.size [s1.heap.objs.size + 4, s1.heap.objs.size + 3, s1.heap.objs.size, s1.heap.objs.size + 1] ((ts.zip its2).map fun q => (q.1.1, q.1.2, q.2)) := fun h2 k x hx => by
      obtain ⟨q, hq, rfl⟩ := List.mem_map.mp hx
      have hq1 : q.1 ∈ ts := (List.of_mem_zip (a := q.1) (b := q.2) hq).1
      refine key_of (I1.hok.kept fun c o e => ?_) (ht _ hq1)
      have := Heap.lt_size e
      refine k c o (by rw [hsz]; exact Nat.ne_of_lt (Nat.lt_of_lt_of_le this (Nat.le_add_right _ _))) ?_ (hk c o e)
      simp only [List.mem_cons, List.not_mem_nil, or_false, not_or]
      exact ⟨Nat.ne_of_lt (Nat.lt_of_lt_of_le this (Nat.le_add_right _ _)), Nat.ne_of_lt (Nat.lt_of_lt_of_le this (Nat.le_add_right _ _)), Nat.ne_of_lt this, Nat.ne_of_lt (Nat.lt_of_lt_of_le this (Nat.le_add_right _ _))⟩
    refine call_dict_pairsH (s := { s1 with heap := h' }) (zarg D) (I1.ok.hd hc) ?_ ok ex2 stay (by rw [l1]; exact Nat.le_trans (Nat.min_le_left _ _) (Nat.le_of_lt hl)) fun h2 tk dd k => ?_
    · have h : X.A.units + 1 + 1 < cLine := by omega
      exact h
    have rel := kt_all (kt_zip (ts := ts) ht rv2) (acc := []) (ys := []) .nil
    obtain ⟨qo, qes, qep, hq, g2, g3, g4, _, g5⟩ := dd
    refine ⟨.ref h'.objs.size, _, I1.laid (t' := tk) (o := .dT (mergeG [] ((ts.zip ys).map fun q => (q.1.1, q.2)))) (kp k) (by rw [hsz]; exact Nat.le_add_right _ _) ⟨?_, big, _, rel.keeps fun c ys e => ?_, qo, qes, qep, hq, g2, g3, g4, g5⟩, rfl, q _ fre⟩
    · have := mergeG_len ((ts.zip ys).map fun q => (q.1.1, q.2)) []
      have h3 : (ts.zip ys).length ≤ ts.length := by rw [List.length_zip]; omega
      simp at this hl h3 ⊢
      omega
    · rw [upd_ne (fun z => by rw [z, fre] at e; cases e)]; exact e
end
end Mp
namespace Mp
open PySem PySem.Spec PyProof.Rows L2
section
variable {ω : Wk} {C : Cl} {σ : L2.St} {H : Hp} {Q : VK}
theorem mput_ok {κ : Type} [DecidableEq κ] {f : κ → D} (hf : ∀ {a b}, f a = f b → a = b) {mg : Mg} {U : Addr → Prop} {c : List Addr} : ∀ (kvs : List (κ × V)) (ds : List D), RpL mg H U c ds (kvs.map (·.2)) → ∀ (acc : List (κ × V)) (us : List D), RpL mg H U c us (acc.map (·.2)) →
    (putsD (kvs.map fun p => f p.1) ds (acc.map fun p => f p.1) us).1 = (mergeG acc kvs).map (fun p => f p.1) ∧ RpL mg H U c (putsD (kvs.map fun p => f p.1) ds (acc.map fun p => f p.1) us).2 ((mergeG acc kvs).map (·.2))
  | [], ds, h, acc, us, g => by
    rw [List.map_nil] at h
    have : putsD [] ds (acc.map fun p => f p.1) us = (acc.map (fun p => f p.1), us) := by cases ds <;> rfl
    rw [List.map_nil, this]
    exact ⟨rfl, g⟩
  | p :: kvs, [], h, acc, us, g => by
    have := h.len
    simp at this
  | p :: kvs, d :: ds, h, acc, us, g => by
    obtain ⟨v, r, e, h1, h2⟩ := RpL.cons_iff.mp h
    simp only [List.map_cons, List.cons.injEq] at e
    obtain ⟨rfl, rfl⟩ := e
    obtain ⟨p1, p2⟩ := put_ok hf p.1 g h1
    have := mput_ok hf kvs ds h2 (putK acc p.1 p.2) _ p2
    simp only [List.map_cons, putsD]
    rw [p1]
    exact this
theorem keysT {mg : Mg} {U : Addr → Prop} {c : List Addr} : ∀ {us : List D} {vs : List V}, RpL mg H U c us vs → us.all isKeyT = true → ∃ ts : List (List Key × Addr), vs = ts.map (fun q => V.ref q.2) ∧ us = ts.map (fun q => keyTD q.1) ∧ ∀ q ∈ ts, H q.2 = some (.tup (q.1.map kV))
  | [], vs, h, _ => ⟨[], by rw [RpL.nil_iff.mp h]; rfl, rfl, fun _ z => nomatch z⟩
  | u :: us, vs, h, k => by
    obtain ⟨v, r, rfl, h1, h2⟩ := RpL.cons_iff.mp h
    simp only [List.all_cons, Bool.and_eq_true] at k
    obtain ⟨ts, e1, e2, e3⟩ := keysT h2 k.2
    obtain ⟨κ, rfl⟩ := isKeyT_ok k.1
    obtain ⟨a, rfl, ea⟩ := h1.keyT
    exact ⟨(κ, a) :: ts, by rw [e1]; rfl, by rw [e2]; rfl, fun q hq => (List.mem_cons.mp hq).elim (fun z => z ▸ ea) (e3 q)⟩
theorem zip_rp {mg : Mg} {U : Addr → Prop} {c : List Addr} {κ : Type} : ∀ (κs : List κ) {ds : List D} {vs : List V}, RpL mg H U c ds vs → ∀ f : κ → D, ((κs.map f).zip ds).map (·.1) = (κs.zip vs).map (fun p => f p.1) ∧ RpL mg H U c (((κs.map f).zip ds).map (·.2)) ((κs.zip vs).map (·.2))
  | [], ds, vs, h, f => by simp [RpL.nil]
  | κ :: κs, [], vs, h, f => by rw [RpL.nil_iff.mp h]; simp [RpL.nil]
  | κ :: κs, d :: ds, vs, h, f => by
    obtain ⟨v, r, rfl, h1, h2⟩ := RpL.cons_iff.mp h
    obtain ⟨a, b⟩ := zip_rp κs h2 f
    simp only [List.map_cons, List.zip_cons_cons, a]
    exact ⟨trivial, RpL.cons h1 b⟩
theorem s_dzip {K : PySem.W.Frag} {t : Bool} {a b : ME} (h : tE ω (evE C (.dzip t a b)) σ H Q) : tDZip K t (tCons (tE ω (evE C a)) (tCons (tE ω (evE C b)) tNil)) σ H Q := by
  obtain ⟨R, c, σd, M, m, rs, h⟩ := h
  rw [evE] at h
  refine ⟨R, c, σd, M, m, rs, h.bind fun x M1 v H1 c1 a1 r1 h1 => ⟨R, c1, σd, M1, a1.2, rs.mono a1.1.gr, h1.bind fun y M2 u H2 c2 a2 r2 h2 => ?_⟩⟩
  obtain ⟨d, e, h3⟩ := h2.opt
  unfold dzipD at e
  split at e
  · rename_i xs ys
    split at e
    · rename_i k
      simp only [Bool.and_eq_true, decide_eq_true_eq] at k
      cases e
      have r1' : Rp ω.mg H2 (Lv R c2 M2) c2 (.tup xs) v := r1.mono a2.1.gr
      simp only [rlD, Rp] at r1' r2
      obtain ⟨l1, vs, rfl, e1, n1, q1⟩ := r1'
      obtain ⟨l2, us, rfl, e2, n2, q2⟩ := r2
      refine ⟨l1, l2, vs, us, rfl, SqT.of e1, SqT.of e2, by rw [q1.len]; exact k.2, ?_⟩
      cases t with
      | false =>
        obtain ⟨κs, rfl, rfl⟩ := keys_vals q1 k.1
        refine .inl ⟨rfl, κs, rfl, fun p hp => ?_⟩
        have m2 := a2.2.new (o := HO.dK (mergeG [] (κs.zip us))) hp
        have st := Stp.new (o := HO.dK (mergeG [] (κs.zip us))) a2.2 hp
        obtain ⟨z1, z2⟩ := zip_rp κs (RpL.mono st.gr _ q2) keyD
        obtain ⟨p1, p2⟩ := mput_ok keyD_inj (κs.zip us) _ z2 [] [] RpL.nil
        refine h3 _ _ c2 ⟨st, m2⟩ ?_
        simp only [rlD, Rp]
        rw [z1]
        exact ⟨p, rfl, a2.2.fresh hp, .inl ⟨trivial, _, upd_same, p1, p2⟩⟩
      | true =>
        obtain ⟨ts, rfl, rfl, ht⟩ := keysT q1 k.1
        refine .inr ⟨rfl, ts, rfl, ht, fun p hp => ?_⟩
        obtain ⟨kvs, hk⟩ : ∃ kvs, kvs = (ts.zip us).map fun q => (q.1.1, q.2) := ⟨_, rfl⟩
        rw [← hk]
        have m2 := a2.2.new (o := HO.dT (mergeG [] kvs)) hp
        have st := Stp.new (o := HO.dT (mergeG [] kvs)) a2.2 hp
        obtain ⟨z1, z2⟩ := zip_rp ts (RpL.mono st.gr _ q2) (fun q => keyTD q.1)
        have ek : (ts.zip us).map (fun p => keyTD p.1.1) = kvs.map fun p => keyTD p.1 := by rw [hk, List.map_map]; rfl
        have ev : (ts.zip us).map (·.2) = kvs.map (·.2) := by rw [hk, List.map_map]; rfl
        rw [ev] at z2
        rw [ek] at z1
        obtain ⟨p1, p2⟩ := mput_ok keyTD_inj kvs _ z2 [] [] RpL.nil
        refine h3 _ _ c2 ⟨st, m2⟩ ?_
        simp only [rlD, Rp]
        rw [z1]
        exact ⟨p, rfl, a2.2.fresh hp, .inr ⟨trivial, _, upd_same, p1, p2⟩⟩
    · cases e
  · cases e
end
section
variable {ω : Wk} {C : Cl} {σ : L2.St} {H : Hp} {Q : VK}
theorem okD_at {mg : Mg} {R : Addr → Prop} {c : List Addr} {M : Cs} {x : D} {v : V} {K : PySem.W.Frag} (m : CM mg R H c M) (r : Rp mg H (Lv R c M) c x v) (e : okM .get (rd M x) = true) : tyV K "dict" v H := by
  cases e1 : rd M x with
  | none => rw [e1] at e; cases e
  | some d =>
    rw [e1] at e
    cases d <;> simp only [okM, Bool.false_eq_true] at e
    obtain ⟨p, rfl, h2⟩ := rd_ok m r e1
    refine .inr (.inr (.inl ⟨rfl, ?_⟩))
    rcases h2 with ⟨_, kvs, h3, _⟩ | ⟨_, kvs, h3, _⟩
    · exact .inl ⟨kvs, h3⟩
    · exact .inr ⟨kvs, h3⟩
theorem s_get {K : PySem.W.Frag} {o : ME} {es : MEs} (h : tE ω (evE C (.met .get o es)) σ H Q) : tBM K "dict" (rMt ω.mg getD) (tE ω (evE C o)) (tA ω (evEs C es)) σ H Q := by
  obtain ⟨R, c, σd, M, m, rs, h⟩ := h
  rw [evE] at h
  refine ⟨R, c, σd, M, m, rs, h.bind fun x M1 v H1 c1 a1 r1 h1 => ?_⟩
  split at h1
  · rename_i k
    refine ⟨okD_at a1.2 r1 k, R, c1, σd, M1, a1.2, rs.mono a1.1.gr, h1.bind fun y M2 u H2 c2 a2 r2 h2 => ?_⟩
    obtain ⟨d, e, h3⟩ := h2.opt
    simp only [Option.bind_eq_some_iff] at e
    obtain ⟨x', e1, ys, e2, e3⟩ := e
    exact ⟨R, c2, M2, x', ys, d, a2.2, rd_ok a2.2 (r1.mono a2.1.gr) e1, rds_ok a2.2 r2 e2, e3, Post.out h3⟩
  · exact h1.elim
end
end Mp
namespace Mp
open PySem PySem.Spec PyProof.Rows L2
/-- a set just made -/
abbrev newSet (w : World) : Obj := { cls := .type "set", dict := none, data := .set #[] 0 (.fresh 0 0 (!w.params.followText "set-order")) }
section
variable {P : Program} {w : World} {A : Around} {E : Value → Shared → Prop} {s : Shared}
/-- what set(..) of a list of ints leaves -/
def SetMade (w : World) (s : Shared) (ns : List Int) (t : Shared) : Prop :=
  ∃ h' tk c, t = { s with heap := h', toks := tk } ∧ SetR w h' s.heap.objs.size (fun j => decide (j ∈ ns)) c ∧ c ≤ ns.length ∧ ∀ b o, s.heap.get? b = some o → h'.get? b = some o
/-- the ints of a list, one by one, into the set at S just made -/
theorem set_fill {B : Around} {l : Addr} {us : Array Value} {ns : List Int} {R : Result → Shared → Prop} (hB : B.in1.handled = none) (hl : s.heap.IsList l us) (hu : IntsAre us.toList ns) (hb : ns.length + 1 < scanBound)
    (q : ∀ t, SetMade w s ns t → R (.ok (.ret .none)) t) :
    codeAny (model P w) B (.builtin "set.update.loop" ⟨[.ref s.heap.objs.size, .ref (s.heap.push (newSet w)).objs.size], []⟩) R
      { s with heap := (s.heap.push (newSet w)).push { cls := .type "list_iterator", data := .fields #[.ref l, .int 0 0] } } := by
  have hz : us.size = ns.length := by have e := IntsAre.length hu; rwa [Array.length_toList] at e
  obtain ⟨ol, gl, _⟩ := id hl
  have hlt := Heap.lt_size gl
  have h1 : (s.heap.push (newSet w)).objs.size = s.heap.objs.size + 1 := Heap.size_push ..
  have n1 : l ≠ (s.heap.push (newSet w)).objs.size := by rw [h1]; exact Nat.ne_of_lt (Nat.lt_succ_of_lt hlt)
  have n2 : s.heap.objs.size ∉ [(s.heap.push (newSet w)).objs.size, l] := by
    rw [h1]
    intro hm
    rcases List.mem_cons.mp hm with e | e
    · exact Nat.ne_of_lt (Nat.lt_succ_self _) e
    · exact Nat.ne_of_gt hlt (List.mem_singleton.mp e)
  have at0 : ((s.heap.push (newSet w)).push { cls := .type "list_iterator", data := .fields #[.ref l, .int 0 0] }).get? s.heap.objs.size = some (newSet w) :=
    Heap.get?_push_of_some _ (Heap.get?_push_size _ rfl)
  refine set_update_ints (Walks.list hB _ l n1 us).toS _ n2 ns hz hb (fun i v hv => ?_) us.size 0 _ rfl (Nat.zero_le _) ⟨⟨_, Heap.get?_push_size _ rfl, rfl, rfl⟩, (hl.push _).push _⟩ ⟨0, Nat.le_refl 0, setR_new_at at0⟩ fun t c mv hc hS => ?_
  · have hi : i < ns.length := hz ▸ (Array.getElem?_eq_some_iff.mp hv).1
    obtain ⟨tk, e⟩ := IntsAre.int_at hu i v (by rw [Array.getElem?_toList]; exact hv)
    refine ⟨ns[i], tk, List.getElem?_eq_getElem hi, e.trans ?_⟩
    rw [List.getD_eq_getElem?_getD, List.getElem?_eq_getElem hi]
    rfl
  · refine q t ⟨t.heap, t.toks, c, ?_, hS, hz ▸ hc, fun b o e => ?_⟩
    · have e1 : t.gens = s.gens := mv.gens
      have e2 : t.drawn = s.drawn := mv.drawn
      have e3 : t.os = s.os := mv.os
      rw [← e1, ← e2, ← e3]
    · have lt := Heap.lt_size e
      refine mv.heap b o (fun hm => ?_) (Heap.get?_push_of_some _ (Heap.get?_push_of_some _ e))
      rcases List.mem_cons.mp hm with z | z
      · exact Nat.ne_of_lt lt z
      · have z2 := List.mem_singleton.mp z
        rw [h1] at z2
        exact Nat.ne_of_lt (Nat.lt_succ_of_lt lt) z2
/-- set(l) of a list of ints -/
theorem set_list {l : Addr} {us : Array Value} {ns : List Int} {Q : Value → Shared → Prop} (hA : A.handled = none) (hl : s.heap.IsList l us) (hu : IntsAre us.toList ns) (hb : ns.length + 1 < scanBound)
    (q : ∀ t, SetMade w s ns t → Q (.ref s.heap.objs.size) t) : wpAny (model P w) A (call (.type "set") [.ref l]) Q E s := by
  rcases F.called_set.mro with ⟨x1, x2, x3⟩
  have y1 := F.called_set.made
  have y2 := F.called_set.sub
  have y3 := F.called_set.notType
  have y4 := F.called_set.canCreate
  have y5 := F.typeCall_set_1 (.ref l)
  refine wpAny_call (codeAny_of_tree ?_)
  show wpAny _ _ (callAny (.type "set") _) _ _ _
  refine wpAny_pure ⟨Code.quiet_builtin _ (by decide +kernel), ?_⟩
  refine codeAny_builtin F.entry_type_call ?_
  rw [Around.under_plain (weight_type_call_type "set" [Value.ref l] ([] : List _)) rfl]
  repeat (any_goals (first | assumption | wp_step))
  refine codeAny_mono (code_set_led1 (E := E) (Value.ref l) (Q₁ := fun o t => o = .ref s.heap.objs.size ∧ t = { s with heap := s.heap.push (newSet w) }) ⟨rfl, rfl⟩) ?_
  intro r t hr
  match r, hr with
  | .error _, hr => exact hr
  | .ok (.ret _), hr =>
    obtain ⟨rfl, rfl⟩ := hr
    have z1 := F.called_set.init.lookup
    have z2 := F.called_set.init.bind (Value.ref s.heap.objs.size)
    repeat (any_goals (first | assumption | wp_step))
    have ty : Shared.TypeIs { s with heap := s.heap.push (newSet w) } (.ref s.heap.objs.size) "set" := ⟨newSet w, Heap.get?_push_size _ rfl, rfl⟩
    refine codeAny_mono (codeAny_call_builtin (R := wants (fun r t => r = .none ∧ SetMade w s ns t) E) F.called_set.init.plain F.entry_set_init (check_set_init_1 ty ?_)) ?_
    · obtain ⟨⟨oc, od, oda, os⟩, gl, hc, nl, hd⟩ := id hl
      simp only at hc hd
      subst hc hd
      have gl2 : (s.heap.push (newSet w)).get? l = some { cls := .type "list", dict := od, data := .seq us nl, slots := os } := Heap.get?_push_of_some _ gl
      have l2 : (s.heap.push (newSet w)).IsList l us := ⟨_, gl2, rfl, nl, rfl⟩
      have w1 := F.sub_list_set
      have w2 := F.sub_list_frozenset
      have w3 : (Value.type "list" == Value.type "dict") = false := by decide
      unfold Builtin.«set.__init__» noKeywords Builtin.Frozenset.updateFrom
      generalize hPI : pyIter = PI
      wp_walk
      subst hPI
      refine wpAny_pyIter_list l2 (wpAny_bind (wpAny_runValue ?_))
      refine set_fill (by simp [hA]) hl hu hb fun t m => ?_
      show wpAny _ _ _ _ _ _
      refine wpAny_pure ?_
      show wpAny _ _ (ret Value.none) _ _ _
      exact wpAny_pure ⟨rfl, m⟩
    · intro r2 t2 h2
      match r2, h2 with
      | .error _, h2 => exact h2
      | .ok (.ret _), h2 =>
        obtain ⟨rfl, m⟩ := h2
        repeat (any_goals (first | assumption | wp_step))
        exact q _ m
end
end Mp
namespace Mp
open PySem PySem.Spec PyProof.Rows L2
theorem asc_ext : ∀ {l m : List Int}, l.Pairwise (· < ·) → m.Pairwise (· < ·) → (∀ x, x ∈ l ↔ x ∈ m) → l = m
  | [], [], _, _, _ => rfl
  | [], y :: m, _, _, h => absurd ((h y).mpr List.mem_cons_self) (by simp)
  | x :: l, [], _, _, h => absurd ((h x).mp List.mem_cons_self) (by simp)
  | x :: l, y :: m, hl, hm, h => by
    rw [List.pairwise_cons] at hl hm
    have e : x = y := by
      have h1 := (h x).mp List.mem_cons_self
      have h2 := (h y).mpr List.mem_cons_self
      rcases List.mem_cons.mp h1 with z | h1
      · exact z
      · rcases List.mem_cons.mp h2 with z | h2
        · exact z.symm
        · have a := hm.1 x h1
          have b := hl.1 y h2
          omega
    subst e
    rw [asc_ext hl.2 hm.2 fun z => ?_]
    constructor
    · intro hz
      have := hl.1 z hz
      exact (List.mem_cons.mp ((h z).mp (List.mem_cons_of_mem _ hz))).resolve_left (by omega)
    · intro hz
      have := hm.1 z hz
      exact (List.mem_cons.mp ((h z).mpr (List.mem_cons_of_mem _ hz))).resolve_left (by omega)
theorem insU_mem (x z : Int) : ∀ l : List Int, z ∈ insU x l ↔ z = x ∨ z ∈ l
  | [] => by simp [insU]
  | y :: r => by
    rw [insU]
    split
    · simp
    · split
      · rename_i e; subst e; simp
      · rw [List.mem_cons, insU_mem x z r, List.mem_cons]
        constructor
        · rintro (h | h | h)
          · exact .inr (.inl h)
          · exact .inl h
          · exact .inr (.inr h)
        · rintro (h | h | h)
          · exact .inr (.inl h)
          · exact .inl h
          · exact .inr (.inr h)
theorem insU_up (x : Int) : ∀ {l : List Int}, l.Pairwise (· < ·) → (insU x l).Pairwise (· < ·)
  | [], _ => by simp [insU]
  | y :: r, h => by
    rw [List.pairwise_cons] at h
    rw [insU]
    split
    · rename_i hxy
      exact List.pairwise_cons.mpr ⟨fun z hz => by rcases List.mem_cons.mp hz with rfl | hz; exact hxy; have := h.1 z hz; omega, List.pairwise_cons.mpr h⟩
    · split
      · exact List.pairwise_cons.mpr h
      · refine List.pairwise_cons.mpr ⟨fun z hz => ?_, insU_up x h.2⟩
        rcases (insU_mem x z r).mp hz with rfl | hz
        · omega
        · exact h.1 z hz
theorem ssetI_ok (ns : List Int) : (ssetI ns).Pairwise (· < ·) ∧ ∀ z, z ∈ ssetI ns ↔ z ∈ ns := by
  have key : ∀ (ns l : List Int), l.Pairwise (· < ·) → (ns.foldl (fun l x => insU x l) l).Pairwise (· < ·) ∧ ∀ z, z ∈ ns.foldl (fun l x => insU x l) l ↔ z ∈ l ∨ z ∈ ns := fun ns => by
    induction ns with
    | nil => intro l h; exact ⟨h, fun z => by simp⟩
    | cons x ns ih =>
      intro l h
      obtain ⟨a, b⟩ := ih (insU x l) (insU_up x h)
      refine ⟨a, fun z => ?_⟩
      rw [List.foldl_cons, b z, insU_mem, List.mem_cons]
      constructor
      · rintro ((h | h) | h)
        · exact .inr (.inl h)
        · exact .inl h
        · exact .inr (.inr h)
      · rintro (h | h | h)
        · exact .inl (.inr h)
        · exact .inl (.inl h)
        · exact .inr h
  obtain ⟨a, b⟩ := key ns [] List.Pairwise.nil
  exact ⟨a, fun z => by rw [ssetI, b z]; simp⟩
/-- set(l), l a list of fewer than 64 ints -/
def rSetL (K : PySem.W.Frag) (w : World) : List V → Hp → VK → Prop := fun vs H Q => ∃ (p : Addr) (ns : List Int), vs = [.ref p] ∧ SqL K H p (ns.map V.int) ∧ ns.length < 64 ∧ ∀ (a : Addr) (c : Nat), H a = none → c ≤ ns.length → Q (.ref a) (upd H a (SetO w a (fun j => decide (j ∈ ns)) c))
section
variable {X : Cx}
theorem cr_setL (hc : X.calm = true) : CallR X (.type "set") (rSetL X.K X.w) := by
  intro pins s σ H vs us Q I r h
  obtain ⟨p, ns, rfl, hs, hl, q⟩ := h
  obtain ⟨u, rfl, ru⟩ := vals1 r
  obtain rfl : u = Value.ref p := ru
  obtain ⟨its, rv, pl, hz⟩ := I.list hs
  refine set_list (I.ok.hd hc) pl.isList (by simpa using ints_of_vals rv) (by unfold scanBound; omega) fun t m => ?_
  obtain ⟨h', tk, c, rfl, hS, hc2, k⟩ := m
  exact ⟨.ref s.heap.objs.size, upd H s.heap.objs.size (SetO X.w s.heap.objs.size (fun j => decide (j ∈ ns)) c), I.laid (t' := tk) (fun b u e => k b u e) (Nat.le_refl _) (setO_new hS), rfl, q _ c (I.hok.fresh (Nat.le_refl _)) hc2⟩
end
section
variable {ω : Wk} {C : Cl} {σ : L2.St} {H : Hp} {Q : VK}
theorem s_sset {K : PySem.W.Frag} {w : World} {a : ME} (h : tE ω (evE C (.sset a)) σ H Q) : tCB (rSortedSet w) (tCons (tCB (rSetL K w) (tCons (tE ω (evE C a)) tNil)) tNil) σ H Q := by
  obtain ⟨R, c, σd, M, m, rs, h⟩ := h
  rw [evE] at h
  refine ⟨R, c, σd, M, m, rs, h.bind fun x M1 v H1 c1 a1 r1 h1 => ?_⟩
  obtain ⟨d, e, h3⟩ := h1.opt
  simp only [Option.bind_eq_some_iff] at e
  obtain ⟨x', e1, e2⟩ := e
  have rr := rd_ok a1.2 r1 e1
  unfold ssetD at e2
  split at e2
  · split at e2
    · rename_i ns hi
      split at e2
      · rename_i hl
        cases e2
        obtain ⟨p, ws, rfl, g1, rw1⟩ := rr
        obtain rfl := ints_ok hi rw1
        refine ⟨p, ns, rfl, SqL.of g1, hl, fun q cc hq hcc => ⟨q, _, cc, rfl, upd_same, by omega, fun ms p2 up mem len hp2 => ?_⟩⟩
        obtain ⟨u1, u2⟩ := ssetI_ok ns
        obtain rfl : ms = ssetI ns := asc_ext up u1 fun z => (mem z).trans (by rw [u2]; simp)
        have st1 := Stp.new (o := SetO w q (fun j => decide (j ∈ ns)) cc) a1.2 hq
        have m1 := a1.2.new (o := SetO w q (fun j => decide (j ∈ ns)) cc) hq
        have st2 := Stp.new (o := HO.lst ((ssetI ns).map V.int)) m1 hp2
        have m2 := m1.new (o := HO.lst ((ssetI ns).map V.int)) hp2
        have af : Aft ω.mg R H1 c1 M1 M1 _ c1 := ⟨st1.trans st2, m2⟩
        refine h3 _ _ c1 af ?_
        simp only [rlD, Rp]
        refine ⟨p2, _, rfl, upd_same, m1.fresh hp2, ?_⟩
        have : ∀ l : List Int, RpL ω.mg (upd (upd H1 q (SetO w q (fun j => decide (j ∈ ns)) cc)) p2 (.lst ((ssetI ns).map V.int))) (Lv R c1 M1) c1 (l.map D.int) (l.map V.int) := fun l => by
          induction l with
          | nil => exact RpL.nil
          | cons x l ih => exact RpL.cons (by simp [Rp]) ih
        exact this _
      · cases e2
    · cases e2
  · cases e2
end
section
variable {X : Cx}
theorem pe_sset {e : Expr} {te : TE} {p1 p2 p3 p4 : Pos} (hc : X.calm = true) (g1 : Gl X "sorted") (m1 : X.mg "sorted" = none) (g2 : Gl X "set") (m2 : X.mg "set" = none) (h : PE X e te) (hs : starEach [e] X.env = (false, eval e X.env) :: starEach [] X.env) :
    PE X (.Call (.Name "sorted" p1) [.Call (.Name "set" p2) [e] [] p3] [] p4) (tCB (rSortedSet X.w) (tCons (tCB (rSetL X.K X.w) (tCons te tNil)) tNil)) :=
  pe_callB (cr_sortedSet hc) g1 m1 (by decide +kernel) (pa_cons (pe_callTy (cr_setL hc) g2 m2 (by decide +kernel) (pa_cons h pa_nil hs) (by decide) (by decide) hs rfl) pa_nil rfl) (by decide) (by decide) rfl rfl
end
end Mp

/-! An own exception class over ValueError: C() without an __init__; C(x) by an __init__ that says super().__init__() and keeps x. -/
namespace Mp
open PySem PySem.W PySem.Spec PySem.Calls PyProof.Rows

/-- the body: super().__init__(); self.f = f -/
inductive InitBody (f : Str) : List Stmt → Prop
  | mk (p0 p1 p2 p3 p4 q0 q1 q2 q3 : Pos) (hp : (p2.endLine == p3.line) = true) : InitBody f [.Expr (.Call (.Attribute (.Call (.Name "super" p0) [] [] p1) "__init__" p2) [] [] p3) p4, .Assign [.Attribute (.Name "self" q0) f q1] (.Name f q2) q3]
/-- what the written part says of such a class -/
structure IniC (P : Program) (K : Frag) (C fI : Addr) (f : Str) : Prop where
  oex : L2.OexC K C
  ini : findIn K (.ref C) "__init__" = some (some (.ref fI))
  typ : typeIn K (.ref fI) = some (.type "function")
  nof : findIn K (.ref C) f = some none
  any : nsIn K cStatics "thirdparty.any" = some none
  sup : ks_superIn K C C "__init__" = some (some (.builtin "ValueError.__init__"))
  val : subIn K (.ref C) (.type "ValueError") = some true
  mro : mroIn K C (.ref C) = some true
  top : (P.main.scope.names.lookup ("super" : Str)).isSome = false
  fd : ∃ (oc ccl cl : Value) (od cdd cld : Option Addr) (osl ccs csl : Array (Option Value)) (fd : FuncData) (body : List Stmt) (cda cc : Addr) (vs : Array Value) (file : Str) (tf : Tok) (ar : Arg),
    K.lookup fI = some ⟨oc, od, .func fd, osl⟩ ∧ fd.body = .stmts body ∧ InitBody f body ∧ (∀ (s : Shared) (a u : Value), BindsTo s fd ⟨[a, u], []⟩ [("self", a), (f, u)] ∧ BindsTo s fd ⟨[a], [(f, u)]⟩ [("self", a), (f, u)]) ∧
    fd.scope.kind = .function ∧ fd.scope.isCoroutine = false ∧ fd.scope.isGenerator = false ∧ fd.scope.names.lookup ("super" : Str) = some .globalImplicit ∧ fd.scope.names.lookup ("__class__" : Str) = some .free ∧
    fd.scope.names.lookup ("self" : Str) = some .local ∧ fd.scope.names.lookup f = some .local ∧ (∀ x ∈ fd.scope.names, x.2 ≠ .cell) ∧ fd.globals = mainGlobals ∧ fd.builtins = builtinsNs ∧ fd.closure.lookup ("__class__" : Str) = some cc ∧
    fd.code = .ref cda ∧ codeIn K fd.code fd.qualname = true ∧ K.lookup cda = some ⟨ccl, cdd, .fields vs, ccs⟩ ∧ vs[2]? = some (.str file tf) ∧ ((P.main.file : Str) == file) = true ∧
    K.lookup cc = some ⟨cl, cld, .cell (some (.ref C)), csl⟩ ∧ (fd.params.posonlyargs ++ fd.params.args).head? = some ar ∧ ar.arg = "self" ∧ (f == ("__debug__" : Str)) = false ∧ (f == ("self" : Str)) = false
section
variable {prog : Program} {w : World} {A : Around} {R : Result → Shared → Prop} {hp : Heap} {g : Array GenState} {d : Drawn} {t : Nat} {os : OsState} {K : Frag} {C fI e t0 : Addr} {u : Value} {f : Str} {mg mb : Str → Option Value}
theorem super_eval {o : Expr} {nm : Str} {p2 p3 : Pos} {en : Env} (h : (p2.endLine == p3.line) = true) : eval (.Call (.Attribute o nm p2) [] [] p3) en = (do
    let ov ← attributeBase o nm en (eval o en)
    standAt p2.atName
    let (f, first) ← holding [ov] (getMethod ov nm (do return (← importBound o en).getD true))
    callWith p3 f first (backTo p3 (starEach [] en)) []) := by
  show (do
    let ov ← attributeBase o nm en (eval o en)
    standAt p2.atName
    methodCall o nm p2 p3 en ov 0 [] []) = _
  unfold methodCall methodCallPos calleeOf
  have e : methodCallForm 0 [] [] = true := rfl
  simp only [e, if_true, Bool.not_true, Bool.false_or, h, pure_bind]
  rfl
theorem wrapped_call {E : Value → Shared → Prop} {a c : Addr} {Q : Value → Shared → Prop} {nm q : Str} {N : Addr} {bs bm : List Value} {hd : Bool} {sub : List Value} {ab : Bool} {col : Option Bool} {dd : Option Addr} {k0 k1 k2 k3 k5 : Option Value} {sn : List Str}
    (hC : hp.get? C = some (excClassObj nm q C N bs bm hd sn sub ab col dd k0 k1 k2 k3 k5 "ValueError.__new__")) (hw : hp.get? c = some (kxs_mw "ValueError.__init__" a)) (he : hp.get? a = some (HandSPX.excO C t0))
    (h : ∀ h' t1, (∀ b o, b ≠ a → hp.get? b = some o → h'.get? b = some o) → h'.get? a = some (HandSPX.excO C t1) → Q .none ⟨h', g, d, t, os⟩) : wpAny (model prog w) A (call (.ref c) []) Q E ⟨hp, g, d, t, os⟩ := by
  refine wpAny_call (codeAny_of_tree ?_)
  show wpAny _ A.in1 (callAny (.ref c) ⟨[], []⟩) _ _ _
  simp only [callAny]
  refine wpAny_bind (wpAny_load hw ?_)
  have tt : (Value.type "method-wrapper" == Value.type "method" || Value.type "method-wrapper" == Value.type "builtin_function_or_method" || Value.type "method-wrapper" == Value.type "method-wrapper") = true := by decide
  simp only [kxs_mw, tt, if_true]
  refine KFB.if_so (by decide) (wpAny_bind (check_bound_init F.excBase_ValueError.toExcCallFacts hC he rfl (wpAny_bind (wpAny_pure (wpAny_pure ⟨plainId_quiet F.excBase_ValueError.init.plain _, codeAny_builtin F.excBase_ValueError.initEntry ?_⟩)))))
  exact exc_init_tree (cls := .ref C) (t0 := t0) (dv := none) (c2 := .none) (c3 := .none) (b4 := .bool false) he (Nat.zero_le _) fun h' k e' _ => h h' _ k e'
theorem init_run (T : IniC prog K C fI f) (X : K.In hp) (gl : hp.Ns mainGlobals mg) (gs : mg "super" = none) (bl : hp.Ns builtinsNs mb) (bs : mb "super" = some (.type "super")) (lim : hp.NoLimit) (room : A.depth < recursionLimit) (he : hp.get? e = some (HandSPX.excO C t0)) (eK : K.lookup e = none) {args : Args} (hargs : args = ⟨[.ref e, u], []⟩ ∨ args = ⟨[.ref e], [(f, u)]⟩)
    (hq : ∀ h' t' t1 dx, (∀ b o, b ≠ e → hp.get? b = some o → h'.get? b = some o) → hp.objs.size ≤ dx → h'.get? e = some { cls := .ref C, dict := some dx, data := .fields #[.ref t1, .none, .none, .none, .bool false, .none] } → h'.Ns1 dx (fun y => if y = f then some u else none) →
      R (.ok (.ret .none)) ⟨h', g, d, t', os⟩) : codeAny (model prog w) A (.call (.ref fI) args) R ⟨hp, g, d, t, os⟩ := by
  obtain ⟨oc, ccl, cl, od, cdd, cld, osl, ccs, csl, fd, body, cda, cc, vs, file, tf, ar, lk, hb, hB, bind, kf, co, ge, n1, n2, n3, n4, nc, eg, eb, ec, ek, hcd, lc, hv, hfile, lcc, ha, ha2, f1, f2⟩ := T.fd
  obtain ⟨nm, q, N, bs', bm, sn, sub, ab, col, dd, k0, k1, k2, k3, k5, hC, hbm⟩ := T.oex.cls
  have hcl : clsIn K C = some { name := nm, bases := bs', mro := .ref C :: bm, ns := N, qualname := q, hasDict := true, slotNames := sn, subclasses := sub, abstract := ab, collection := col, hasDel := false } := by unfold clsIn; rw [hC] <;> rfl
  have eC : e ≠ C := fun z => by
    have := X _ _ hC
    rw [← z, he] at this
    cases this
  refine ks_codeAny_call_defAt (fd := fd) (body := body) (binds := [("self", .ref e), (f, u)]) room (X _ _ lk) rfl lim (codeRec_of X hcd) hb (hargs.elim (fun z => z ▸ (bind _ _ _).1) fun z => z ▸ (bind _ _ _).2) nc (fun x hx => ?_) (fun h0 hns k0 => ?_) co ge kf
  · simp only [List.mem_cons, List.not_mem_nil, or_false] at hx
    rcases hx with rfl | rfl
    · exact n3
    · exact n4
  obtain ⟨en, een⟩ : ∃ en, en = callEnv fd hp.objs.size fI := ⟨_, rfl⟩
  show PySem.wpAt (model prog w) (A.deeper (callEnv fd hp.objs.size fI)) (.func body (callEnv fd hp.objs.size fI)) (execs body (callEnv fd hp.objs.size fI)) _ _ _
  rw [← een]
  have kd : ∀ x, en.kindOf x = fd.scope.names.lookup x := fun x => by rw [een] <;> rfl
  have skd : en.scope.kind = .function := by rw [een]; exact kf
  have X0 : K.In h0 := X.keeps k0
  have e0 := k0 _ _ he
  have hD := X0 _ _ hC
  cases hB with
  | mk p0 p1 p2 p3 p4 q0 q1 q2 q3 hpo =>
  refine ks_wpAt_execs_cons (ks_wpAt_Expr_any (ks_wpAt_MethodCall ?_ (super_eval hpo)) (by unfold interactive; rw [skd] <;> rfl) (by rfl))
  refine ks_wpAt_super_base (f := fI) (cc := cda) (fd := fd) (ar := ar) (vs := vs) (file := file) (tf := tf) ((kd _).trans n1) ((kd _).trans n2) (by decide) (by rw [een] <;> rfl) (X0 _ _ lk) rfl ha (by rw [een]; exact ek) (X0 _ _ lc) rfl hv hfile T.top ?_
  refine ks_loadName_global skd ((kd _).trans n1) (loadGlobal_builtin (env := en) (mg := mg) (mb := mb) (by rw [een]; show h0.Ns fd.globals mg; rw [eg]; exact gl.keeps k0) gs (by rw [een]; show h0.Ns fd.builtins mb; rw [eb]; exact bl.keeps k0) bs ⟨rfl, ?_⟩)
  refine wpAny_loadName_free skd ((kd _).trans n2) (c := cc) (by rw [een]; exact ec) ⟨_, X0 _ _ lcc, rfl⟩ ?_
  have hns' : h0.Ns en.locals (fun x => ([("self", Value.ref e), (f, u)] : List (Str × Value)).reverse.lookup x) := by rw [een]; exact hns
  have ls : ([("self", Value.ref e), (f, u)] : List (Str × Value)).reverse.lookup ("self" : Str) = some (.ref e) := by
    show ([(f, u), ("self", Value.ref e)] : List (Str × Value)).lookup ("self" : Str) = _
    rw [List.lookup_cons]
    have : (("self" : Str) == f) = false := by rw [beq_eq_false_iff_ne] at f2 ⊢; exact fun z => f2 z.symm
    rw [this]; rfl
  have lf : ([("self", Value.ref e), (f, u)] : List (Str × Value)).reverse.lookup f = some u := by
    show ([(f, u), ("self", Value.ref e)] : List (Str × Value)).lookup f = _
    rw [List.lookup_cons]
    simp
  rw [ha2]
  refine wpAny_loadName_local skd ((kd _).trans n3) hns' ls ?_
  refine ks_wpAny_isType_cls hD rfl ⟨rfl, ?_⟩
  refine ks_wpAny_call_super hD rfl e0 rfl (fun c z => by cases z) (looks_mroIn X0 T.mro) fun h1 hso k1 => ?_
  have X1 : K.In h1 := X0.keeps k1
  have e1 := k1 _ _ e0
  have hI : Looks (model prog w) h1 (isInstance (.ref e) (.type "ValueError")) true := (InstAt.type (C := C) (od := none) ⟨e1, rfl, rfl, trivial⟩).andThen (looks_subIn X1 T.val)
  refine kxs_getMethod kxs_ValueError hso (looks_opaque X1 T.any) (l₀ := .ref C :: bm) (fun A Q E s k q => wpAny_bind ((looks_clsIn X1 hcl) A _ E s k (wpAny_pure q))) (l := ((Value.ref C :: bm).dropWhile (· != .ref C)).drop 1) rfl X1 (by have := T.sup; unfold ks_superIn at this; rw [hcl] at this; exact this) hI eC (by decide) ?_
  have hu : (h1.push (kxs_mw "ValueError.__init__" e)).get? h1.objs.size = some (kxs_mw "ValueError.__init__" e) := Heap.get?_push_at rfl rfl
  have k2 : ∀ b o, h1.get? b = some o → (h1.push (kxs_mw "ValueError.__init__" e)).get? b = some o := fun b o z => Heap.get?_push_of_some _ z
  refine kxs_callWith (i := "ValueError.__init__") (x := e) rfl (evalArgs_empty ⟨hu, ?_⟩)
  refine wrapped_call (k2 _ _ (k1 _ _ hD)) hu (k2 _ _ e1) fun h3 t3 k3 e3 => ?_
  have k03 : ∀ b o, b ≠ e → h0.get? b = some o → h3.get? b = some o := fun b o n z => k3 b o n (k2 _ _ (k1 _ _ z))
  have X3 : K.In h3 := fun b o z => k03 b o (fun y => by rw [y, eK] at z; cases z) (X0 _ _ z)
  refine ks_wpAt_execs_cons (ks_wpAt_Assign_Attr (wpAt_of_wpAny ?_) (by rfl))
  have hns3 : h3.Ns en.locals (fun x => ([("self", Value.ref e), (f, u)] : List (Str × Value)).reverse.lookup x) := by
    obtain ⟨oL, es, ep, hL, hd, r⟩ := hns'
    refine ⟨oL, es, ep, k03 _ _ (fun z => ?_) hL, hd, r⟩
    rw [z, e0] at hL
    cases hL
    cases hd
  refine wpAny_Name (wpAny_loadName_local skd ((kd _).trans n4) hns3 lf ?_) f1
  refine wpAny_Name (wpAny_loadName_local skd ((kd _).trans n3) hns3 ls ?_) (by decide)
  refine set_plain X3 (ox := HandSPX.excO C t3) (od := none) ⟨e3, rfl, rfl, trivial⟩ T.oex.sa ?_
  refine HandSPX.exc_osa X3 e3 hcl (show HandSPX.refsVE (.ref C :: bm) = true from hbm) rfl T.nof fun h' t' dx k dn dne hx hn => ?_
  refine wpAt_of_wpAny (wpAny_execs_nil ?_)
  have hlt : hp.objs.size < h3.objs.size := by
    have := hns3.lt
    rw [een] at this
    exact this
  exact hq h' t' t3 dx (fun b o n z => k b o n (k03 b o n (k0 _ _ z))) (Nat.le_trans (Nat.le_of_lt hlt) dn) hx hn
end
end Mp
namespace Mp
open PySem PySem.Spec PyProof.Rows L2
section
variable {X : Cx} {C fI : Addr} {x f : Str} {p pos : Pos} {e : Expr} {te : TE}
/-- C() -/
theorem pmk_no (q : PySem.W.excIn X.K C He.veBase "ValueError.__new__" = true) (gC : X.mg x = some (.ref C)) (kC : PySem.W.keepIn X.K (.ref C) = true) (r : Raises X (.ref C)) (hg : Gl X x) (hd : (x == ("__debug__" : Str)) = false) :
    PMk X (.Call (.Name x p) [] [] pos) (fun _ H Q => Q (.ref C) none H) := fun pins s σ H Q I h => by
  refine wpAny_Call_Name_kw (ld_glob I hg gC (PySem.W.callWith_K0 I.kIn kC ?_) hd)
  obtain ⟨_, _, _, _, _, _, _, _, _, _, _, _, _, _, _, _, mN, hC, hN, hni, T⟩ := exc_obj I.kIn q
  exact wpAny_call_exc_subT F.excBase_ValueError T hC hN hni (fun h' a hm => mk_of I hm r h (I.hok.gone hm.new)) (Nat.zero_le _)
/-- C(e) -/
def tMkI (C : Addr) (f : Str) (te : TE) : L2.St → Hp → XK → Prop := fun σ H Q => te σ H fun v H1 => [v].length = 1 ∧ ∀ d, H1 d = none → Q (.ref C) (some d) (upd H1 d (.xd [(f, v)]))
theorem pmk_in (T : IniC X.prog X.K C fI f) (room : Room 0 X.A) (gC : X.mg x = some (.ref C)) (gs : X.mg "super" = none) (hg : Gl X x) (he : PE X e te) (hd : (x == ("__debug__" : Str)) = false) (hs : starEach [e] X.env = (false, eval e X.env) :: starEach [] X.env) :
    PMk X (.Call (.Name x p) [e] [] pos) (tMkI C f te) := fun pins s σ H Q I h => by
  refine wpAny_Call_Name_kw (ld_glob I hg gC ?_ hd)
  have ha : PA X [e] (tCons te tNil) := pa_cons he pa_nil hs
  refine PySem.W.callWith_K (h₀ := X.base) I.ok.mod.kin T.oex.kC (thn (ha.run pos pins s σ H (fun vs H1 => vs.length = 1 ∧ ∀ d, H1 d = none → Q (.ref C) (some d) (upd H1 d (.xd [(f, vs.headD .non)]))) I h) fun us s1 hh => ?_) hs rfl
  obtain ⟨vs, H1, I1, r1, hl, q1⟩ := hh
  obtain ⟨v, rfl⟩ := List.length_eq_one_iff.mp hl
  refine ⟨I1.kIn, ?_⟩
  obtain ⟨u, rfl, ru⟩ : ∃ u, us = [u] ∧ RelV v u := by
    cases r1 with
    | cons a b => cases b; exact ⟨_, rfl, a⟩
  show wpAny _ _ (call (.ref C) [u]) _ _ _
  obtain ⟨hp, g, dr, tk, os⟩ := s1
  obtain ⟨nm, qn, N, bs, bm, sn, sub, ab, col, dd, k0, k1, k2, k3, k5, hC, hbm⟩ := T.oex.cls
  obtain ⟨mb, hmb, hbb⟩ := I1.ok.mod.blt
  have kk : ∀ b o, hp.get? b = some o → ((hp.push (PySem.W.kdv_tup [u])).push (PySem.HandSPX.excO C hp.objs.size)).get? b = some o := fun b o z => Heap.get?_push_of_some _ (Heap.get?_push_of_some _ z)
  have here : ((hp.push (PySem.W.kdv_tup [u])).push (PySem.HandSPX.excO C hp.objs.size)).get? (hp.objs.size + 1) = some (PySem.HandSPX.excO C hp.objs.size) := by heap_get
  have eK : X.K.lookup (hp.objs.size + 1) = none := by
    cases z : X.K.lookup (hp.objs.size + 1) with
    | none => rfl
    | some o =>
      have : hp.objs.size + 1 < hp.objs.size := Heap.lt_size (I1.kIn _ _ z)
      omega
  refine wpAny_call (PySem.HandSPX.call_own F.excBase_ValueError (fun Y => PySem.HandSPX.refsVE_contains Y bm hbm) (I1.kIn _ _ hC) (PySem.W.looks_findIn I1.kIn T.ini) (fun self => PySem.W.bind_fn I1.kIn self T.typ) (by rw [sizeLine_eq]; simp) ?_)
  refine init_run (mg := X.mg) (mb := mb) (u := u) T (I1.kIn.keeps kk) ?_ gs ?_ ?_ ?_ ?_ here eK (.inl rfl) fun h' t' t1 dx k dn hx hn => ?_
  · exact (I1.ok.mod.glob.keeps I1.bk).keeps kk
  · exact (hmb.keeps I1.bk).keeps kk
  · exact (hbb _ (by decide)).trans (by decide +kernel)
  · exact (I1.nolimit).keeps kk
  · have := room.dp
    rw [make_depth]
    omega
  have s2 : ((hp.push (PySem.W.kdv_tup [u])).push (PySem.HandSPX.excO C hp.objs.size)).objs.size = hp.objs.size + 2 := by rw [Heap.size_push, Heap.size_push]
  obtain ⟨G, g1, g2⟩ := restrict h' fun b => decide (b ≠ hp.objs.size + 1)
  have ge : G.get? (hp.objs.size + 1) = none := g2 _ (by simp)
  have gk : ∀ b, b ≠ hp.objs.size + 1 → G.get? b = h'.get? b := fun b hb => g1 b (decide_eq_true hb)
  have fresh : ∀ {b : Addr} {o : Obj}, hp.get? b = some o → b ≠ hp.objs.size + 1 := fun {b o} z e => by
    rw [e] at z
    exact absurd (Heap.lt_size z) (Nat.not_lt.mpr (Nat.le_succ _))
  have kG : ∀ b o, hp.get? b = some o → G.get? b = some o := fun b o z => (gk b (fresh z)).trans (k b o (fresh z) (kk b o z))
  have hdx : hp.objs.size ≤ dx := Nat.le_trans (Nat.le_trans (Nat.le_add_right _ 2) (Nat.le_of_eq s2.symm)) dn
  have nx : dx ≠ hp.objs.size + 1 := fun z => by
    obtain ⟨o, es, ep, e1, e2, _⟩ := hn
    rw [z, hx] at e1
    cases e1
    cases e2
  have hn1 : H1 dx = none := I1.hok.fresh hdx
  have J : Inv X pins σ (upd H1 dx (.xd [(f, v)])) ⟨G, g, dr, t', os⟩ := I1.laid (t' := t') kG hdx ⟨_, hn.at fun o z => (gk dx nx).trans z, fun y => by
    show RelO (([(f, v)] : List (Str × V)).lookup y) (if y = f then some u else none)
    rw [lookup_put]
    by_cases c : y = f
    · rw [if_pos c, if_pos c]; exact ru
    · rw [if_neg c, if_neg c]; exact True.intro⟩
  refine ⟨rfl, hp.objs.size + 1, _, _, ⟨G, g, dr, t', os⟩, _, .ref C, some dx, rfl, J, fun b o z => ?_, ge, hx, ⟨rfl, rfl⟩, rfl, rfl, ?_, rfl, J.bare, raises_own T.oex.exC T.oex.tyC, q1 dx hn1⟩
  · by_cases c : b = hp.objs.size + 1
    · rw [c, ge] at z; cases z
    · exact (gk b c).symm.trans z
  · rw [upd_ne (Ne.symm nx)]
    exact I1.hok.fresh (show hp.objs.size ≤ hp.objs.size + 1 from Nat.le_succ _)
end
end Mp

/-! try with clauses of any kind; within a suite the exception is an object of ours. -/
namespace Mp
open PySem PySem.Spec PyProof.Rows L2

/-- a suite's context: a is handled -/
abbrev hotX (X : Cx) (a : Addr) : Cx := X.suite a X.pn
/-- behind a suite the clause's name is gone -/
def unsE (i : Option Nat) (D : Ends) : Ends := match i with
  | none => D
  | some j => { nx := fun σ H => D.nx (σ.set j none) H, rt := D.rt, bk := fun σ H => D.bk (σ.set j none) H, ct := fun σ H => D.ct (σ.set j none) H }
def putA (i : Option Nat) (a : Addr) (σ : L2.St) : L2.St := match i with
  | none => σ
  | some j => σ.set j (some (.ref a))
/-- the object as the suite has it -/
def frzA (oe : Obj) : HO := .frz oe (.ext fun _ => True)
/-- what the clauses wish of an exception -/
def wHs (K : PySem.W.Frag) (Wout : WX) (D : Ends) : List (Value × Option Nat × TS) → WX
  | [] => Wout
  | p :: r => fun cls d σ H => ∃ b, PySem.W.exmOne K cls p.1 = some b ∧
      (b = true → ∀ a oe, H a = none → Zc cls d oe → (∃ vs, oe.data = .fields vs) → p.2.2 (unsE p.2.1 D) (putA p.2.1 a σ) (upd H a (frzA oe))) ∧ (b = false → wHs K Wout D r cls d σ H)
inductive HdsX (X : Cx) : List ExceptHandler → List (Value × Option Nat × TS) → Prop
  | nil : HdsX X [] []
  | bare {x : Str} {c : Value} {ts : TS} {st : Stmt} {sts : List Stmt} {p1 p2 : Pos} {hds : List ExceptHandler} {l : List (Value × Option Nat × TS)} (nm : Names X x c) (su : ∀ a, PSs (hotX X a) (st :: sts) ts) (r : HdsX X hds l) :
      HdsX X (.ExceptHandler (some (.Name x p1)) none (st :: sts) p2 :: hds) ((c, none, ts) :: l)
  | named {x n : Str} {i : Nat} {c : Value} {ts : TS} {st : Stmt} {sts : List Stmt} {p1 p2 : Pos} {hds : List ExceptHandler} {l : List (Value × Option Nat × TS)} (nd : X.N.Nodup) (at_ : X.N[i]? = some n) (loc : X.env.kindOf n = some .local)
      (nm : Names X x c) (su : ∀ a, PSs (hotX X a) (st :: sts) ts) (r : HdsX X hds l) : HdsX X (.ExceptHandler (some (.Name x p1)) (some n) (st :: sts) p2 :: hds) ((c, some i, ts) :: l)
section
variable {X : Cx} {pins : List (Addr × Obj)} {σ : L2.St} {H : Hp} {s : Shared} {D : Ends}
theorem hot_inv (I : Inv X pins σ H s) (a : Addr) : Inv (hotX X a) pins σ H s := ⟨I.ok.suite _ _, I.os, I.bare, I.base, I.loc, I.cell, I.free, I.freeC, I.pin, I.hok, I.len⟩
theorem cool_inv {a : Addr} (ok : X.Ok) (I : Inv (hotX X a) pins σ H s) : Inv X pins σ H s := ⟨ok, I.os, I.bare, I.base, I.loc, I.cell, I.free, I.freeC, I.pin, I.hok, I.len⟩
/-- an object that was not there at the entry is made ours -/
theorem own_inv {a : Addr} {oe : Obj} (I : Inv X pins σ H s) (e : s.heap.get? a = some oe) (new : X.s_0.heap.get? a = none) (na : H a = none) (nl : a ≠ X.env.locals) (nc : ∀ v, oe.data ≠ .cell v) (npin : ∀ p ∈ X.pn ++ pins, p.1 ≠ a) : Inv X pins σ (upd H a (frzA oe)) s := by
  have off : ∀ {b : Addr} {o : HO}, H b = some o → b ≠ a := fun {b o} z y => by rw [y, na] at z; cases z
  refine ⟨I.ok, I.os, I.bare, ⟨I.base.keep, I.base.slot, fun b o z n hx => ?_, I.base.there, fun b xs z => ?_, fun b o u z => ?_, fun b ps z => ?_⟩, I.loc, I.cell, ?_, fun x c z => ?_, fun p hp => ?_, fun b o z => ?_, I.len⟩
  · have hb : b ≠ a := fun y => by rw [y, new] at z; cases z
    rw [upd_ne hb]
    exact I.base.free b o z n hx
  · have := I.base.tups b xs z
    rw [upd_ne (off this)]; exact this
  · have := I.base.frzs b o u z
    rw [upd_ne (off this)]; exact this
  · obtain ⟨m, this⟩ := I.base.tbls b ps z
    exact ⟨m, by rw [upd_ne (off this)]; exact this⟩
  · rw [upd_ne (Ne.symm nl)]; exact I.free
  · have hc : c ≠ a := fun y => by
      obtain ⟨v, o, e1, d1⟩ := I.cell x c z
      rw [y, e] at e1
      cases e1
      exact nc _ d1
    rw [upd_ne hc]
    exact I.freeC x c z
  · obtain ⟨h1, h2, h3, h4, h5⟩ := I.pin p hp
    exact ⟨h1, by rw [upd_ne (npin p hp)]; exact h2, h3, h4, h5⟩
  · by_cases hb : b = a
    · subst hb
      rw [upd_same] at z
      cases z
      exact ⟨e, True.intro, ⟨_, e⟩, fun _ _ _ _ => True.intro⟩
    · rw [upd_ne hb] at z
      refine (I.hok b o z).stay (fun c v _ y => y) (fun c hc => ?_) fun c xs hc => ?_
      · rw [upd_ne (off hc)]; exact hc
      · rw [upd_ne (off hc)]; exact hc
end
section
variable {X : Cx} {body : List Stmt} {hd : ExceptHandler} {hds : List ExceptHandler} {l : List (Value × Option Nat × TS)} {pos : Pos} {tb : WX → TS} {Wout : WX}
theorem ps_tryX (stk : X.stack = X.env :: X.outer) (frm : X.env.frame = some X.env.locals) (exn : X.ex = []) (tk : Takes X Wout)
    (bd : ∀ (W : WX) (pn : List (Addr × Obj)) (xe : Value → Shared → Prop), Takes (X.tr pn xe) W → PassesOwn (model X.prog X.w) X.A X.env xe → PSs (X.tr pn xe) body (tb W)) (hh : HdsX X (hd :: hds) l) :
    PS X (.Try body (hd :: hds) [] [] pos) (fun D σ H => tb (wHs X.K Wout D l) D σ H) := by
  refine ⟨fun pins s σ H D I h => ?_⟩
  have ok := I.ok
  have frs' : X.A.frames = some (X.env :: X.outer) := by rw [ok.frames, stk]
  refine wpAny_Try_except (wpAny_mono ((bd (wHs X.K Wout D l) (X.pn ++ pins) (fun e s1 => wpAny (model X.prog X.w) X.A (noteFrame e X.env) (fun _ s2 => wpAny (model X.prog X.w) X.A (setFlight e none) (fun _ s3 =>
    wpAny (model X.prog X.w) X.A (handleBy e X.env (hd :: hds)) (SP X pins D) X.xe s3) X.xe s2) X.xe s1) (fun u s' got => ?_) PassesOwn.looking).run [] s σ H D (I.toTry _) h) (fun fl s1 q => ?_) fun _ _ z => z)
  · obtain ⟨a, B, sI, pins', σ1, H1, cls, d, rfl, J', below, up, sky, na, os, ag, w⟩ := got
    have J0 : Inv X pins σ1 H1 sI := J'.ofTry ok
    rw [stk] at sky
    show wpAny (model X.prog X.w) X.A (noteFrame (.ref a) X.env) _ _ _
    refine Sky.land Zc.steady frs' frm sky fun h3 fl3 up3 => ?_
    have J3 : Inv X pins σ1 H1 { s' with heap := h3 } := J0.landed below fl3.1 (up.trans up3) os ag
    have apart : ∀ {h : Heap} {o : Obj} {vs : Array Value}, h.FunFrames B (X.env :: X.outer) → h.get? a = some o → o.data = .fields vs → a ∉ frs (X.env :: X.outer) := fun {h o vs} ff e1 e2 hm => by
      obtain ⟨_, o2, e3, no⟩ := ff.mem hm
      rw [e1] at e3
      cases e3
      exact no _ e2
    obtain ⟨o3, w3, at3, z3, f3⟩ := fl3.there
    have out := apart fl3.2.2.1 at3 f3
    have notI : sI.heap.get? a = none := by
      cases z : sI.heap.get? a with
      | none => rfl
      | some o =>
        have := below a o z (by rw [stk]; exact out)
        rw [fl3.2.1] at this
        cases this
    have new : X.s_0.heap.get? a = none := by
      cases z : X.s_0.heap.get? a with
      | none => rfl
      | some o =>
        obtain ⟨o1, e1⟩ := J0.base.there a o z (by rw [exn]; simp)
        rw [notI] at e1
        cases e1
    have nl : a ≠ X.env.locals := fun z => out (List.mem_filterMap.mpr ⟨X.env, List.mem_cons_self, by rw [frm, z]⟩)
    have npin : ∀ p ∈ X.pn ++ pins, p.1 ≠ a := fun p hp z => by
      have := (J0.pin p hp).1
      rw [z, notI] at this
      cases this
    have seen : ∀ {x : Str} {c : Value} {p1 : Pos} {Q : Value → Shared → Prop} {E : Value → Shared → Prop}, Names X x c → Q c { s' with heap := h3 } → wpAny (model X.prog X.w) (X.A.mark (some (.ref a))) (eval (.Name x p1) X.env) Q E { s' with heap := h3 } := fun {x c p1 Q E} nm q => by
      obtain ⟨g1, g2, g3 | ⟨g3, g4, g5⟩⟩ := nm
      · exact ld_glob (X := hotX X a) (hot_inv J3 a) g1 g3 q g2
      · exact ld_blt (X := hotX X a) (hot_inv J3 a) g1 g3 g4 q g5 g2
    have typ : PySem.W.Looks (model X.prog X.w) h3 (typeOf (.ref a)) cls := fun A Q E s k q => wpAny_typeOf_ref (k _ _ at3) (by rw [z3.1]; exact q)
    have go : ∀ {hs : List ExceptHandler} {l' : List (Value × Option Nat × TS)}, HdsX X hs l' → wHs X.K Wout D l' cls d σ1 H1 → wpAny (model X.prog X.w) X.A (handleBy (.ref a) X.env hs) (SP X pins D) X.xe { s' with heap := h3 } := by
      intro hs l' hk
      induction hk with
      | nil =>
        intro w
        refine wpAny_handleBy_nil ?_
        obtain ⟨_, _, _, oe, vs, T, oT, ts', e1, _, e2, e3, _⟩ := id fl3
        unfold PySem.passOn
        refine wpAny_bind (wpAny_field e1 e2 e3 ?_)
        rw [if_neg (show ¬ ((Value.ref T == Value.none) = true) from by simp)]
        have last : wpAny (model X.prog X.w) X.A (setFlight (.ref a) X.env.frame) (fun _ s4 => wpAny (model X.prog X.w) X.A (throw (.ref a) : Sem Flow) (SP X pins D) X.xe s4) X.xe { s' with heap := h3 } := by
          rw [frm]
          exact HandSPX.setFlight_upZ fl3 fun h4 hh4 up4 => wpAny_throw (tk _ _ ⟨a, B, sI, pins, σ1, H1, cls, d, rfl, J0, below, (up.trans up3).trans up4, .inr (.inr (by rw [stk]; exact hh4)), na, os, ag, w⟩)
        first
          | exact wpAny_bind (wpAny_pure (wpAny_bind last))
          | exact wpAny_bind last
      | @bare x c ts st sts p1 p2 hds2 l2 nm su r ih =>
        intro w
        obtain ⟨b, e1, yes, no⟩ := w
        refine wpAny_handleBy_cons (codeAny_handlers_test ?_) (by intro q; cases q)
        refine seen nm ((PySem.W.exm_one (M := model X.prog X.w) J3.kIn typ e1).here ?_)
        cases b with
        | false => exact ih (no rfl)
        | true =>
          refine codeAny_handlers_suite (HandSPX.lands_againZ fl3 fun h4 fl4 up4 => ?_)
          have J4 : Inv X pins σ1 H1 { s' with heap := h4 } := J0.landed below fl4.1 ((up.trans up3).trans up4) os ag
          obtain ⟨o4, w4, at4, z4, f4⟩ := fl4.there
          have S4 := hot_inv (own_inv J4 at4 new na nl (fun v z => by rw [f4] at z; cases z) npin) a
          refine wpAny_mono ((su a).run pins _ σ1 _ (unsE none D) S4 (yes rfl a o4 na z4 ⟨_, f4⟩)) (fun fl s6 q => ?_) fun _ _ z => z.elim
          cases fl with
          | ret v =>
            obtain ⟨v6, σ6, H6, S6, r6, q6⟩ := q
            exact ⟨v6, σ6, H6, cool_inv ok S6, r6, q6⟩
          | next =>
            obtain ⟨σ6, H6, S6, q6⟩ := q
            exact ⟨σ6, H6, cool_inv ok S6, q6⟩
          | brk =>
            obtain ⟨σ6, H6, S6, q6⟩ := q
            exact ⟨σ6, H6, cool_inv ok S6, q6⟩
          | cont =>
            obtain ⟨σ6, H6, S6, q6⟩ := q
            exact ⟨σ6, H6, cool_inv ok S6, q6⟩
      | @named x n i c ts st sts p1 p2 hds2 l2 nd at_ loc nm su r ih =>
        intro w
        obtain ⟨b, e1, yes, no⟩ := w
        refine wpAny_handleBy_cons (codeAny_handlers_test ?_) (by intro q; cases q)
        refine seen nm ((PySem.W.exm_one (M := model X.prog X.w) J3.kIn typ e1).here ?_)
        cases b with
        | false => exact ih (no rfl)
        | true =>
          refine codeAny_handlers_suite_as (HandSPX.lands_againZ fl3 fun h4 fl4 up4 => ?_)
          have J4 : Inv X pins σ1 H1 { s' with heap := h4 } := J0.landed below fl4.1 ((up.trans up3).trans up4) os ag
          obtain ⟨o4, w4, at4, z4, f4⟩ := fl4.there
          have S4 := hot_inv (own_inv J4 at4 new na nl (fun v z => by rw [f4] at z; cases z) npin) a
          refine store_ok (X := hotX X a) (v := .ref a) S4 nd at_ (.inl loc) rfl (fun s5 S5 => ?_) (.inr loc)
          refine wpAny_mono ((su a).run pins s5 _ _ (unsE (some i) D) S5 (yes rfl a o4 na z4 ⟨_, f4⟩)) (fun fl s6 q => ?_) fun _ _ z => z.elim
          cases fl with
          | ret v =>
            obtain ⟨v6, σ6, H6, S6, r6, q6⟩ := q
            exact gone_ok (cool_inv ok S6) nd at_ loc fun s7 S7 => ⟨v6, _, H6, S7, r6, q6⟩
          | next =>
            obtain ⟨σ6, H6, S6, q6⟩ := q
            exact gone_ok (cool_inv ok S6) nd at_ loc fun s7 S7 => ⟨_, H6, S7, q6⟩
          | brk =>
            obtain ⟨σ6, H6, S6, q6⟩ := q
            exact gone_ok (cool_inv ok S6) nd at_ loc fun s7 S7 => ⟨_, H6, S7, q6⟩
          | cont =>
            obtain ⟨σ6, H6, S6, q6⟩ := q
            exact gone_ok (cool_inv ok S6) nd at_ loc fun s7 S7 => ⟨_, H6, S7, q6⟩
    exact go hh w
  · cases fl with
    | ret v =>
      obtain ⟨v1, σ1, H1, J, rv, q⟩ := q
      exact ⟨v1, σ1, H1, J.ofTry ok, rv, q⟩
    | next =>
      obtain ⟨σ1, H1, J, q⟩ := q
      exact wpAny_execs_nil ⟨σ1, H1, J.ofTry ok, q⟩
    | cont =>
      obtain ⟨σ1, H1, J, q⟩ := q
      exact ⟨σ1, H1, J.ofTry ok, q⟩
    | brk =>
      obtain ⟨σ1, H1, J, q⟩ := q
      exact ⟨σ1, H1, J.ofTry ok, q⟩
end
section
variable {X : Cx} {e : Expr} {te : TE} {f : Str} {pos : Pos}
/-- x.f of an exception of ours -/
def tFld (K : PySem.W.Frag) (f : Str) (te : TE) : TE := fun σ H Q => te σ H fun x H1 => ∃ (a : Addr) (oe : Obj) (u : HO) (C q : Addr) (w : V), x = .ref a ∧ H1 a = some (.frz oe u) ∧ oe.cls = .ref C ∧ (∃ vs, oe.data = .fields vs) ∧ oe.dict = some q ∧ H1 q = some (.xd [(f, w)]) ∧
  XfC K C ∧ PySem.W.findIn K (.ref C) f = some none ∧ Q w H1
theorem pe_fldX (he : PE X e te) (hb : attributeBase e f X.env (eval e X.env) = eval e X.env) : PE X (.Attribute e f pos) (tFld X.K f te) := by
  refine ⟨fun pins s σ H Q I h => attr_of hb (thn (he.run pins s σ H _ I h) fun v s1 got => ?_)⟩
  obtain ⟨x, H1, I1, rx, a, oe, u, C, q, w, rfl, e1, e2, ⟨vs, e3⟩, e4, e5, T, no, k⟩ := got
  obtain rfl : v = Value.ref a := rx
  obtain ⟨at_, _⟩ := (show ObjOk X.prog X.w H1 s1.heap a (.frz oe u) from I1.hok a _ e1)
  obtain ⟨mA, hns, rel⟩ := (show ObjOk X.prog X.w H1 s1.heap q (.xd [(f, w)]) from I1.hok q _ e5)
  obtain ⟨od, ho, hl⟩ := lookIn_ns hns
  obtain ⟨v, ev, rv⟩ := RelO.some_of (v := w) (o := mA f) (by
    have := rel f
    simpa [List.lookup] using this)
  have J : PySem.W.InstAt s1.heap a oe C (some od) := ⟨at_, e2, by unfold PySem.W.notCls; rw [e3] <;> rfl, by rw [e4]; exact ho⟩
  exact HandSPX.exc_get I1.kIn J T.ga T.gg T.exC (PySem.W.findObj_own T.hdC no rfl (by rw [hl, ev])) (handed_of rv) ⟨w, H1, I1.tok _, rv, k⟩
end
end Mp

/-! isinstance of an exception object that is tracked, with or without a dict of its own. -/
namespace Mp
open PySem PySem.W PySem.Spec PyProof.Rows L2
def excB (K : Frag) (D : Addr) : Bool :=
  decide (findIn K (.ref D) "__getattribute__" = some (some (.builtin "BaseException.__getattribute__")) ∧ findIn K (.ref D) "__getattr__" = some none) && decide (subIn K (.ref D) (.type "BaseException") = some true ∧ mroIn K D (.type "object") = some true) && hasDictIn K D &&
    decide (findIn K (.ref D) "__class__" = some (some (.builtin "object.__class__")) ∧ takesIn K (.builtin "object.__class__") = some true) && decide (specialIn K (.builtin "object.__class__") "__get__" = some (some (.builtin "getset_descriptor.__get__")))
theorem excB_ok {K : Frag} {D : Addr} (h : excB K D = true) : ExcC K D := by
  simp only [excB, Bool.and_eq_true, decide_eq_true_eq] at h
  obtain ⟨⟨⟨⟨h1, h2⟩, h3⟩, h4⟩, h5⟩ := h
  exact ⟨h1.1, h1.2, h2.1, h3, h4.1, h5, h4.2, h2.2⟩
theorem exc_kit {K : Frag} {D x : Addr} {ox : Obj} {od : Option Obj} (c : ExcC K D) : KitX K (.ref x) (.ref D) (fun h => InstAt h x ox D od) := by
  have hc : (clsIn K D).isSome = true := by
    have := c.hd
    unfold hasDictIn at this
    cases e : clsIn K D with
    | none => rw [e] at this; cases this
    | some v => rfl
  exact kitx_exc hc c.hg c.hk c.hs c.ha c.hn c.ht c.hm
/-- a tracked exception of the class at D -/
def ExT (H : Hp) (a D : Addr) : Prop := ∃ oe u, H a = some (.frz oe u) ∧ oe.cls = .ref D ∧ (∃ vs, oe.data = .fields vs) ∧ (oe.dict = none ∨ ∃ q fs, oe.dict = some q ∧ H q = some (.xd fs))
def rIsx (K : Frag) : List V → Hp → VK → Prop := fun xs H Q => ∃ (a D : Addr) (c : V) (cv : Value) (b : Bool), xs = [.ref a, c] ∧ ExT H a D ∧ ExcC K D ∧ ClsV c cv ∧ kitOne K (.ref D) cv = some b ∧ Q (.bl b) H
def rIsxT (K : Frag) : List V → Hp → VK → Prop := fun xs H Q => ∃ (a D tp : Addr) (cs : List V) (us : List Value) (b : Bool), xs = [.ref a, .ref tp] ∧ H tp = some (.tup cs) ∧ Paired ClsV cs us ∧ ExT H a D ∧ ExcC K D ∧ kitAny K (.ref D) us = some b ∧ Q (.bl b) H
section
variable {X : Cx} {pins : List (Addr × Obj)} {σ : L2.St} {H : Hp} {s : Shared}
theorem ExT.inst (I : Inv X pins σ H s) {a D : Addr} (h : ExT H a D) : ∃ oe od, InstAt s.heap a oe D od := by
  obtain ⟨oe, u, e1, e2, ⟨vs, e3⟩, e4⟩ := h
  obtain ⟨g, _⟩ := (show ObjOk X.prog X.w H s.heap a (.frz oe u) from I.hok a _ e1)
  have no : notCls oe = true := by unfold notCls; rw [e3]
  rcases e4 with e4 | ⟨q, fs, e4, e5⟩
  · exact ⟨oe, none, g, e2, no, by rw [e4]; trivial⟩
  · obtain ⟨mA, hns, _⟩ := (show ObjOk X.prog X.w H s.heap q (.xd fs) from I.hok q _ e5)
    obtain ⟨od, ho, _⟩ := lookIn_ns hns
    exact ⟨oe, some od, g, e2, no, by rw [e4]; exact ho⟩
theorem call_isx : CallR X (.builtin "isinstance") (rIsx X.K) := by
  intro pins s σ H xs us Q I r h
  obtain ⟨a, D, c, cv, b, rfl, hx, hc, k, e, q⟩ := h
  obtain ⟨u1, u2, rfl, r1, r2⟩ := vals2 r
  have e2 := k.eq r2
  subst e2
  obtain rfl : u1 = Value.ref a := r1
  obtain ⟨oe, od, J⟩ := hx.inst I
  exact kia_one (exc_kit hc) I.kIn J e (fun z => nomatch z) fun tk => ⟨.bl b, H, I.tok tk, rfl, q⟩
theorem call_isxT : CallR X (.builtin "isinstance") (rIsxT X.K) := by
  intro pins s σ H xs us Q I r h
  obtain ⟨a, D, tp, cs, ws, b, rfl, hT, k, hx, hc, e, q⟩ := h
  obtain ⟨u1, u2, rfl, r1, r2⟩ := vals2 r
  obtain rfl : u2 = Value.ref tp := r2
  obtain rfl : u1 = Value.ref a := r1
  obtain ⟨oe, od, J⟩ := hx.inst I
  obtain ⟨_, its, rv, ⟨oc, d2, dt, sl⟩, h1, h2, n, h3⟩ := (show ObjOk X.prog X.w H s.heap tp (.tup cs) from I.hok tp _ hT)
  have e3 := ClsV.all k rv
  dsimp only at h2 h3
  subst e3 h2 h3
  exact kia_tup (exc_kit hc) I.kIn J h1 e (fun z => nomatch z) fun tk => ⟨.bl b, H, I.tok tk, rfl, q⟩
end
end Mp

/-! An exception made as a value; C(f=x). -/
namespace Mp
open PySem PySem.Spec PyProof.Rows L2
/-- made, it is ours -/
def tMk (t : L2.St → Hp → XK → Prop) : TE := fun σ H Q => t σ H fun cls d H1 => ∀ a oe, H1 a = none → Zc cls d oe → (∃ vs, oe.data = .fields vs) → Q (.ref a) (upd H1 a (frzA oe))
section
variable {X : Cx} {e : Expr} {t : L2.St → Hp → XK → Prop}
theorem pe_mk (h : PMk X e t) : PE X e (tMk t) := by
  refine ⟨fun pins s σ H Q I w => wpAny_mono (h pins s σ H _ I w) (fun u s' got => ?_) fun _ _ z => z⟩
  obtain ⟨a, oe, vs, sI, H1, cls, d, rfl, J, k, hne, ha, hz, hd, h1, na, os, ag, _, q⟩ := got
  have off : ∀ {b : Addr} {o : HO}, H1 b = some o → b ≠ a := fun {b o} z y => by rw [y, na] at z; cases z
  refine ⟨.ref a, upd H1 a (frzA oe), J.call' (ch := []) os ⟨fun b o z _ _ _ => k b o z, fun b o z _ _ _ => ⟨o.slots, k b o z⟩, fun b o z n _ => ?_, fun b o z _ => ⟨o, k b o z⟩, fun b xs z => ?_, fun b o u z => ?_, fun b ps z => ⟨#[], ?_⟩⟩ (fun b o z => ?_) ag (fun _ z => nomatch z), rfl, q a oe na hz ⟨vs, hd⟩⟩
  · have hb : b ≠ a := fun y => by rw [y, hne] at z; cases z
    rw [upd_ne hb]; exact n
  · rw [upd_ne (off z)]; exact z
  · rw [upd_ne (off z)]; exact z
  · rw [upd_ne (off z)]; simpa using z
  · by_cases hb : b = a
    · subst hb
      rw [upd_same] at z
      cases z
      exact ⟨ha, True.intro, ⟨_, ha⟩, fun _ _ _ _ => True.intro⟩
    · rw [upd_ne hb] at z
      refine (J.hok b o z).stay (fun c v _ y => k c v y) (fun c hc => ?_) fun c xs hc => ?_
      · rw [upd_ne (off hc)]; exact hc
      · rw [upd_ne (off hc)]; exact hc
end
end Mp

/-! Defs called within an except suite (they raise nothing). -/
namespace Mp
open PySem PySem.Spec PyProof.Rows L2
/-- nothing is handled -/
def coldA (A : Around) : Around := { A with handled := none }
abbrev noE : XK := fun _ _ _ => False
def CRh (outer : List Env) (P : Program) (w : World) (H : Hp) (s : Shared) (Q : VK) (r : Result) (s' : Shared) : Prop := match r with
  | .ok (.ret u) => CE outer P w H s Q u s'
  | _ => False
/-- a def's promise where an exception is handled -/
structure FnGH (P : Program) (w : World) (K : PySem.W.Frag) (mg : Str → Option Value) (base : Heap) (k : Nat) (f : Addr) (fd : FuncData) (ps : List Str) (sp : Sp) : Prop where
  len : ∀ vs H Q E, sp vs H Q E → vs.length = ps.length
  run : ∀ (A : Around) (a : Addr) (outer : List Env) (s : Shared) (H : Hp) (args : Args) (us : List Value) (vs : List V) (Q : VK), A.handled = some (.ref a) → Room k (coldA A) → A.guards = some [] → Env0 P w K mg base A outer s H →
    BindsTo s fd args (ps.zip us) → Vals vs us → sp vs H Q noE → codeAny (model P w) A (.call (.ref f) args) (CRh outer P w H s Q) s
theorem FnGH.mono {P : Program} {w : World} {K : PySem.W.Frag} {mg : Str → Option Value} {base : Heap} {j k : Nat} {f : Addr} {fd : FuncData} {ps : List Str} {sp : Sp} (F : FnGH P w K mg base j f fd ps sp) (h : j ≤ k) : FnGH P w K mg base k f fd ps sp :=
  ⟨F.len, fun A a outer s H args us vs Q e r => F.run A a outer s H args us vs Q e (r.mono h)⟩
section
variable {CX : CXT} {P : Program} {w : World} {K : PySem.W.Frag} {mg : Str → Option Value} {base : Heap} {k : Nat} {f : Addr} {name qual : Str} {params : Arguments} {body : List Stmt} {scope : Scope} {dV kV doc pm cdv ct oc : Value} {an od : Option Addr} {osl : Array (Option Value)} {N ps : List Str} {sp : Sp}
theorem fngh_of (lk : K.lookup f = some ⟨oc, od, .func (PySem.W.fnOf name qual params body scope dV kV doc pm an cdv ct), osl⟩) (hcd : PySem.W.codeIn K cdv qual = true) (S : FnScope N ps scope) (len : ∀ vs H Q E, sp vs H Q E → vs.length = ps.length)
    (bd : ∀ (A : Around) (a : Addr) (outer : List Env) (s : Shared) (H : Hp) (vs : List V) (Q : VK), A.handled = some (.ref a) → Room k (coldA (A.deeper (envOfC qual scope s.heap.objs.size f cdv))) → A.guards = some [] → sp vs H Q noE →
      ∃ t, PSs (hotX (cxOf CX P w K mg base N qual scope f cdv (coldA A) outer s H noE) a) body t ∧ t { nx := fun _ H' => Q .non H', rt := Q } (start N vs) H) :
    FnGH P w K mg base (k + 1) f (PySem.W.fnOf name qual params body scope dV kV doc pm an cdv ct) ps sp := by
  refine ⟨len, fun A a outer s H args us vs Q han room gd en bind rel wish => ?_⟩
  have inK : K.In s.heap := en.mod.kin.keeps fun b o e => (en.bs b o e).1
  have pars : ∀ z ∈ ps.zip us, scope.names.lookup z.1 = some .local ∨ (scope.names.lookup z.1 = some .cell ∧ ((cellsFrom (s.heap.objs.size + 1) scope.names []).lookup z.1).isSome = true) := by
    rintro ⟨n, v⟩ hz
    rcases S.par n (List.of_mem_zip hz).1 with q | q
    · exact .inl q
    · exact .inr ⟨q, PySem.W.cellsFrom_some _ _ _ (.inl q)⟩
  have dep : A.depth < recursionLimit := room.depth
  refine codeAny_call_function dep (inK _ _ lk) rfl S.co S.gen rfl (PySem.W.codeRec_of inK hcd) (bind _ _ _ _ ?_)
  refine wpAny_newFunctionEnv_cells S.kind pars fun env he s1 ic => ?_
  subst he
  refine ⟨(en.mod.nolimit.keeps fun b o e => (en.bs b o e).1).keeps ic.toInCall.keep, codeAny_func ?_⟩
  obtain ⟨t, ht, hq⟩ := bd A a outer s H vs Q han (room.deeper (envOfC qual scope s.heap.objs.size f cdv)) gd wish
  have en' : Env0 P w K mg base (coldA A) outer s H := ⟨en.frames, en.mod, en.bs, en.bsz, en.funs, en.frf, en.hok, en.bare⟩
  have I0 : Inv (cxOf CX P w K mg base N qual scope f cdv (coldA A) outer s H noE) [] (start N vs) H s1 := inv_start S rfl en' (len _ _ _ _ wish) rel ic
  have eA : (hotX (cxOf CX P w K mg base N qual scope f cdv (coldA A) outer s H noE) a).A = A.deeper (envOfC qual scope s.heap.objs.size f cdv) := by
    obtain ⟨ha, hb, hc, hd, he⟩ := A
    dsimp only at han
    subst han
    rfl
  have r := ht.run [] s1 (start N vs) H _ (hot_inv I0 a) hq
  rw [eA] at r
  refine wpAny_mono r (fun fl s' hs => ?_) fun e s' hs => False.elim hs
  cases fl with
  | ret u => obtain ⟨v, σ', H', J, rv, q⟩ := hs; exact ⟨v, H', J.os, J.bare, J.base, J.hok, rv, q⟩
  | next => obtain ⟨σ', H', J, q⟩ := hs; exact ⟨.non, H', J.os, J.bare, J.base, J.hok, rfl, q⟩
  | brk => obtain ⟨_, _, _, z⟩ := hs; exact z.elim
  | cont => obtain ⟨_, _, _, z⟩ := hs; exact z.elim
end
section
variable {X : Cx} {k n : Nat} {σ : L2.St} {f : Addr} {fd : FuncData} {ps ks : List Str} {perm : List Nat} {sp : Sp} {x : Str} {p pos : Pos} {es : List Expr} {kws : List Keyword} {t tk : TA}
theorem run_fngh {pins : List (Addr × Obj)} {σ : L2.St} {H : Hp} {s : Shared} {Q : VK} {us ws : List Value} {vs zs : List V} (F : FnGH X.prog X.w X.K X.mg X.base k f fd ps sp) {a : Addr} (han : X.A.handled = some (.ref a)) (room : Room k (coldA X.A)) (gd : X.A.guards = some []) (kb : KwB X.K fd ps n ks perm)
    (I : Inv X pins σ H s) (r : Vals vs us) (rz : Vals zs ws) (l1 : vs.length = n) (l2 : zs.length = ks.length) (wish : sp (permL .non perm (vs ++ zs)) H Q noE) : wpAny (model X.prog X.w) X.A (call (.ref f) us (ks.zip ws)) (EP X pins σ Q) X.xe s := by
  have b := kb s us ws I.kIn (r.length ▸ l1) (rz.length ▸ l2)
  refine wpAny_call (codeAny_mono (F.run X.A a X.stack s H ⟨us, ks.zip ws⟩ (permL .none perm (us ++ ws)) _ Q han room gd I.env0 b (permL_rel (r.append rz) perm) wish) fun res s' hq => ?_)
  cases res with
  | error e => exact hq.elim
  | ok fl => cases fl with
    | ret u => exact I.after hq
    | _ => exact hq.elim
/-- a call in a suite -/
theorem pe_callGH (F : FnGH X.prog X.w X.K X.mg X.base k f fd ps sp) {a : Addr} (han : X.A.handled = some (.ref a)) (room : Room k (coldA X.A)) (gd : X.A.guards = some []) (gl : Gl X x) (hm : X.mg x = some (.ref f)) (hk : PySem.W.keepIn X.K (.ref f) = true) (kb : KwB X.K fd ps n ks perm)
    (ha : PA X es t) (hw : PK X kws tk) (pl : es.all plainE = true) (ka : kwAll kws = true) (kn : kwNames kws = ks) (h0 : es = [] → ∀ σ H Q, t σ H Q → Q [] H) (hd : (x == ("__debug__" : Str)) = false) : PE X (.Call (.Name x p) es kws pos) (tCallG sp n ks.length perm (fun _ => noE) t tk) := by
  refine ⟨fun pins s σ H Q I h => ?_⟩
  obtain ⟨f1, f2, f3⟩ := kw_facts (pos := pos) (env := X.env) ka
  refine wpAny_Call_Name_kw (ld_glob I gl hm ?_ hd)
  cases es with
  | nil =>
    refine PySem.W.callWith_KW0 (h₀ := X.base) I.ok.mod.kin hk f1 ?_ (by rw [f2]; rfl)
    refine thn (hw.run pos pins s σ H _ I (h0 rfl σ H _ h)) fun ws s2 ⟨zs, H2, I2, rz, l1, l2, q2⟩ => ⟨I2.kIn, ?_⟩
    rw [f3, kn]
    exact run_fngh F han room gd kb I2 .nil rz l1 l2 q2
  | cons e es =>
    simp only [List.all_cons, Bool.and_eq_true] at pl
    refine PySem.W.callWith_KW (h₀ := X.base) I.ok.mod.kin hk f1 (thn (ha.run pos pins s σ H _ I h) fun us s1 ⟨vs, H1, I1, r, q⟩ => ?_) (by rw [f2, plain_any (by simp [pl])]; rfl) (plain_star pl.1)
    refine thn (hw.run pos pins s1 σ H1 _ I1 q) fun ws s2 ⟨zs, H2, I2, rz, l1, l2, q2⟩ => ⟨I2.kIn, ?_⟩
    rw [f3, kn]
    exact run_fngh F han room gd kb I2 r rz l1 l2 q2
end
end Mp

/-! isinstance of exceptions, exceptions as values, by the evaluator. -/
namespace Mp
open PySem PySem.W PySem.Spec PyProof.Rows L2
/-- a class's value -/
def CtV (mg : Str → Option Value) : Ct → V → Value → Prop
  | .own y, v, cv => ∃ B, mg y = some (.ref B) ∧ v = .ref B ∧ cv = .ref B
  | .ty n, v, cv => v = .ty n ∧ cv = .type n
theorem CtV.cls {mg : Str → Option Value} {t : Ct} {v : V} {cv : Value} (h : CtV mg t v cv) : ClsV v cv := by
  cases t with
  | own y => obtain ⟨B, _, rfl, rfl⟩ := h; exact .own B
  | ty n => obtain ⟨rfl, rfl⟩ := h; exact .ty n
section
variable {ω : Wk} {σ : L2.St} {H : Hp} {Q : VK} {C : Cl} {K : Frag}
theorem tE_no {f : En → Cs → Res D} (no : ∀ cls d σ H, ω.W cls d σ H → False) (h : tE ω f σ H Q) : tE ω.no f σ H Q := by
  obtain ⟨R, c, σd, M, m, rs, h⟩ := h
  refine ⟨R, c, σd, M, m, rs, ?_⟩
  revert h
  cases f σd M with
  | ok a M1 => exact id
  | ex e M1 => exact fun h cls dd H' c' a r => no _ _ _ _ (h cls dd H' c' a r)
  | bad => exact id
theorem exT_of {mg : Mg} {H : Hp} {U : Addr → Prop} {c : List Addr} {k : Str} {as : List D} {v : V} (h : Rp mg H U c (.exc k as) v) : ∃ a B, v = .ref a ∧ mg.nm k = some (.ref B) ∧ ExT H a B := by
  simp only [Rp] at h
  obtain ⟨a, oe, u, B, rfl, g1, g2, g3, g4, g5, g6⟩ := h
  refine ⟨a, B, rfl, g5, oe, u, g1, g3, g4, ?_⟩
  rcases g6 with g6 | ⟨f, q, w, g6, g7, g8, _⟩
  · exact .inl g6.2.2
  · exact .inr ⟨q, _, g7, g8⟩
theorem s_ise1 {a : ME} {t : Ct} {v : V} {cv : Value} {cs ns : List Str} (hv : ClsV v cv) (yes : ∀ k A, ω.mg.nm k = some (.ref A) → k ∈ cs → ExcC K A ∧ kitOne K (.ref A) cv = some true) (no : ∀ k A, ω.mg.nm k = some (.ref A) → k ∈ ns → ExcC K A ∧ kitOne K (.ref A) cv = some false)
    (h : tE ω (evE C (.ise a [t] false cs ns)) σ H Q) : tCB (rIsx K) (tCons (tE ω (evE C a)) (tCons (tC v) tNil)) σ H Q := by
  obtain ⟨R, c, σd, M, m, rs, h⟩ := h
  rw [evE] at h
  refine ⟨R, c, σd, M, m, rs, h.bind fun x M1 v1 H1 c1 a1 r1 h1 => ?_⟩
  obtain ⟨d, e, h3⟩ := h1.opt
  obtain ⟨b, e2, rfl⟩ := Option.map_eq_some_iff.mp e
  cases x <;> simp only [iseD, reduceCtorEq] at e2
  rename_i k as
  obtain ⟨p, B, rfl, nm, ex⟩ := exT_of r1
  have fin : ExcC K B ∧ kitOne K (.ref B) cv = some b := by
    split at e2
    · rename_i hk; cases e2; exact yes k B nm hk
    · split at e2
      · rename_i hk; cases e2; exact no k B nm hk
      · cases e2
  exact ⟨p, B, v, cv, b, rfl, ex, fin.1, hv, fin.2, h3 _ H1 c1 (Aft.refl a1.2) (by simp [rlD, Rp])⟩
theorem s_iseT {a : ME} {ts : List Ct} {vs : List V} {cvs : List Value} {cs ns : List Str} (hv : Paired ClsV vs cvs) (hl : vs.length ≤ sizeLine) (yes : ∀ k A, ω.mg.nm k = some (.ref A) → k ∈ cs → ExcC K A ∧ kitAny K (.ref A) cvs = some true) (no : ∀ k A, ω.mg.nm k = some (.ref A) → k ∈ ns → ExcC K A ∧ kitAny K (.ref A) cvs = some false)
    {t : TA} (ht : ∀ (H : Hp) (Q : List V → Hp → Prop), Q vs H → t σ H Q) (h : tE ω (evE C (.ise a ts true cs ns)) σ H Q) : tCB (rIsxT K) (tCons (tE ω (evE C a)) (tCons (tTup t) tNil)) σ H Q := by
  obtain ⟨R, c, σd, M, m, rs, h⟩ := h
  rw [evE] at h
  refine ⟨R, c, σd, M, m, rs, h.bind fun x M1 v1 H1 c1 a1 r1 h1 => ?_⟩
  obtain ⟨d, e, h3⟩ := h1.opt
  obtain ⟨b, e2, rfl⟩ := Option.map_eq_some_iff.mp e
  cases x <;> simp only [iseD, reduceCtorEq] at e2
  rename_i k as
  obtain ⟨p, B, rfl, nm, ex⟩ := exT_of r1
  have fin : ExcC K B ∧ kitAny K (.ref B) cvs = some b := by
    split at e2
    · rename_i hk; cases e2; exact yes k B nm hk
    · split at e2
      · rename_i hk; cases e2; exact no k B nm hk
      · cases e2
  refine ht H1 _ ⟨hl, fun tp hn => ?_⟩
  have st := Stp.new (o := .tup vs) a1.2 hn
  have ex2 : ExT (upd H1 tp (.tup vs)) p B := by
    obtain ⟨oe, u, x1, x2, x3, x4⟩ := ex
    refine ⟨oe, u, by rw [upd_ne (fun z => by rw [z, hn] at x1; cases x1)]; exact x1, x2, x3, ?_⟩
    rcases x4 with x4 | ⟨q, fs, y1, y2⟩
    · exact .inl x4
    · exact .inr ⟨q, fs, y1, by rw [upd_ne (fun z => by rw [z, hn] at y2; cases y2)]; exact y2⟩
  exact ⟨p, B, tp, vs, cvs, b, rfl, upd_same, hv, ex2, fin.1, fin.2, h3 _ _ c1 ⟨st, a1.2.new hn⟩ (by simp [rlD, Rp])⟩
/-- an exception made: without an attribute, with one -/
theorem s_exn0 {x : Str} {A : Addr} (nm : ω.mg.nm x = some (.ref A)) (at_ : ω.mg.att x = none) (h : tE ω (evE C (.exn x .nil)) σ H Q) : tMk (fun _ H Q => Q (.ref A) none H) σ H Q := by
  obtain ⟨R, c, σd, M, m, rs, h⟩ := h
  rw [evE, evEs, ok_bind] at h
  intro a oe hn hz hd
  have st := Stp.new (o := frzA oe) m hn
  refine h (.ref a) _ c ⟨st, m.new hn⟩ ?_
  simp only [rlD, Rp]
  exact ⟨a, oe, _, A, rfl, upd_same, m.fresh hn, hz.1, hd, nm, .inl ⟨at_, trivial, hz.2⟩⟩
theorem s_exn1 {x f : Str} {A : Addr} {a : ME} (nm : ω.mg.nm x = some (.ref A)) (at_ : ω.mg.att x = some f) (h : tE ω (evE C (.exn x (.cons a .nil))) σ H Q) : tMk (tMkI A f (tE ω (evE C a))) σ H Q := by
  obtain ⟨R, c, σd, M, m, rs, h⟩ := h
  rw [evE, evEs] at h
  have h2 : Post ω (rlD ω) R H c M σ Q ((evE C a σd M).bind fun v M1 => .ok (.exc x [v]) M1) := by
    revert h
    cases evE C a σd M with
    | ok v M1 => simp only [ok_bind, evEs]; exact id
    | _ => exact id
  refine ⟨R, c, σd, M, m, rs, h2.bind fun v M1 u H1 c1 a1 r1 q => ⟨rfl, fun d hd b oe hb hz hf => ?_⟩⟩
  have st := Stp.new (o := .xd [(f, u)]) a1.2 hd
  have m1 := a1.2.new (o := .xd [(f, u)]) hd
  have st2 := Stp.new (o := frzA oe) m1 hb
  have ne : b ≠ d := fun z => by rw [z, upd_same] at hb; cases hb
  have fd := a1.2.fresh hd
  refine q (.ref b) _ c1 ⟨st.trans st2, m1.new hb⟩ ?_
  simp only [rlD, Rp]
  refine ⟨b, oe, _, A, rfl, upd_same, m1.fresh hb, hz.1, hf, nm, .inr ⟨f, d, u, at_, hz.2, by rw [upd_ne (Ne.symm ne)]; exact upd_same, fd, ?_⟩⟩
  exact RpL.cons (Rp.mono st2.gr _ (Rp.mono st.gr _ r1)) RpL.nil
end
end Mp

/-! C(f=x) of an own exception class. -/
namespace Mp
open PySem PySem.W PySem.Spec PySem.Calls PyProof.Rows PySem.HandSPX
section
variable {prog : Program} {w : World} {A : Around} {E : Value → Shared → Prop} {R : Result → Shared → Prop} {h : Heap} {g : Array GenState} {d : Drawn} {t : Nat} {os : OsState}
variable {nm q : Str} {C N : Addr} {bs bm bmB : List Value} {hdct : Bool} {sn : List Str} {sub : List Value} {ab : Bool} {col : Option Bool} {dd : Option Addr} {k0 k1 k2 k3 k5 : Option Value} {B newId initId : String} {f : Str} {u : Value}
theorem check_new_kw (F : ExcBaseFacts B newId initId bmB) (hT : ∀ X : String, bm.contains (.type X) = bmB.contains (.type X)) {M : Model} {Q : Unit → Shared → Prop}
    (hC : h.get? C = some (excClassObj nm q C N bs bm hdct sn sub ab col dd k0 k1 k2 k3 k5 newId)) (hq : Q () ⟨h, g, d, t, os⟩) : wpAny M A (checkBuiltinCall newId ⟨[.ref C], [(f, u)]⟩) Q E ⟨h, g, d, t, os⟩ := by
  have hcont : (Value.ref C :: bm).contains (.type B) = true := by rw [List.contains_cons, hT, F.hasB, Bool.or_true]
  have hstar := F.noStar
  simp only [checkBuiltinCall, F.newKind, F.newSplit, F.newRow]
  repeat (first | refine wpAny_loadPart_at hC ?_ | (refine wpAny_isSubtype_exc hC ?_; rw [hcont]) | refine wpAny_staticBase_exc hC ?_ | refine wpAny_madeBy_exc hC ?_ | simp only [bne_self_eq_false, Bool.false_eq_true, if_false] | wp_step)
  exact hq
theorem new_kw (F : ExcBaseFacts B newId initId bmB) (hT : ∀ X : String, bm.contains (.type X) = bmB.contains (.type X))
    (hC : h.get? C = some (excClassObj nm q C N bs bm hdct sn sub ab col dd k0 k1 k2 k3 k5 newId))
    (hq : R (.ok (.ret (.ref (h.objs.size + 1)))) ⟨(h.push { cls := .type "tuple", data := .seq #[] }).push
      { cls := .ref C, data := .fields #[.ref h.objs.size, .none, .none, .none, .bool false, .none] }, g, d, t, os⟩) :
    codeAny (model prog w) A (.builtin newId ⟨[.ref C], [(f, u)]⟩) R ⟨h, g, d, t, os⟩ := by
  have hends := F.ends
  have hcB : (Value.ref C :: bm).contains (.type B) = true := by rw [List.contains_cons, hT, F.hasB, Bool.or_true]
  have hcA : (Value.ref C :: bm).contains (.type "AttributeError") = false := by rw [List.contains_cons, hT, F.noAttr]; rfl
  have hcN : (Value.ref C :: bm).contains (.type "NameError") = false := by rw [List.contains_cons, hT, F.noName]; rfl
  refine codeAny_builtinAt F.entry ?_
  unfold Builtin.«BaseException.__new__»
  refine PySem.wpAt_bind ?_
  show PySem.wpAt _ _ _ (stack >>= _) _ _ _
  refine PySem.wpAt_bind (PySem.wpAt_stack fun p below => PySem.wpAt_of_wpAny ?_)
  wp_walk
  refine PySem.wpAt_of_wpAny ?_
  rw [F.owner]
  repeat (first | with_reducible refine wpAny_madeHere_exc F.canon hC ?_ | with_reducible refine wpAny_loadPart_at hC ?_ | (with_reducible refine wpAny_isSubtype_exc hC ?_; first | rw [hcB] | rw [hcA] | rw [hcN]) | wp_step)
  show R _ _
  rw [Heap.size_push]
  exact hq
theorem type_call_kw (F : ExcBaseFacts B newId initId bmB) (hT : ∀ X : String, bm.contains (.type X) = bmB.contains (.type X)) {fI : Addr} {Q : Fin → Shared → Prop}
    (hC : h.get? C = some (excClassObj nm q C N bs bm hdct sn sub ab col dd k0 k1 k2 k3 k5 newId))
    (hi : W.Looks (model prog w) h (typeLookup (.ref C) "__init__") (some (.ref fI))) (hb : ∀ self, W.Looks (model prog w) h (bindSpecial (.ref fI) self) (.ref fI, [self]))
    (hq : codeAny (model prog w) A (.call (.ref fI) ⟨[.ref (h.objs.size + 1)], [(f, u)]⟩)
      (fun r s' => match r with | .ok (.ret v) => v = .none ∧ Q (.done (.ret (.ref (h.objs.size + 1)))) s' | .ok _ => False | .error e => E e s')
      ⟨(h.push (W.kdv_tup [])).push (excO C h.objs.size), g, d, t, os⟩) :
    wpAny (model prog w) A (Builtin.«type.__call__» ⟨[.ref C], [(f, u)]⟩) Q E ⟨h, g, d, t, os⟩ := by
  repeat (first | with_reducible refine wpAny_loadPart_at hC ?_ | with_reducible refine wpAny_madeBy_exc hC ?_ | wp_step)
  refine codeAny_call_builtin_code (Code.quiet_builtin _ F.quiet) (check_new_kw F hT hC ?_)
  refine new_kw F hT hC ?_
  show wpAny _ _ _ _ _ _
  have k : ∀ b o, h.get? b = some o → ((h.push (W.kdv_tup [])).push (excO C h.objs.size)).get? b = some o := fun b o e => Heap.get?_push_of_some _ (Heap.get?_push_of_some _ e)
  have hC₁ := k _ _ hC
  have hget : ((h.push (W.kdv_tup [])).push (excO C h.objs.size)).get? (h.objs.size + 1) = some (excO C h.objs.size) := by heap_get
  have hcC : (Value.ref C :: bm).contains (.ref C) = true := by simp
  have i1 := hi.keeps k
  have b1 := (hb (.ref (h.objs.size + 1))).keeps k
  unfold isInstance
  repeat (first | with_reducible refine wpAny_loadPart_at hget ?_ | (with_reducible refine wpAny_isSubtype_exc hC₁ ?_; rw [hcC]) | wp_step)
  show wpAny _ _ (typeLookup (.ref C) _) _ _ _
  refine i1.at ?_
  refine wpAny_holding (wpAny_bind (b1.at ?_))
  refine wpAny_bind (wpAny_call (codeAny_mono hq fun r s' z => ?_))
  rcases r with e | (v | _ | _ | _) <;> first | exact z | exact z.elim | skip
  obtain ⟨rfl, z⟩ := z
  first
    | exact wpAny_pure (wpAny_pure z)
    | (wp_walk; exact z)
theorem call_kw (F : ExcBaseFacts B newId initId bmB) (hT : ∀ X : String, bm.contains (.type X) = bmB.contains (.type X)) {fI : Addr}
    (hC : h.get? C = some (excClassObj nm q C N bs bm hdct sn sub ab col dd k0 k1 k2 k3 k5 newId))
    (hi : W.Looks (model prog w) h (typeLookup (.ref C) "__init__") (some (.ref fI))) (hb : ∀ self, W.Looks (model prog w) h (bindSpecial (.ref fI) self) (.ref fI, [self]))
    (hq : codeAny (model prog w) (A.under (.builtin "type.__call__" ⟨[.ref C], [(f, u)]⟩)) (.call (.ref fI) ⟨[.ref (h.objs.size + 1)], [(f, u)]⟩) (W.InitBack (h.objs.size + 1) R)
      ⟨(h.push (W.kdv_tup [])).push (excO C h.objs.size), g, d, t, os⟩) :
    codeAny (model prog w) A (.call (.ref C) ⟨[], [(f, u)]⟩) R ⟨h, g, d, t, os⟩ := by
  have f1 := tc_lookup
  have f2 := tc_bind (.ref C)
  have hTy : (⟨h, g, d, t, os⟩ : Shared).TypeIs (.ref C) "type" := ⟨_, hC, rfl⟩
  refine codeAny_of_tree ?_
  show wpAny _ _ (callAny (.ref C) _) _ _ _
  repeat (any_goals (first | assumption | with_reducible refine wpAny_loadPart_at hC ?_ | wp_step))
  refine ⟨rfl, ?_⟩
  refine codeAny_call_builtin_at (Code.quiet_builtin _ (by decide +kernel)) entry_typeCall (wpAny_check_type_call_sub hC (type_call_kw F hT hC hi hb ?_))
  refine codeAny_mono hq fun r s' z => ?_
  rcases r with e | (v | _ | _ | _) <;> exact z
end
end Mp
namespace Mp
open PySem PySem.Spec PyProof.Rows L2
section
variable {X : Cx} {C fI : Addr} {x f : Str} {p pos kp : Pos} {e : Expr} {te : TE}
/-- C(f=e) -/
theorem pmk_kw (T : IniC X.prog X.K C fI f) (room : Room 0 X.A) (gC : X.mg x = some (.ref C)) (gs : X.mg "super" = none) (hg : Gl X x) (hd : (x == ("__debug__" : Str)) = false) {kws : List Keyword} {tk : TA} (hkw : PK X kws tk)
    (hall : (backToKw pos (keywordEach kws X.env)).all (·.1.isSome) = true) (hks : (backToKw pos (keywordEach kws X.env)).filterMap (·.1) = [f])
    (hpl : ((backTo pos (starEach [] X.env)).any (·.1) || (backToKw pos (keywordEach kws X.env)).any (·.1.isNone)) = false) :
    PMk X (.Call (.Name x p) [] kws pos) (fun σ H Q => tk σ H fun vs H1 => vs.length = 1 ∧ ∀ d, H1 d = none → Q (.ref C) (some d) (upd H1 d (.xd [(f, vs.headD .non)]))) := fun pins s σ H Q I h => by
  refine wpAny_Call_Name_kw (ld_glob I hg gC ?_ hd)
  refine PySem.W.callWith_KW0 (h₀ := X.base) I.ok.mod.kin T.oex.kC hall (thn (hkw.run pos pins s σ H (fun vs H1 => vs.length = 1 ∧ ∀ d, H1 d = none → Q (.ref C) (some d) (upd H1 d (.xd [(f, vs.headD .non)]))) I h) fun us s1 hh => ?_) hpl
  obtain ⟨vs, H1, I1, r1, hl, q1⟩ := hh
  obtain ⟨v, rfl⟩ := List.length_eq_one_iff.mp hl
  refine ⟨I1.kIn, ?_⟩
  obtain ⟨u, rfl, ru⟩ : ∃ u, us = [u] ∧ RelV v u := by
    cases r1 with
    | cons a b => cases b; exact ⟨_, rfl, a⟩
  rw [hks]
  show wpAny _ _ (call (.ref C) [] [(f, u)]) _ _ _
  obtain ⟨hp, g, dr, tk, os⟩ := s1
  obtain ⟨nm, qn, N, bs, bm, sn, sub, ab, col, dd, k0, k1, k2, k3, k5, hC, hbm⟩ := T.oex.cls
  obtain ⟨mb, hmb, hbb⟩ := I1.ok.mod.blt
  have kk : ∀ b o, hp.get? b = some o → ((hp.push (PySem.W.kdv_tup [])).push (PySem.HandSPX.excO C hp.objs.size)).get? b = some o := fun b o z => Heap.get?_push_of_some _ (Heap.get?_push_of_some _ z)
  have here : ((hp.push (PySem.W.kdv_tup [])).push (PySem.HandSPX.excO C hp.objs.size)).get? (hp.objs.size + 1) = some (PySem.HandSPX.excO C hp.objs.size) := by heap_get
  have eK : X.K.lookup (hp.objs.size + 1) = none := by
    cases z : X.K.lookup (hp.objs.size + 1) with
    | none => rfl
    | some o =>
      have : hp.objs.size + 1 < hp.objs.size := Heap.lt_size (I1.kIn _ _ z)
      omega
  refine wpAny_call (call_kw F.excBase_ValueError (fun Y => PySem.HandSPX.refsVE_contains Y bm hbm) (I1.kIn _ _ hC) (PySem.W.looks_findIn I1.kIn T.ini) (fun self => PySem.W.bind_fn I1.kIn self T.typ) ?_)
  refine init_run (mg := X.mg) (mb := mb) (u := u) T (I1.kIn.keeps kk) ?_ gs ?_ ?_ ?_ ?_ here eK (.inr rfl) fun h' t' t1 dx k dn hx hn => ?_
  · exact (I1.ok.mod.glob.keeps I1.bk).keeps kk
  · exact (hmb.keeps I1.bk).keeps kk
  · exact (hbb _ (by decide)).trans (by decide +kernel)
  · exact (I1.nolimit).keeps kk
  · have := room.dp
    rw [make_depth]
    omega
  have s2 : ((hp.push (PySem.W.kdv_tup [])).push (PySem.HandSPX.excO C hp.objs.size)).objs.size = hp.objs.size + 2 := by rw [Heap.size_push, Heap.size_push]
  obtain ⟨G, g1, g2⟩ := restrict h' fun b => decide (b ≠ hp.objs.size + 1)
  have ge : G.get? (hp.objs.size + 1) = none := g2 _ (by simp)
  have gk : ∀ b, b ≠ hp.objs.size + 1 → G.get? b = h'.get? b := fun b hb => g1 b (decide_eq_true hb)
  have fresh : ∀ {b : Addr} {o : Obj}, hp.get? b = some o → b ≠ hp.objs.size + 1 := fun {b o} z e => by
    rw [e] at z
    exact absurd (Heap.lt_size z) (Nat.not_lt.mpr (Nat.le_succ _))
  have kG : ∀ b o, hp.get? b = some o → G.get? b = some o := fun b o z => (gk b (fresh z)).trans (k b o (fresh z) (kk b o z))
  have hdx : hp.objs.size ≤ dx := Nat.le_trans (Nat.le_trans (Nat.le_add_right _ 2) (Nat.le_of_eq s2.symm)) dn
  have nx : dx ≠ hp.objs.size + 1 := fun z => by
    obtain ⟨o, es, ep, e1, e2, _⟩ := hn
    rw [z, hx] at e1
    cases e1
    cases e2
  have hn1 : H1 dx = none := I1.hok.fresh hdx
  have J : Inv X pins σ (upd H1 dx (.xd [(f, v)])) ⟨G, g, dr, t', os⟩ := I1.laid (t' := t') kG hdx ⟨_, hn.at fun o z => (gk dx nx).trans z, fun y => by
    show RelO (([(f, v)] : List (Str × V)).lookup y) (if y = f then some u else none)
    rw [lookup_put]
    by_cases c : y = f
    · rw [if_pos c, if_pos c]; exact ru
    · rw [if_neg c, if_neg c]; exact True.intro⟩
  refine ⟨rfl, hp.objs.size + 1, _, _, ⟨G, g, dr, t', os⟩, _, .ref C, some dx, rfl, J, fun b o z => ?_, ge, hx, ⟨rfl, rfl⟩, rfl, rfl, ?_, rfl, J.bare, raises_own T.oex.exC T.oex.tyC, q1 dx hn1⟩
  · by_cases c : b = hp.objs.size + 1
    · rw [c, ge] at z; cases z
    · exact (gk b c).symm.trans z
  · rw [upd_ne (Ne.symm nx)]
    exact I1.hok.fresh (show hp.objs.size ≤ hp.objs.size + 1 from Nat.le_succ _)
end
end Mp

/-! zip of three tuples. -/
namespace Mp
open PySem PySem.Spec PyProof.Rows L2 RZ

abbrev Tri (h : Heap) (T : Addr) (a b d : Value) : Prop := h.get? T = some { cls := .type "tuple", data := .seq #[a, b, d] }
section
variable {prog : Program} {w : World} {A : Around} {E : Value → Shared → Prop} {s : Shared}
theorem upd_tri {T : Addr} {a b d x : Value} {k : Nat} {Q : Unit → Shared → Prop} (hT : Tri s.heap T a b d)
    (h : ∀ h', h'.get? T = some { cls := .type "tuple", data := .seq ((#[a, b, d] : Array Value).setIfInBounds k x) } → Heap.SameBut T s.heap h' → Q () { s with heap := h' }) : wpAny (model prog w) A (updateSeq T (·.setIfInBounds k x)) Q E s := by
  refine wpAny_updateSeq hT rfl (h _ ?_ (Heap.SameBut.update ..))
  rw [Heap.get?_update_self _ hT rfl]
  simp [Obj.mapSeq]
/-- the iterators at n, n + 1, n + 2, the two tuples, the zip at n + 5 -/
structure Z3 (n a b c i : Nat) (x y z f : Value) (h : Heap) : Prop where
  zip : IsZip h (n + 5) (n + 3) (n + 4) f
  ins : Tri h (n + 3) (.ref n) (.ref (n + 1)) (.ref (n + 2))
  out : Tri h (n + 4) x y z
  i1 : h.IsTupleIter n a i
  i2 : h.IsTupleIter (n + 1) b i
  i3 : h.IsTupleIter (n + 2) c i
/-- one of its six objects -/
def six (n : Nat) (e : Nat) : Prop := n ≤ e ∧ e ≤ n + 5
theorem z3_next {n a b c i : Nat} {xs ys zs : Array Value} {x y z x0 y0 z0 : Value} {Q : Value → Shared → Prop} (st : Z3 n a b c i x0 y0 z0 .none s.heap) (la : a < n) (lb : b < n) (lc : c < n) (ta : s.heap.IsTuple a xs) (tb : s.heap.IsTuple b ys) (tc : s.heap.IsTuple c zs)
    (hx : xs[i]? = some x) (hy : ys[i]? = some y) (hz : zs[i]? = some z)
    (q : ∀ h', Z3 n a b c (i + 1) x y z (rawInt s.heap.objs.size) h' → Tri h' s.heap.objs.size x y z → h'.objs.size = s.heap.objs.size + 1 → (∀ e o, ¬ six n e → s.heap.get? e = some o → h'.get? e = some o) → Q (.ref s.heap.objs.size) { s with heap := h' }) :
    wpAny (model prog w) A (Builtin.«zip.__next__» ⟨[.ref (n + 5)], []⟩) (fun fin s' => ∃ v, fin = .done (.ret v) ∧ Q v s') E s := by
  obtain ⟨sz, s3, s4, j1, j2, j3⟩ := st
  show wpAny _ _ (field (.ref (n + 5)) 2 >>= _) _ _ _
  refine wpAny_bind (wpAny_field sz rfl (x := .bool false) rfl ?_)
  show wpAny _ _ (field (.ref (n + 5)) 3 >>= _) _ _ _
  refine wpAny_bind (wpAny_field sz rfl (x := .ref (n + 3)) rfl (wpAny_bind (wpAny_seqItems s3 rfl ?_)))
  show wpAny _ _ (Builtin.SmallTypes.ownedTupleIsFree (.ref (n + 5)) >>= _) _ _ _
  refine wpAny_bind ?_
  unfold Builtin.SmallTypes.ownedTupleIsFree
  refine wpAny_bind (wpAny_field sz rfl (x := .none) rfl (wpAny_pure ?_))
  simp only [if_true]
  refine wpAny_bind (wpAny_rule (wpAny_bind (wpAny_field sz rfl (x := .ref (n + 4)) rfl (wpAny_bind (wpAny_setField_rec sz (by simp) fun h1 z1 k1 => ?_)))))
  replace z1 : IsZip h1 (n + 5) (n + 3) (n + 4) .ellipsis := z1
  refine wpAny_bind ?_
  simp only [List.zipIdx_cons, List.zipIdx_nil, List.forIn_cons, List.forIn_nil]
  -- the first
  refine wpAny_bind (wpAny_bind (wpAny_onRaise ?_))
  show wpAny _ _ (Builtin.SmallTypes.nextOf (.ref n) >>= _) _ _ _
  refine wpAny_bind (nextOf_tuple_item (j1.extBut k1.extBut (by first | exact Nat.ne_of_lt (by omega) | exact Nat.ne_of_gt (by omega))) (ta.extBut k1.extBut (by first | exact Nat.ne_of_lt (by omega) | exact Nat.ne_of_gt (by omega))) hx fun h2 r1 k2 => wpAny_pure ?_)
  have o2 : Tri h2 (n + 4) x0 y0 z0 := k2.extBut _ _ (by first | exact Nat.ne_of_lt (by omega) | exact Nat.ne_of_gt (by omega)) (k1.extBut _ _ (by first | exact Nat.ne_of_lt (by omega) | exact Nat.ne_of_gt (by omega)) s4)
  refine wpAny_bind (wpAny_seqItems o2 rfl (wpAny_bind (upd_tri o2 fun h3 o3 k3 => ?_)))
  replace o3 : Tri h3 (n + 4) x y0 z0 := o3
  refine wpAny_bind (wpAny_letGo (wpAny_pure ?_))
  -- the second
  refine wpAny_bind (wpAny_bind (wpAny_onRaise ?_))
  show wpAny _ _ (Builtin.SmallTypes.nextOf (.ref (n + 1)) >>= _) _ _ _
  refine wpAny_bind (nextOf_tuple_item (((j2.extBut k1.extBut (by first | exact Nat.ne_of_lt (by omega) | exact Nat.ne_of_gt (by omega))).extBut k2.extBut (by first | exact Nat.ne_of_lt (by omega) | exact Nat.ne_of_gt (by omega))).extBut k3.extBut (by first | exact Nat.ne_of_lt (by omega) | exact Nat.ne_of_gt (by omega))) (((tb.extBut k1.extBut (by first | exact Nat.ne_of_lt (by omega) | exact Nat.ne_of_gt (by omega))).extBut k2.extBut (by first | exact Nat.ne_of_lt (by omega) | exact Nat.ne_of_gt (by omega))).extBut k3.extBut (by first | exact Nat.ne_of_lt (by omega) | exact Nat.ne_of_gt (by omega))) hy fun h4 r2 k4 => wpAny_pure ?_)
  have o4 : Tri h4 (n + 4) x y0 z0 := k4.extBut _ _ (by first | exact Nat.ne_of_lt (by omega) | exact Nat.ne_of_gt (by omega)) o3
  refine wpAny_bind (wpAny_seqItems o4 rfl (wpAny_bind (upd_tri o4 fun h5 o5 k5 => ?_)))
  replace o5 : Tri h5 (n + 4) x y z0 := o5
  refine wpAny_bind (wpAny_letGo (wpAny_pure ?_))
  -- the third
  refine wpAny_bind (wpAny_bind (wpAny_onRaise ?_))
  show wpAny _ _ (Builtin.SmallTypes.nextOf (.ref (n + 2)) >>= _) _ _ _
  refine wpAny_bind (nextOf_tuple_item (((((j3.extBut k1.extBut (by first | exact Nat.ne_of_lt (by omega) | exact Nat.ne_of_gt (by omega))).extBut k2.extBut (by first | exact Nat.ne_of_lt (by omega) | exact Nat.ne_of_gt (by omega))).extBut k3.extBut (by first | exact Nat.ne_of_lt (by omega) | exact Nat.ne_of_gt (by omega))).extBut k4.extBut (by first | exact Nat.ne_of_lt (by omega) | exact Nat.ne_of_gt (by omega))).extBut k5.extBut (by first | exact Nat.ne_of_lt (by omega) | exact Nat.ne_of_gt (by omega)))
    (((((tc.extBut k1.extBut (by first | exact Nat.ne_of_lt (by omega) | exact Nat.ne_of_gt (by omega))).extBut k2.extBut (by first | exact Nat.ne_of_lt (by omega) | exact Nat.ne_of_gt (by omega))).extBut k3.extBut (by first | exact Nat.ne_of_lt (by omega) | exact Nat.ne_of_gt (by omega))).extBut k4.extBut (by first | exact Nat.ne_of_lt (by omega) | exact Nat.ne_of_gt (by omega))).extBut k5.extBut (by first | exact Nat.ne_of_lt (by omega) | exact Nat.ne_of_gt (by omega))) hz fun h6 r3 k6 => wpAny_pure ?_)
  have o6 : Tri h6 (n + 4) x y z0 := k6.extBut _ _ (by first | exact Nat.ne_of_lt (by omega) | exact Nat.ne_of_gt (by omega)) o5
  refine wpAny_bind (wpAny_seqItems o6 rfl (wpAny_bind (upd_tri o6 fun h7 o7 k7 => ?_)))
  replace o7 : Tri h7 (n + 4) x y z := o7
  refine wpAny_bind (wpAny_letGo (wpAny_pure (wpAny_pure ?_)))
  refine wpAny_bind (wpAny_seqItems o7 rfl (wpAny_bind (wpAny_newTuple ?_)))
  have size7 : h7.objs.size = s.heap.objs.size := by rw [k7.1, k6.1, k5.1, k4.1, k3.1, k2.1, k1.1]
  have up7 : ∀ e o, e ≠ n + 5 → e ≠ n + 4 → e ≠ n → e ≠ n + 1 → e ≠ n + 2 → s.heap.get? e = some o → h7.get? e = some o := fun e o a1 a2 a3 a4 a5 q =>
    k7.extBut _ _ a2 (k6.extBut _ _ a5 (k5.extBut _ _ a2 (k4.extBut _ _ a4 (k3.extBut _ _ a2 (k2.extBut _ _ a3 (k1.extBut _ _ a1 q))))))
  have z7 : IsZip h7 (n + 5) (n + 3) (n + 4) .ellipsis := k7.extBut _ _ (by first | exact Nat.ne_of_lt (by omega) | exact Nat.ne_of_gt (by omega)) (k6.extBut _ _ (by first | exact Nat.ne_of_lt (by omega) | exact Nat.ne_of_gt (by omega)) (k5.extBut _ _ (by first | exact Nat.ne_of_lt (by omega) | exact Nat.ne_of_gt (by omega)) (k4.extBut _ _ (by first | exact Nat.ne_of_lt (by omega) | exact Nat.ne_of_gt (by omega)) (k3.extBut _ _ (by first | exact Nat.ne_of_lt (by omega) | exact Nat.ne_of_gt (by omega)) (k2.extBut _ _ (by first | exact Nat.ne_of_lt (by omega) | exact Nat.ne_of_gt (by omega)) z1)))))
  have a7 : h7.IsTupleIter n a (i + 1) := ((((r1.extBut k3.extBut (by first | exact Nat.ne_of_lt (by omega) | exact Nat.ne_of_gt (by omega))).extBut k4.extBut (by first | exact Nat.ne_of_lt (by omega) | exact Nat.ne_of_gt (by omega))).extBut k5.extBut (by first | exact Nat.ne_of_lt (by omega) | exact Nat.ne_of_gt (by omega))).extBut k6.extBut (by first | exact Nat.ne_of_lt (by omega) | exact Nat.ne_of_gt (by omega))).extBut k7.extBut (by first | exact Nat.ne_of_lt (by omega) | exact Nat.ne_of_gt (by omega))
  have b7 : h7.IsTupleIter (n + 1) b (i + 1) := ((r2.extBut k5.extBut (by first | exact Nat.ne_of_lt (by omega) | exact Nat.ne_of_gt (by omega))).extBut k6.extBut (by first | exact Nat.ne_of_lt (by omega) | exact Nat.ne_of_gt (by omega))).extBut k7.extBut (by first | exact Nat.ne_of_lt (by omega) | exact Nat.ne_of_gt (by omega))
  have c7 : h7.IsTupleIter (n + 2) c (i + 1) := r3.extBut k7.extBut (by first | exact Nat.ne_of_lt (by omega) | exact Nat.ne_of_gt (by omega))
  have i7 := up7 _ _ (by first | exact Nat.ne_of_lt (by omega) | exact Nat.ne_of_gt (by omega)) (by first | exact Nat.ne_of_lt (by omega) | exact Nat.ne_of_gt (by omega)) (by first | exact Nat.ne_of_lt (by omega) | exact Nat.ne_of_gt (by omega)) (by first | exact Nat.ne_of_lt (by omega) | exact Nat.ne_of_gt (by omega)) (by first | exact Nat.ne_of_lt (by omega) | exact Nat.ne_of_gt (by omega)) s3
  have zlt : n + 5 < h7.objs.size := Heap.lt_size z7
  show wpAny _ _ (Builtin.SmallTypes.ownedTupleHandOut (.ref (n + 5)) (.ref h7.objs.size) >>= _) _ _ _
  refine wpAny_bind ?_
  unfold Builtin.SmallTypes.ownedTupleHandOut
  have z8 : IsZip (h7.push { cls := .type "tuple", data := .seq #[x, y, z] }) (n + 5) (n + 3) (n + 4) .ellipsis := Heap.get?_push_of_some _ z7
  refine wpAny_bind (wpAny_setField_rec z8 (by simp) fun h9 z9 k9 => ?_)
  replace z9 : IsZip h9 (n + 5) (n + 3) (n + 4) (rawInt h7.objs.size) := z9
  refine wpAny_setField_rec z9 (by simp) fun h10 z10 k10 => ?_
  replace z10 : IsZip h10 (n + 5) (n + 3) (n + 4) (rawInt h7.objs.size) := z10
  have up : ∀ e o, e ≠ n + 5 → h7.get? e = some o → h10.get? e = some o := fun e o a1 q => k10.extBut _ _ a1 (k9.extBut _ _ a1 (Heap.get?_push_of_some _ q))
  have t10 : Tri h10 h7.objs.size x y z := k10.extBut _ _ (Nat.ne_of_gt zlt) (k9.extBut _ _ (Nat.ne_of_gt zlt) (Heap.get?_push_size _ rfl))
  have size10 : h10.objs.size = h7.objs.size + 1 := by rw [k10.1, k9.1, Heap.size_push]
  rw [size7] at z10 t10 size10
  refine wpAny_pure ⟨_, rfl, ?_⟩
  show Q (.ref h7.objs.size) _
  rw [size7]
  refine q h10 ⟨z10, up _ _ (by first | exact Nat.ne_of_lt (by omega) | exact Nat.ne_of_gt (by omega)) i7, up _ _ (by first | exact Nat.ne_of_lt (by omega) | exact Nat.ne_of_gt (by omega)) o7, a7.at fun o e => up _ o (by first | exact Nat.ne_of_lt (by omega) | exact Nat.ne_of_gt (by omega)) e, b7.at fun o e => up _ o (by first | exact Nat.ne_of_lt (by omega) | exact Nat.ne_of_gt (by omega)) e, c7.at fun o e => up _ o (by first | exact Nat.ne_of_lt (by omega) | exact Nat.ne_of_gt (by omega)) e⟩ t10 size10 fun e o no q => ?_
  have : ¬ (n ≤ e ∧ e ≤ n + 5) := no
  exact up e o (fun z => this (by rw [z]; exact ⟨by omega, by omega⟩)) (up7 e o (fun z => this (by rw [z]; exact ⟨by omega, by omega⟩)) (fun z => this (by rw [z]; exact ⟨by omega, by omega⟩)) (fun z => this (by rw [z]; exact ⟨by omega, by omega⟩)) (fun z => this (by rw [z]; exact ⟨by omega, by omega⟩)) (fun z => this (by rw [z]; exact ⟨by omega, by omega⟩)) q)
theorem z3_end {n a b c i : Nat} {xs : Array Value} {x0 y0 z0 : Value} {Q : Fin → Shared → Prop} (hh : A.handled = none) (st : Z3 n a b c i x0 y0 z0 .none s.heap) (la : a < n) (ta : s.heap.IsTuple a xs) (hx : xs[i]? = none)
    (q : ∀ h' e, (∀ e o, ¬ six n e → s.heap.get? e = some o → h'.get? e = some o) → (∃ o, h'.get? e = some o ∧ o.cls = .type "StopIteration") → E (.ref e) { s with heap := h' }) :
    wpAny (model prog w) A (Builtin.«zip.__next__» ⟨[.ref (n + 5)], []⟩) Q E s := by
  obtain ⟨sz, s3, s4, j1, j2, j3⟩ := st
  show wpAny _ _ (field (.ref (n + 5)) 2 >>= _) _ _ _
  refine wpAny_bind (wpAny_field sz rfl (x := .bool false) rfl ?_)
  show wpAny _ _ (field (.ref (n + 5)) 3 >>= _) _ _ _
  refine wpAny_bind (wpAny_field sz rfl (x := .ref (n + 3)) rfl (wpAny_bind (wpAny_seqItems s3 rfl ?_)))
  show wpAny _ _ (Builtin.SmallTypes.ownedTupleIsFree (.ref (n + 5)) >>= _) _ _ _
  refine wpAny_bind ?_
  unfold Builtin.SmallTypes.ownedTupleIsFree
  refine wpAny_bind (wpAny_field sz rfl (x := .none) rfl (wpAny_pure ?_))
  simp only [if_true]
  refine wpAny_bind (wpAny_rule (wpAny_bind (wpAny_field sz rfl (x := .ref (n + 4)) rfl (wpAny_bind (wpAny_setField_rec sz (by simp) fun h1 z1 k1 => ?_)))))
  replace z1 : IsZip h1 (n + 5) (n + 3) (n + 4) .ellipsis := z1
  refine wpAny_bind ?_
  simp only [List.zipIdx_cons, List.zipIdx_nil, List.forIn_cons, List.forIn_nil]
  refine wpAny_bind (wpAny_bind (wpAny_onRaise ?_))
  show wpAny _ _ (Builtin.SmallTypes.nextOf (.ref n) >>= _) _ _ _
  refine wpAny_bind (nextOf_tuple_end hh (j1.extBut k1.extBut (by first | exact Nat.ne_of_lt (by omega) | exact Nat.ne_of_gt (by omega))) (ta.extBut k1.extBut (by first | exact Nat.ne_of_lt (by omega) | exact Nat.ne_of_gt (by omega))) hx fun h2 e k2 he => ?_)
  obtain ⟨oe, e1, e2⟩ := he
  have z2 : IsZip h2 (n + 5) (n + 3) (n + 4) .ellipsis := k2 _ _ (by first | exact Nat.ne_of_lt (by omega) | exact Nat.ne_of_gt (by omega)) z1
  have ez : e ≠ n + 5 := fun y => by
    rw [y, z2] at e1
    cases e1
    simp at e2
  refine wpAny_setField_rec z2 (by simp) fun h3 _ k3 => q h3 e (fun e' o no y => ?_) ⟨oe, k3.extBut _ _ ez e1, e2⟩
  have : ¬ (n ≤ e' ∧ e' ≤ n + 5) := no
  exact k3.extBut _ _ (fun z => this (by rw [z]; exact ⟨by omega, by omega⟩)) (k2 _ _ (fun z => this (by rw [z]; exact ⟨by omega, by omega⟩)) (k1.extBut _ _ (fun z => this (by rw [z]; exact ⟨by omega, by omega⟩)) y))
theorem z3_pyNext {n a b c i : Nat} {xs ys zs : Array Value} {x y z x0 y0 z0 : Value} {Q : Option Value → Shared → Prop} (st : Z3 n a b c i x0 y0 z0 .none s.heap) (la : a < n) (lb : b < n) (lc : c < n) (ta : s.heap.IsTuple a xs) (tb : s.heap.IsTuple b ys) (tc : s.heap.IsTuple c zs)
    (hx : xs[i]? = some x) (hy : ys[i]? = some y) (hz : zs[i]? = some z)
    (q : ∀ h', Z3 n a b c (i + 1) x y z (rawInt s.heap.objs.size) h' → Tri h' s.heap.objs.size x y z → h'.objs.size = s.heap.objs.size + 1 → (∀ e o, ¬ six n e → s.heap.get? e = some o → h'.get? e = some o) → Q (some (.ref s.heap.objs.size)) { s with heap := h' }) :
    wpAny (model prog w) A (pyNext (.ref (n + 5))) Q E s := by
  have ty : s.TypeIs (.ref (n + 5)) "zip" := ⟨_, st.zip, rfl⟩
  unfold pyNext
  exact wpAny_bind (wpAny_attempt (wpAny_callSpecial?_slot (name := Str.ofString "__next__") ty F.slot_zip_next
    (wpAny_call_entry F.slot_zip_next ty F.entry_zip_next (z3_next st la lb lc ta tb tc hx hy hz fun h' a1 a2 a3 a4 => wpAny_pure (q h' a1 a2 a3 a4)) (F.args_zip_next_1 _))))
theorem z3_pyEnd {n a b c i : Nat} {xs : Array Value} {x0 y0 z0 : Value} {Q : Option Value → Shared → Prop} (hh : A.handled = none) (st : Z3 n a b c i x0 y0 z0 .none s.heap) (la : a < n) (ta : s.heap.IsTuple a xs) (hx : xs[i]? = none)
    (q : ∀ h', (∀ e o, ¬ six n e → s.heap.get? e = some o → h'.get? e = some o) → Q none { s with heap := h' }) : wpAny (model prog w) A (pyNext (.ref (n + 5))) Q E s := by
  have ty : s.TypeIs (.ref (n + 5)) "zip" := ⟨_, st.zip, rfl⟩
  unfold pyNext
  refine wpAny_bind (wpAny_attempt (wpAny_callSpecial?_slot (name := Str.ofString "__next__") ty F.slot_zip_next
    (wpAny_call_entry F.slot_zip_next ty F.entry_zip_next (z3_end hh st la ta hx fun h' e k he => ?_) (F.args_zip_next_1 _))))
  obtain ⟨o, ho, hc⟩ := he
  exact wpAny_bind (wpAny_isInstance (T := "StopIteration") (b := true) ⟨o, ho, hc⟩ isSubtype_stop (wpAny_pure (q _ k)))
end
abbrev itO (a : Addr) : Obj := { cls := .type "tuple_iterator", data := .fields #[.ref a, .int 0 0] }
abbrev zh1 (h : Heap) (a : Addr) : Heap := h.push (itO a)
abbrev zh2 (h : Heap) (a b : Addr) : Heap := (zh1 h a).push (itO b)
abbrev zh3 (h : Heap) (a b c : Addr) : Heap := (zh2 h a b).push (itO c)
abbrev zh4 (h : Heap) (a b c : Addr) : Heap := (zh3 h a b c).push { cls := .type "tuple", data := .seq #[.ref h.objs.size, .ref (zh1 h a).objs.size, .ref (zh2 h a b).objs.size] }
abbrev zh5 (h : Heap) (a b c : Addr) : Heap := (zh4 h a b c).push { cls := .type "tuple", data := .seq #[.none, .none, .none] }
abbrev zh6 (h : Heap) (a b c : Addr) : Heap := (zh5 h a b c).push { cls := .type "zip", data := .fields #[.none, .bool false, .bool false, .ref (zh3 h a b c).objs.size, .ref (zh4 h a b c).objs.size] }
theorem z3_new (a b c : Addr) (xs ys zs : Array Value) : Meets (Builtin.«zip.__new__» ⟨[.type "zip", .ref a, .ref b, .ref c], []⟩) (fun _ R s => s.heap.IsTuple a xs ∧ s.heap.IsTuple b ys ∧ s.heap.IsTuple c zs ∧
      R (.ok (.ret (.ref (zh5 s.heap a b c).objs.size))) { s with heap := zh6 s.heap a b c }) :=
  .of_wp fun prog w A R s h => by
    obtain ⟨hp, g, d, tk, os⟩ := s
    obtain ⟨t1, t2, t3, h⟩ := h
    have sub := sub_zip
    have u1 : Heap.IsTuple (Shared.heap ⟨hp, g, d, tk, os⟩) a xs := t1
    have u2 : Heap.IsTuple (Shared.heap ⟨hp.push (itO a), g, d, tk, os⟩) b ys := Heap.IsTuple.push t2 _
    have u3 : Heap.IsTuple (Shared.heap ⟨(hp.push (itO a)).push (itO b), g, d, tk, os⟩) c zs := Heap.IsTuple.push (Heap.IsTuple.push t3 _) _
    wp_walk using wpAny_pyIter_tuple u1, wpAny_pyIter_tuple u2, wpAny_pyIter_tuple u3
    exact ⟨_, rfl, h⟩
theorem typeCall_zip3 (a b c : Value) : checkTypeCall "zip" ⟨[a, b, c], []⟩ = pure () := by kernel_rfl
theorem newCall_zip3 (a b c : Value) : checkBuiltinCall "zip.__new__" ⟨[.type "zip", a, b, c], []⟩ = pure () := by kernel_rfl
theorem args_init4 (a b c d : Value) : argsOk "object.__init__" ⟨[a, b, c, d], []⟩ := by unfold argsOk; kernel_rfl
section
variable {prog : Program} {w : World} {A : Around} {E : Value → Shared → Prop} {s : Shared}
theorem z3_call {a b c : Addr} {xs ys zs : Array Value} {Q : Value → Shared → Prop} (ta : s.heap.IsTuple a xs) (tb : s.heap.IsTuple b ys) (tc : s.heap.IsTuple c zs)
    (q : ∀ h', Z3 s.heap.objs.size a b c 0 .none .none .none .none h' → h'.objs.size = s.heap.objs.size + 6 → (∀ e o, s.heap.get? e = some o → h'.get? e = some o) → Q (.ref (s.heap.objs.size + 5)) { s with heap := h' }) :
    wpAny (model prog w) A (call (.type "zip") [.ref a, .ref b, .ref c]) Q E s := by
  refine callType_new F.called_zip (by decide) (typeCall_zip3 _ _ _) (newCall_zip3 _ _ _) (fun obj => args_init4 obj _ _ _) F.entry_zip_new (z3_new a b c xs ys zs) ⟨ta, tb, tc, ?_⟩
  have n1 : (zh1 s.heap a).objs.size = s.heap.objs.size + 1 := Heap.size_push ..
  have n2 : (zh2 s.heap a b).objs.size = s.heap.objs.size + 2 := by rw [Heap.size_push, n1]
  have n3 : (zh3 s.heap a b c).objs.size = s.heap.objs.size + 3 := by rw [Heap.size_push, n2]
  have n4 : (zh4 s.heap a b c).objs.size = s.heap.objs.size + 4 := by rw [Heap.size_push, n3]
  have n5 : (zh5 s.heap a b c).objs.size = s.heap.objs.size + 5 := by rw [Heap.size_push, n4]
  have n6 : (zh6 s.heap a b c).objs.size = s.heap.objs.size + 6 := by rw [Heap.size_push, n5]
  have g6 : (zh6 s.heap a b c).get? (zh5 s.heap a b c).objs.size = some _ := Heap.get?_push_size _ rfl
  have g5 : (zh6 s.heap a b c).get? (zh4 s.heap a b c).objs.size = some _ := Heap.get?_push_of_some _ (Heap.get?_push_size _ rfl)
  have g4 : (zh6 s.heap a b c).get? (zh3 s.heap a b c).objs.size = some _ := Heap.get?_push_of_some _ (Heap.get?_push_of_some _ (Heap.get?_push_size _ rfl))
  have g3 : (zh6 s.heap a b c).get? (zh2 s.heap a b).objs.size = some _ := Heap.get?_push_of_some _ (Heap.get?_push_of_some _ (Heap.get?_push_of_some _ (Heap.get?_push_size _ rfl)))
  have g2 : (zh6 s.heap a b c).get? (zh1 s.heap a).objs.size = some _ := Heap.get?_push_of_some _ (Heap.get?_push_of_some _ (Heap.get?_push_of_some _ (Heap.get?_push_of_some _ (Heap.get?_push_size _ rfl))))
  have g1 : (zh6 s.heap a b c).get? s.heap.objs.size = some _ := Heap.get?_push_of_some _ (Heap.get?_push_of_some _ (Heap.get?_push_of_some _ (Heap.get?_push_of_some _ (Heap.get?_push_of_some _ (Heap.get?_push_size _ rfl)))))
  show _ ∧ _
  rw [n3, n4, n5] at g6
  rw [n4] at g5
  rw [n1, n2, n3] at g4
  rw [n2] at g3
  rw [n1] at g2
  rw [n5]
  exact ⟨⟨_, g6, rfl⟩, q _ ⟨g6, g4, g5, ⟨_, g1, rfl, rfl⟩, ⟨_, g2, rfl, rfl⟩, ⟨_, g3, rfl, rfl⟩⟩ n6 fun e o y =>
    Heap.get?_push_of_some _ (Heap.get?_push_of_some _ (Heap.get?_push_of_some _ (Heap.get?_push_of_some _ (Heap.get?_push_of_some _ (Heap.get?_push_of_some _ y)))))⟩
end
end Mp

/-! zip of three tuples, walked; tuples of the module walked. -/
namespace Mp
open PySem PySem.Spec PyProof.Rows L2 RZ

/-- the tuples at a, b, c as they stand at each turn -/
def It3 (K : PySem.W.Frag) (a b c : Addr) : It :=
  ⟨fun i H => ∃ (xs ys zs : List V) (x y z : V), SqT K H a xs ∧ SqT K H b ys ∧ SqT K H c zs ∧ xs[i]? = some x ∧ ys[i]? = some y ∧ zs[i]? = some z,
    fun i H v H' => ∃ T x y z, v = .ref T ∧ H T = none ∧ H' = upd H T (.tup [x, y, z]) ∧ (∀ xs, SqT K H a xs → xs[i]? = some x) ∧ (∀ ys, SqT K H b ys → ys[i]? = some y) ∧ ∀ zs, SqT K H c zs → zs[i]? = some z,
    fun i H => ∃ xs : List V, SqT K H a xs ∧ xs.length ≤ i⟩
theorem six_of {n e : Nat} : e ∈ [n + 5, n + 3, n + 4, n, n + 1, n + 2] ↔ six n e := by
  unfold six
  simp only [List.mem_cons, List.not_mem_nil, or_false]
  omega
theorem turn3 {P : Program} {w : World} {K : PySem.W.Frag} {elts : List Expr} {kk : Nat} {tpos : Pos} {n a b c : Nat} (la : a < n) (lb : b < n) (lc : c < n) :
    Turn P w K (.Tuple elts kk tpos) (It3 K a b c) [n + 5, n + 3, n + 4, n, n + 1, n + 2] (n + 5) (fun i h => ∃ x y z, Z3 n a b c i x y z .none h) where
  mem := by simp
  obj := fun i h st e he => by
    obtain ⟨x, y, z, s1, s2, s3, ⟨o1, e1, _, d1⟩, ⟨o2, e2, _, d2⟩, ⟨o3, e3, _, d3⟩⟩ := st
    simp only [List.mem_cons, List.not_mem_nil, or_false] at he
    rcases he with q | q | q | q | q | q
    · rw [q]; exact ⟨_, s1, fun v q => nomatch q⟩
    · rw [q]; exact ⟨_, s2, fun v q => nomatch q⟩
    · rw [q]; exact ⟨_, s3, fun v q => nomatch q⟩
    · rw [q]; exact ⟨o1, e1, fun v q => by rw [d1] at q; cases q⟩
    · rw [q]; exact ⟨o2, e2, fun v q => by rw [d2] at q; cases q⟩
    · rw [q]; exact ⟨o3, e3, fun v q => by rw [d3] at q; cases q⟩
  keep := fun i h h' st k => by
    obtain ⟨x, y, z, s1, s2, s3, j1, j2, j3⟩ := st
    exact ⟨x, y, z, k _ (by simp) _ s1, k _ (by simp) _ s2, k _ (by simp) _ s3, j1.at fun o q => k _ (by simp) o q, j2.at fun o q => k _ (by simp) o q, j3.at fun o q => k _ (by simp) o q⟩
  item := by
    intro X hP hw hK hc i pins s σ H E I hf st hg
    subst hP hw hK
    obtain ⟨x0, y0, z0, st⟩ := st
    obtain ⟨xs, ys, zs, x, y, z, q1, q2, q3, e1, e2, e3⟩ := hg
    obtain ⟨us, rv, p1, _⟩ := I.tuple q1
    obtain ⟨us2, rv2, p2, _⟩ := I.tuple q2
    obtain ⟨us3, rv3, p3, _⟩ := I.tuple q3
    obtain ⟨u, hu, ru⟩ := rv.get e1
    obtain ⟨u2, hu2, ru2⟩ := rv2.get e2
    obtain ⟨u3, hu3, ru3⟩ := rv3.get e3
    have zl : n + 5 < s.heap.objs.size := Heap.lt_size st.zip
    refine z3_pyNext st la lb lc p1 p2 p3 (x := u) (y := u2) (z := u3) (by simpa using hu) (by simpa using hu2) (by simpa using hu3) fun h1 st1 t1 sz hk => ?_
    refine ⟨_, rfl, wpAny_letOwnedTupleGo_zip (s := { s with heap := h1 }) st1.zip fun h2 z2 sb => ?_⟩
    have ne : s.heap.objs.size ≠ n + 5 := Nat.ne_of_gt zl
    have t2 : h2.get? s.heap.objs.size = some { cls := .type "tuple", data := .seq #[u, u2, u3] } := (sb.2 _ ne).trans t1
    have new : ObjOk X.prog X.w (upd H s.heap.objs.size (.tup [x, y, z])) h2 s.heap.objs.size (.tup [x, y, z]) :=
      ⟨by show 3 ≤ sizeLine; decide, [u, u2, u3], .cons ru (.cons ru2 (.cons ru3 .nil)), ⟨_, t2, rfl, _, rfl⟩⟩
    have I1 : Inv X pins σ (upd H s.heap.objs.size (.tup [x, y, z])) { s with heap := h2 } :=
      I.turnedNew (t' := s.toks) (ch := [n + 5, n + 3, n + 4, n, n + 1, n + 2]) (fun e o hb q => (sb.2 e (fun q' => hb (by simp [q']))).trans (hk e o (fun q' => hb (six_of.mpr q')) q)) hf (Nat.le_refl _) new
    have st2 : Z3 n a b c (i + 1) u u2 u3 .none h2 := ⟨z2, (sb.2 _ (by first | exact Nat.ne_of_lt (by omega) | exact Nat.ne_of_gt (by omega))).trans st1.ins, (sb.2 _ (by first | exact Nat.ne_of_lt (by omega) | exact Nat.ne_of_gt (by omega))).trans st1.out,
      st1.i1.at fun o q => (sb.2 _ (by first | exact Nat.ne_of_lt (by omega) | exact Nat.ne_of_gt (by omega))).trans q, st1.i2.at fun o q => (sb.2 _ (by first | exact Nat.ne_of_lt (by omega) | exact Nat.ne_of_gt (by omega))).trans q,
      st1.i3.at fun o q => (sb.2 _ (by first | exact Nat.ne_of_lt (by omega) | exact Nat.ne_of_gt (by omega))).trans q⟩
    refine ⟨.ref s.heap.objs.size, _, I1, rfl, ⟨_, x, y, z, rfl, I.hok.fresh (Nat.le_refl _), rfl, fun l hl => by rw [I.tuple_inj hl q1]; exact e1, fun l hl => by rw [I.tuple_inj hl q2]; exact e2, fun l hl => by rw [I.tuple_inj hl q3]; exact e3⟩, ⟨_, _, _, st2⟩, fun e he => ?_⟩
    have lt : e < s.heap.objs.size := Nat.lt_of_le_of_lt (six_of.mp he).2 zl
    rw [upd_ne (Nat.ne_of_lt lt)]
    exact (hf e he).1
  done := by
    intro X hP hw hK hc i pins s σ H E I hf st hg
    subst hP hw hK
    obtain ⟨x0, y0, z0, st⟩ := st
    obtain ⟨xs, q1, hl⟩ := hg
    obtain ⟨us, rv, p1, _⟩ := I.tuple q1
    have l1 := rv.length
    exact z3_pyEnd (I.ok.hd hc) st la p1 (by simp; omega) fun h' hk => ⟨rfl, I.turnedL (t' := s.toks) (ch := [n + 5, n + 3, n + 4, n, n + 1, n + 2]) (fun e o hb q => hk e o (fun q' => hb (six_of.mpr q')) q) hf⟩
  self := fun A i s Q E st h => by
    obtain ⟨_, _, _, st⟩ := st
    exact wpAny_pyIter_zip st.zip h
def iZip3 (K : PySem.W.Frag) (ta : TA) : TI := fun σ H R => ta σ H fun vs H1 => ∃ a b c xs ys zs, vs = [.ref a, .ref b, .ref c] ∧ SqT K H1 a xs ∧ SqT K H1 b ys ∧ SqT K H1 c zs ∧ R (It3 K a b c) H1
theorem pi_zip3 {X : Cx} {e e2 e3 : Expr} {ta : TA} {p pos tpos : Pos} {elts : List Expr} {kk : Nat} (hg : Gl X "zip") (hm : X.mg "zip" = none) (ha : PA X [e, e2, e3] ta)
    (hs : starEach [e, e2, e3] X.env = (false, eval e X.env) :: starEach [e2, e3] X.env) (hpl : (backTo pos (starEach [e2, e3] X.env)).any (·.1) = false) :
    PI X (.Tuple elts kk tpos) (.Call (.Name "zip" p) [e, e2, e3] [] pos) (iZip3 X.K ta) := by
  refine ⟨fun pins s σ H R I h => ?_⟩
  refine Call_ (ld_blt I hg hm PyProof.Rows.boot_zip (PyProof.Rows.callWith_type1 (thn (ha.run pos pins s σ H _ I h) fun us s1 ⟨vs, H1, I1, r1, q1⟩ => ?_) hs hpl))
  obtain ⟨a, b, c, xs, ys, zs, rfl, t1, t2, t3, q⟩ := q1
  obtain ⟨rfl⟩ : us = [.ref a, .ref b, .ref c] := by
    cases r1 with
    | cons ra rr => cases rr with
      | cons rb rr => cases rr with
        | cons rc rr =>
          cases rr
          cases ra
          cases rb
          cases rc
          rfl
  obtain ⟨us1, rv1, p1, _⟩ := I1.tuple t1
  obtain ⟨us2, rv2, p2, _⟩ := I1.tuple t2
  obtain ⟨us3, rv3, p3, _⟩ := I1.tuple t3
  obtain ⟨o1, ho1, _⟩ := id p1
  obtain ⟨o2, ho2, _⟩ := id p2
  obtain ⟨o3, ho3, _⟩ := id p3
  refine z3_call (show s1.heap.IsTuple a us1.toArray from p1) (show s1.heap.IsTuple b us2.toArray from p2) (show s1.heap.IsTuple c us3.toArray from p3) fun h' st sz hk => wpAny_pyIter_zip st.zip ?_
  have I2 : Inv X pins σ H1 { s1 with heap := h' } := I1.kept (t' := s1.toks) hk
  refine ⟨s1.heap.objs.size + 5, [s1.heap.objs.size + 5, s1.heap.objs.size + 3, s1.heap.objs.size + 4, s1.heap.objs.size, s1.heap.objs.size + 1, s1.heap.objs.size + 2], _, _, H1, rfl, I2, turn3 (Heap.lt_size ho1) (Heap.lt_size ho2) (Heap.lt_size ho3), ⟨_, _, _, st⟩, fun e he => ?_, q⟩
  have le : s1.heap.objs.size ≤ e := (six_of.mp he).1
  exact I1.fpOk le (I1.hok.fresh le)

section
variable {ω : Wk} {C : Cl} {σ : L2.St} {H : Hp} {X : Cx} {K : PySem.W.Frag} {mg : Mg} {R : Addr → Prop} {c : List Addr} {M : Cs} {a b e : Addr} {ds es fs : List D} {ws : List Nat}
/-- the tuple at a, wherever it is told -/
def RowK (K : PySem.W.Frag) (mg : Mg) (R : Addr → Prop) (H : Hp) (c : List Addr) (M : Cs) (a : Addr) (ds : List D) : Prop := ∀ R' H' c' M', CM mg R' H' c' M' → Gr H (Lv R c M) c H' (Lv R' c' M') c' → ∃ vs, SqT K H' a vs ∧ RpL mg H' (Lv R' c' M') c' ds vs
theorem RowT.k (h : RowT mg R H c M a ds) : RowK K mg R H c M a ds := fun R' H' c' M' m g => let ⟨vs, h1, h2⟩ := h R' H' c' M' m g; ⟨vs, SqT.of h1, h2⟩
theorem wkd_k (h : RowK K mg R H c M a ds) : Wkd mg R H c M (Itt K a) ds ws where
  go := fun R' H' c' M' i m g w hi => by
    obtain ⟨vs, h1, h2⟩ := h R' H' c' M' m g
    exact ⟨vs, vs[i]'(by rw [h2.len]; exact hi), h1, List.getElem?_eq_getElem _⟩
  stop := fun R' H' c' M' m g w => by
    obtain ⟨vs, h1, h2⟩ := h R' H' c' M' m g
    exact ⟨vs, h1, by rw [h2.len]; exact Nat.le_refl _⟩
  yld := fun R' H' c' M' i x H'' m g w hi q => by
    obtain ⟨rfl, q⟩ := q
    obtain ⟨vs, h1, h2⟩ := h R' _ c' M' m g
    obtain ⟨d, e1, e2⟩ := h2.get' (q vs h1)
    exact ⟨d, e1, Aft.refl m, e2⟩
theorem wkd_zipK (h : RowK K mg R H c M a ds) (k : RowK K mg R H c M b es) : Wkd mg R H c M (RZ.ItzT K a b) (zipD ds es) ws where
  go := fun R' H' c' M' i m g w hi => by
    obtain ⟨vs, h1, h2⟩ := h R' H' c' M' m g
    obtain ⟨zs, k1, k2⟩ := k R' H' c' M' m g
    rw [zip_len] at hi
    exact ⟨vs, zs, vs[i]'(by rw [h2.len]; omega), zs[i]'(by rw [k2.len]; omega), h1, k1, by simp, by simp⟩
  stop := fun R' H' c' M' m g w => by
    obtain ⟨vs, h1, h2⟩ := h R' H' c' M' m g
    obtain ⟨zs, k1, k2⟩ := k R' H' c' M' m g
    exact ⟨vs, zs, h1, k1, by rw [h2.len, k2.len, zip_len]; omega⟩
  yld := fun R' H' c' M' i x H'' m g w hi q => by
    obtain ⟨T, z1, z2, rfl, hT, rfl, q1, q2⟩ := q
    obtain ⟨vs, h1, h2⟩ := h R' H' c' M' m g
    obtain ⟨zs, k1, k2⟩ := k R' H' c' M' m g
    obtain ⟨d, e1, e2⟩ := h2.get' (q1 vs h1)
    obtain ⟨e, f1, f2⟩ := k2.get' (q2 zs k1)
    obtain ⟨g1, g2⟩ := pair_new (H' := H') m hT e2 f2
    exact ⟨.tup [d, e], zip_get e1 f1, g1, g2⟩
theorem wkd_zip3 (h : RowK K mg R H c M a ds) (k : RowK K mg R H c M b es) (l : RowK K mg R H c M e fs) (l1 : ds.length = es.length) (l2 : ds.length = fs.length) : Wkd mg R H c M (It3 K a b e) (zip3D ds es fs) ws where
  go := fun R' H' c' M' i m g w hi => by
    obtain ⟨vs, h1, h2⟩ := h R' H' c' M' m g
    obtain ⟨us, k1, k2⟩ := k R' H' c' M' m g
    obtain ⟨zs, j1, j2⟩ := l R' H' c' M' m g
    have hi : i < ds.length := by simp [zip3D] at hi; omega
    exact ⟨vs, us, zs, vs[i]'(by rw [h2.len]; omega), us[i]'(by rw [k2.len]; omega), zs[i]'(by rw [j2.len]; omega), h1, k1, j1, by simp, by simp, by simp⟩
  stop := fun R' H' c' M' m g w => by
    obtain ⟨vs, h1, h2⟩ := h R' H' c' M' m g
    exact ⟨vs, h1, by rw [h2.len]; simp [zip3D]; omega⟩
  yld := fun R' H' c' M' i x H'' m g w hi q => by
    obtain ⟨T, x, y, z, rfl, hT, rfl, q1, q2, q3⟩ := q
    obtain ⟨vs, h1, h2⟩ := h R' H' c' M' m g
    obtain ⟨us, k1, k2⟩ := k R' H' c' M' m g
    obtain ⟨zs, j1, j2⟩ := l R' H' c' M' m g
    obtain ⟨d1, e1, r1⟩ := h2.get' (q1 vs h1)
    obtain ⟨d2, e2, r2⟩ := k2.get' (q2 us k1)
    obtain ⟨d3, e3, r3⟩ := j2.get' (q3 zs j1)
    refine ⟨.tup [d1, d2, d3], ?_, ⟨Stp.new m hT, m.new hT⟩, ?_⟩
    · rw [zip3D, List.getElem?_map, List.getElem?_zip_eq_some (z := (d1, (d2, d3))) |>.mpr ⟨e1, List.getElem?_zip_eq_some (z := (d2, d3)) |>.mpr ⟨e2, e3⟩⟩]
      rfl
    · simp only [Rp]
      exact ⟨T, [x, y, z], rfl, upd_same, m.fresh hT, RpL.mono (Stp.new m hT).gr _ (RpL.cons r1 (RpL.cons r2 (RpL.cons r3 RpL.nil)))⟩
theorem tupI_row {x : D} {v : V} (m : CM mg R H c M) (r : Rp mg H (Lv R c M) c x v) (e1 : tupI x = some ds) : ∃ a, v = .ref a ∧ RowK K mg R H c M a ds := by
  cases x <;> simp only [tupI, reduceCtorEq, Option.some.injEq] at e1
  subst e1
  simp only [Rp] at r
  obtain ⟨a, vs, rfl, h1, h2, h3⟩ := r
  exact ⟨a, rfl, fun R' H' c' M' m' g => ⟨vs, SqT.of (g.keep a _ h1 h2).1, h3.mono g⟩⟩
theorem RowK.here (m : CM mg R H c M) (h : RowK K mg R H c M a ds) : ∃ vs, SqT K H a vs := let ⟨vs, h1, _⟩ := h R H c M m (Stp.refl R H c M).gr; ⟨vs, h1⟩
theorem i_zip3 {x y z : ME} {Q : It → Hp → Prop} (h : tI ω (evI C (.zip3 x y z)) σ H Q) : iZip3 K (tCons (tE ω (evE C x)) (tCons (tE ω (evE C y)) (tCons (tE ω (evE C z)) tNil))) σ H Q := by
  obtain ⟨R, c, σd, M, m, rs, h⟩ := h
  rw [evI] at h
  refine ⟨R, c, σd, M, m, rs, h.bind fun d1 M1 v1 H1 c1 a1 r1 h1 => ⟨R, c1, σd, M1, a1.2, rs.mono a1.1.gr, h1.bind fun d2 M2 v2 H2 c2 a2 r2 h2 => ⟨R, c2, σd, M2, a2.2, (rs.mono a1.1.gr).mono a2.1.gr, h2.bind fun d3 M3 v3 H3 c3 a3 r3 h3 => ?_⟩⟩⟩
  obtain ⟨d, e, h4⟩ := h3.opt
  simp only [Option.bind_eq_some_iff] at e
  obtain ⟨xs, e1, ys, e2, zs, e3, e⟩ := e
  split at e
  · rename_i l
    cases e
    obtain ⟨p, rfl, w1⟩ := tupI_row (K := K) a3.2 (Rp.mono a3.1.gr _ (Rp.mono a2.1.gr _ r1)) e1
    obtain ⟨q, rfl, w2⟩ := tupI_row (K := K) a3.2 (Rp.mono a3.1.gr _ r2) e2
    obtain ⟨u, rfl, w3⟩ := tupI_row (K := K) a3.2 r3 e3
    obtain ⟨vs, g1⟩ := w1.here a3.2
    obtain ⟨us, g2⟩ := w2.here a3.2
    obtain ⟨ts, g3⟩ := w3.here a3.2
    exact ⟨p, q, u, vs, us, ts, rfl, g1, g2, g3, h4 _ H3 c3 (Aft.refl a3.2) (wkd_zip3 w1 w2 w3 l.1 l.2)⟩
  · cases e
/-- a tuple of the module: every state knows it -/
def KTup (K : PySem.W.Frag) (a : Addr) (ds : List D) : Prop := ∃ vs, (∀ H, SqT K H a vs) ∧ ∀ mg H U c, RpL mg H U c ds vs
theorem KTup.row (k : KTup K a ds) : RowK K mg R H c M a ds := fun _ H' _ _ _ _ => let ⟨vs, h1, h2⟩ := k; ⟨vs, h1 H', h2 _ _ _ _⟩
theorem i_ktup {x : Str} {Q : It → Hp → Prop} (k : KTup K a ds) (h : tI ω (evI C (.ktup x ds)) σ H Q) : iTup K (tC (.ref a)) σ H Q := by
  obtain ⟨R, c, σd, M, m, rs, h⟩ := h
  rw [evI] at h
  exact ⟨a, rfl, let ⟨vs, h1, _⟩ := k; ⟨vs, h1 H⟩, h _ H c (Aft.refl m) (wkd_k k.row)⟩
theorem i_kzip {x : Str} {y : ME} {Q : It → Hp → Prop} (k : KTup K a ds) (h : tI ω (evI C (.kzip x ds y)) σ H Q) : RZ.iZipA K (tCons (tC (.ref a)) (tCons (tE ω (evE C y)) tNil)) σ H Q := by
  obtain ⟨R, c, σd, M, m, rs, h⟩ := h
  rw [evI] at h
  refine ⟨R, c, σd, M, m, rs, h.bind fun d1 M1 v1 H1 c1 a1 r1 h1 => ?_⟩
  obtain ⟨d, e, h4⟩ := h1.opt
  simp only [Option.map_eq_some_iff] at e
  obtain ⟨xs, e1, rfl⟩ := e
  obtain ⟨p, rfl, w1⟩ := tupI_row (K := K) a1.2 r1 e1
  obtain ⟨vs, g1⟩ := w1.here a1.2
  obtain ⟨us, h1, _⟩ := id k
  exact ⟨a, p, us, vs, rfl, .inr ⟨h1 _, g1, h4 _ H1 c1 (Aft.refl a1.2) (wkd_zipK k.row w1)⟩⟩
end
end Mp

/-! {**a, k: v} where the keys are tuples. -/
namespace Mp
open PySem PySem.Spec PyProof.Rows L2
section
variable {prog : Program} {w : World} {K : Type} [DecidableEq K] {knd : HeapKind prog w K} {A : Around} {E : Value → Shared → Prop} {s : Shared}
theorem dictPut_H {d a : Addr} {xs : List (K × Addr × Value)} {k : K} {v : Value} {Q : Unit → Shared → Prop} (room : knd.room A) (hk : knd.is s.heap k a) (hm : s.heap.DictOfH knd d xs) (hz : xs.length ≤ sizeLine)
    (q : ∀ h', h'.DictOfH knd d (storedH xs k a v) → Heap.SameBut d s.heap h' → Q () { s with heap := h' }) : wpAny (model prog w) A (dictPut d (knd.hash k) (.ref a) v) Q E s := by
  obtain ⟨o, es, ep, at_, ex, hd, en, is, nd⟩ := hm
  unfold dictPut
  refine wpAny_bind (wpAny_dictFind_heap room hk at_ hd en is nd (fun no => ?_) fun j p hj => ?_)
  · have out : k ∉ xs.map (·.1) := not_mem_keys_of_get no
    refine wpAny_updateDictKeys (hz := by have e := size_of_entries en; omega) at_ hd (q _ ⟨_, _, ep + 1, Heap.get?_update_self _ at_ (Obj.isFreed_of_dict (Obj.data_mapDictKeys hd _)), ex.mapDictKeys _, Obj.data_mapDictKeys hd _, ?_, ?_, ?_⟩ (Heap.SameBut.update ..))
    · rw [storedH_new (atKey_none_of_get no)]
      simp [en, entryOfKey]
    · rw [storedH_new (atKey_none_of_get no)]
      intro x hx
      rcases List.mem_append.mp hx with hx | hx
      · exact knd.keeps (is x hx) at_ hd (Heap.SameBut.update ..)
      · obtain rfl := List.mem_singleton.mp hx
        exact knd.keeps hk at_ hd (Heap.SameBut.update ..)
    · rw [storedH_new (atKey_none_of_get no), List.map_append, List.nodup_append]
      refine ⟨nd, by simp, fun x hx y hy e => ?_⟩
      obtain rfl := List.mem_singleton.mp (by simpa using hy)
      exact out (e ▸ hx)
  · refine wpAny_updateDict at_ hd (q _ ⟨_, _, ep, Heap.get?_update_self _ at_ (Obj.isFreed_of_dict (Obj.data_mapDict hd _)), ex.mapDict _, Obj.data_mapDict hd _, ?_, ?_, ?_⟩ (Heap.SameBut.update ..))
    · rw [storedH_old (atKey_of_get nd hj)]
      have := modify_map_putAt (entryOfKey knd) (fun e : DictEntry => { e with val := v }) k v (fun _ _ => rfl) nd hj
      rw [← en] at this
      obtain ⟨l⟩ := es
      simpa using this
    · rw [storedH_old (atKey_of_get nd hj)]
      intro x hx
      obtain ⟨y, hy, rfl⟩ := List.mem_map.mp hx
      unfold putAt
      split <;> exact knd.keeps (is y hy) at_ hd (Heap.SameBut.update ..)
    · rw [storedH_old (atKey_of_get nd hj), keys_map_putAt]
      exact nd
theorem merge_H {d o : Addr} {kvs more : List (K × Addr × Value)} {Q : Unit → Shared → Prop} (room : knd.room A) (ne : d ≠ o) (noS : (o == sysModules) = false) (hd : s.heap.DictOfH knd d kvs) (ho : s.heap.DictOfH knd o more)
    (ap : kvs ≠ [] ∨ ((∀ x ∈ more, s.TypeIs (.ref x.2.1) "tuple") ∧ (more.map fun x => knd.hash x.1).Nodup)) (hz : kvs.length + more.length ≤ sizeLine)
    (q : ∀ h', h'.DictOfH knd d (storedAllH kvs more) → h'.DictOfH knd o more → Heap.SameBut d s.heap h' → Q () { s with heap := h' }) : wpAny (model prog w) A (mergeMapping d (.ref o) false) Q E s := by
  obtain ⟨od, esd, epd, d1, d2, d3, d4, d5, d6⟩ := id hd
  obtain ⟨oo, eso, epo, o1, o2, o3, o4, o5, o6⟩ := id ho
  have hl : eso.size = more.length := size_of_entries o4
  unfold mergeMapping
  refine wpAny_bind (wpAny_isInstance (U := "dict") ho.typeIs (b := true) (by with_unfolding_all rfl) ?_)
  rw [if_pos rfl]
  refine wpAny_bind (wpAny_specialOf ho.typeIs F.slot_dict_iter.lookup (wpAny_bind (wpAny_pure ?_)))
  simp only [beq_self_eq_true]
  rw [if_neg (by rw [noS]; exact Bool.false_ne_true)]
  have loop : wpAny (model prog w) A (do
      let size := (← dictEntries o).size
      let epoch ← dictEpoch o
      forIn (List.range size) PUnit.unit fun i (_ : PUnit) => (do
          let l' ← dictEntries o
          match l'[i]? with
            | some e => do
              holding [e.key, e.val] (dictPut d e.hash e.key e.val)
              let ep' ← dictEpoch o
              if (ep' != epoch) = true then do
                  (unsupported "dict.changed-during-merge" : Sem PUnit)
                  pure (ForInStep.yield PUnit.unit)
                else pure (ForInStep.yield PUnit.unit)
            | _ => do
              (unsupported "dict.changed-during-merge" : Sem PUnit)
              pure (ForInStep.yield PUnit.unit) : Sem (ForInStep PUnit))
      pure ()) Q E s := by
    refine wpAny_bind (wpAny_dictEntries o1 o3 (wpAny_bind (wpAny_dictEpoch o1 o3 (wpAny_bind ?_))))
    rw [List.range_eq_range']
    refine wpAny_forIn_list _
      (fun rest _ s' => ∃ h' i, s' = { s with heap := h' } ∧ rest = List.range' i (eso.size - i) ∧ i ≤ eso.size ∧ h'.DictOfH knd d (storedAllH kvs (more.take i)) ∧ h'.DictOfH knd o more ∧ h'.get? o = some oo ∧ Heap.SameBut d s.heap h')
      _ ?_ ?_ _ _ ⟨s.heap, 0, rfl, by simp, Nat.zero_le _, by simpa [storedAllH] using hd, ho, o1, Heap.SameBut.refl _ _⟩
    · rintro x rest b s' ⟨h1, i, rfl, hr, hi, a1, a2, a3, a4⟩
      have lt : i < eso.size := by
        rcases Nat.lt_or_ge i eso.size with h | h
        · exact h
        · rw [Nat.sub_eq_zero_of_le h] at hr; simp at hr
      rw [show eso.size - i = (eso.size - (i + 1)) + 1 by omega, List.range'_succ] at hr
      injection hr with e1 hr
      subst e1
      refine wpAny_bind (wpAny_dictEntries a3 o3 ?_)
      have hkv : more[x]? = some (more[x]'(by omega)) := List.getElem?_eq_getElem _
      generalize more[x]'(by omega) = kv at hkv
      obtain ⟨k, a, v⟩ := kv
      rw [entry_at o4 x, hkv]
      show wpAny _ _ (holding [.ref a, v] (dictPut d (knd.hash k) (.ref a) v) >>= _) _ _ _
      have mz : (storedAllH kvs (more.take x)).length ≤ sizeLine := by
        have e1 := storedAllH_length (more.take x) kvs
        have e2 : (more.take x).length ≤ more.length := by rw [List.length_take]; omega
        omega
      have ik : knd.is h1 k a := by
        obtain ⟨_, _, _, _, _, _, _, z, _⟩ := a2
        exact z (k, a, v) (List.mem_of_getElem? hkv)
      refine wpAny_bind (wpAny_holding (dictPut_H (s := { s with heap := h1 }) room ik a1 mz fun h2 b1 b2 => ?_))
      have b3 : h2.get? o = some oo := (b2.2 o (Ne.symm ne)).trans a3
      refine wpAny_bind (wpAny_dictEpoch b3 o3 ?_)
      rw [if_neg (by simp)]
      exact wpAny_pure ⟨h2, x + 1, rfl, hr, lt, by rw [storedAllH_take_succ kvs more x (k, a, v) hkv]; exact b1, a2.notHere a1 ne b2, b3, a4.trans b2⟩
    · rintro b s' ⟨h1, i, rfl, hr, hi, a1, a2, a3, a4⟩
      have e : i = eso.size := by
        rcases Nat.lt_or_ge i eso.size with h | h
        · rw [show eso.size - i = (eso.size - (i + 1)) + 1 by omega, List.range'_succ] at hr
          exact nomatch hr
        · exact Nat.le_antisymm hi h
      rw [e, hl, List.take_length] at a1
      exact wpAny_pure (q h1 a1 a2 a4)
  refine wpAny_bind (wpAny_dictEntries d1 d3 ?_)
  split
  · rename_i emp
    have k0 : kvs = [] := by
      have h0 : esd = #[] := Array.isEmpty_iff.mp emp
      have := size_of_entries d4
      rw [h0] at this
      exact List.length_eq_zero_iff.mp (by simpa using this.symm)
    obtain ⟨t1, t2⟩ := ap.resolve_left fun h => h k0
    refine wpAny_bind (wpAny_dictEntries o1 o3 (wpAny_bind ?_))
    rw [← Array.forIn_toList]
    refine wpAny_forIn_list _ (fun rest _ s' => s' = s ∧ ∀ e ∈ rest, PySem.KeyApart s eso e) _ ?_ ?_ _ _ ⟨rfl, PySem.keysApart o4 t1 t2⟩
    · rintro e rest b s' ⟨rfl, all⟩
      have more' : ∀ x ∈ rest, PySem.KeyApart s' eso x := fun x hx => all x (List.mem_cons_of_mem _ hx)
      rcases all e List.mem_cons_self with hv | ⟨a, hk, hT, one⟩
      · cases hk : e.key <;> first | exact wpAny_pure ⟨rfl, more'⟩ | (rw [hk] at hv; cases hv)
      · rw [hk]
        dsimp only
        refine wpAny_bind (wpAny_specialOf hT F.slot_tuple_eq.lookup ?_)
        rw [if_pos (by decide), if_neg (by omega)]
        exact wpAny_pure ⟨rfl, more'⟩
    · rintro b s' ⟨rfl, _⟩
      exact loop
  · exact loop
end
section
variable {X : Cx} {pins : List (Addr × Obj)} {σ : L2.St} {H : Hp} {s : Shared} {A : Around} {E : Value → Shared → Prop}
/-- no two keys of one hash, in every world -/
def Apart (kvs : List (List Key × V)) : Prop := ∀ (P : Program) (w : World), (kvs.map fun p => tupleKeyHash (mixKind P w) p.1).Nodup
theorem kt_puts {kvs more : List (List Key × V)} {xs ys : List (List Key × Addr × Value)} (r1 : KT H kvs xs) (r2 : KT H more ys) : KT H (more.foldl (fun l p => putK l p.1 p.2) kvs) (storedAllH xs ys) := by
  induction r2 generalizing kvs xs with
  | nil => exact r1
  | @cons p q ps qs h t ih =>
    obtain ⟨h1, h2, h3⟩ := h
    have := ih (r1.put p.1 h2 h3)
    rw [h1] at this
    show KT H (ps.foldl _ (putK kvs p.1 p.2)) (storedAllH (storedH xs q.1 q.2.1 q.2.2) qs)
    rw [h1]
    exact this
theorem putsK_len (kvs : List (List Key × V)) : ∀ more : List (List Key × V), (more.foldl (fun l p => putK l p.1 p.2) kvs).length ≤ kvs.length + more.length := by
  intro more
  induction more generalizing kvs with
  | nil => simp
  | cons p r ih =>
    have h1 := ih (putK kvs p.1 p.2)
    have h2 : (putK kvs p.1 p.2).length ≤ kvs.length + 1 := by
      unfold putK
      split <;> simp
    simp only [List.foldl_cons, List.length_cons]
    omega
theorem putsK_new : ∀ (more acc : List (List Key × V)), ((acc ++ more).map (·.1)).Nodup → more.foldl (fun l p => putK l p.1 p.2) acc = acc ++ more
  | [], acc, _ => by simp
  | p :: r, acc, h => by
    have hn : ¬ (acc.any fun kv => decide (kv.1 = p.1)) = true := fun e => by
      rw [List.any_eq_true] at e
      obtain ⟨kv, h1, h2⟩ := e
      rw [List.map_append, List.nodup_append] at h
      exact h.2.2 _ (List.mem_map.mpr ⟨kv, h1, rfl⟩) p.1 (by simp) (of_decide_eq_true h2)
    rw [List.foldl_cons, show putK acc p.1 p.2 = acc ++ [p] by unfold putK; rw [if_neg hn], putsK_new r (acc ++ [p]) (by simpa using h)]
    simp
theorem dt_nodup {kvs : List (List Key × V)} {d : Addr} (I : Inv X pins σ H s) (e : H d = some (.dT kvs)) : (kvs.map (·.1)).Nodup := by
  obtain ⟨z1, z2, xs, r, dd⟩ := dt_of I.hok e
  have e1 : kvs.map (·.1) = xs.map (·.1) := by
    clear dd e z1
    induction r with
    | nil => rfl
    | cons h t ih => rw [List.map_cons, List.map_cons, ih, h.1]
  rw [e1]
  exact dd.nodup
theorem merge_invT {d o : Addr} {kvs more : List (List Key × V)} {Q : Unit → Shared → Prop} (hu : A.units < cLine) (I : Inv X pins σ H s) (ed : H d = some (.dT kvs)) (eo : H o = some (.dT more)) (ne : d ≠ o) (ap : Apart more) (hz : kvs.length + more.length ≤ sizeLine)
    (q : ∀ s', Inv X pins σ (upd H d (.dT (more.foldl (fun l p => putK l p.1 p.2) kvs))) s' → Q () s') : wpAny (model X.prog X.w) A (mergeMapping d (.ref o) false) Q E s := by
  obtain ⟨z1, no1, xs, r1, d1⟩ := dt_of I.hok ed
  obtain ⟨z2, no2, ys, r2, d2⟩ := dt_of I.hok eo
  have l1 : kvs.length = xs.length := Paired.length r1
  have l2 : more.length = ys.length := Paired.length r2
  have hk : more.map (fun p => tupleKeyHash (mixKind X.prog X.w) p.1) = ys.map (fun x => (tupleKind (mixKind X.prog X.w)).hash x.1) := by
    clear d2 l2 z2 hz ap eo q
    induction r2 with
    | nil => rfl
    | cons h t ih =>
      rw [List.map_cons, List.map_cons, ih, h.1]
      rfl
  have ty : ∀ x ∈ ys, s.TypeIs (.ref x.2.1) "tuple" := by
    have key : ∀ {l : List (List Key × V)} {m : List (List Key × Addr × Value)}, KT H l m → ∀ x ∈ m, s.TypeIs (.ref x.2.1) "tuple" := by
      intro l m r
      induction r with
      | nil => intro x hx; cases hx
      | @cons p x' ps qs h t ih =>
        intro x hx
        rcases List.mem_cons.mp hx with rfl | hx
        · obtain ⟨_, its, rv, o, e1, e2, _⟩ := (show ObjOk X.prog X.w H s.heap x.2.1 (.tup (p.1.map kV)) from I.hok _ _ h.2.1)
          exact ⟨o, e1, e2⟩
        · exact ih x hx
    exact key r2
  refine merge_H (knd := tupleKind (mixKind X.prog X.w)) hu ne no2 d1 d2 (.inr ⟨ty, by rw [← hk]; exact ap _ _⟩) (by omega) fun h' a b c => q _ ?_
  obtain ⟨o1, es, ep, w1, w2, w3, w4, _, w5⟩ := a
  refine d_write I (by rw [ed]; trivial) c ⟨o1, w1⟩ ⟨?_, no1, _, (kt_puts r1 r2).keeps fun b ys z => ?_, o1, es, ep, w1, w2, w3, w4, w5⟩
  · have := putsK_len kvs more
    omega
  · have nb : b ≠ d := fun e => by rw [e, ed] at z; cases z
    rw [upd_ne nb]
    exact z
/-- {**a, k: v}: p the new dict, q the one beside -/
def tDPutT (td tk tv : TE) : TE := fun σ H Q => ∀ p, H p = none → td σ (upd H p (.dT [])) fun x H1 => ∃ a kvs, x = .ref a ∧ a ≠ p ∧ H1 p = some (.dT []) ∧ H1 a = some (.dT kvs) ∧ kvs.length < sizeLine ∧ Apart kvs ∧
  ∀ q, q ≠ p → (upd H1 p (.dT kvs)) q = none → tk σ (upd (upd H1 p (.dT kvs)) q (.dT [])) fun y H2 => tv σ H2 fun z H3 => H3 p = some (.dT kvs) ∧ H3 q = some (.dT []) ∧ ∃ κ b, y = .ref b ∧ H3 b = some (.tup (κ.map kV)) ∧ Q (.ref p) (upd (upd H3 q (.dT [(κ, z)])) p (.dT (putK kvs κ z)))
theorem apart_one (κ : List Key) (z : V) : Apart [(κ, z)] := fun P w => by simp
theorem pe_dputT {ea ek ev : Expr} {td tk tv : TE} {pos : Pos} (hu : X.A.units < cLine) (ha : PE X ea td) (hk : PE X ek tk) (hv : PE X ev tv) : PE X (.Dict [none, some ek] [ea, ev] pos) (tDPutT td tk tv) := by
  refine ⟨fun pins s σ H Q I q => ?_⟩
  rw [arm_eval_Dict]
  refine wpAny_bind (wpAny_standAt ?_)
  show wpAny _ _ (dictDisplay [(none, do let x ← eval ea X.env; standAt pos; pure x), (some (eval ek X.env), do let x ← eval ev X.env; standAt pos; pure x)]) _ _ s
  rw [dd_eq]
  refine wpAny_bind (wpAny_alloc ?_)
  have hn := I.hok.fresh (Nat.le_refl s.heap.objs.size)
  have I1 := I.laid (a := s.heap.objs.size) (o := .dT []) (h' := s.heap.push { cls := .type "dict", data := .dict #[] }) (t' := s.toks) (fun _ _ q => Heap.get?_push_of_some _ q) (Nat.le_refl _) (dt_empty s.heap I.big)
  generalize s.heap.objs.size = p at *
  refine wpAny_bind (wpAny_holding (wpAny_bind (thn (ha.run pins _ σ _ _ I1 (q _ hn)) fun u s1 ⟨x, H1, I2, rx, a, kvs, ex, ne, e1, e2, hl, ap, q2⟩ => ?_)))
  subst ex
  obtain rfl : u = Value.ref a := rx
  refine wpAny_bind (wpAny_standAt (wpAny_pure ?_))
  have em : kvs.foldl (fun l p => putK l p.1 p.2) [] = kvs := putsK_new kvs [] (by simpa using dt_nodup I2 e2)
  refine wpAny_bind (wpAny_onRaise (wpAny_tryCatch (wpAny_onRaise (wpAny_holding ?_))))
  refine merge_invT hu I2 e1 e2 (Ne.symm ne) ap (by simp; omega) fun s2 I3 => ?_
  rw [em] at I3
  have hn3 := I3.hok.fresh (Nat.le_refl s2.heap.objs.size)
  have hne : s2.heap.objs.size ≠ p := fun e => by
    rw [e, upd_same] at hn3; cases hn3
  have I4 := I3.laid (a := s2.heap.objs.size) (o := .dT []) (h' := s2.heap.push { cls := .type "dict", data := .dict #[] }) (t' := s2.toks) (fun _ _ q => Heap.get?_push_of_some _ q) (Nat.le_refl _) (dt_empty s2.heap I3.big)
  refine wpAny_bind (wpAny_holding ?_)
  have q2 := q2 _ hne hn3
  unfold subDict
  refine wpAny_bind (wpAny_alloc (wpAny_bind (wpAny_holding ?_)))
  generalize s2.heap.objs.size = qd at *
  rw [if_pos (by simp)]
  unfold evalPairs
  refine wpAny_bind (wpAny_bind (thn (hk.run pins _ σ _ _ I4 q2) fun u2 s3 ⟨y, H2, I5, ry, q3⟩ => ?_))
  refine wpAny_bind (wpAny_holding (wpAny_bind (thn (hv.run pins _ σ _ _ I5 q3) fun u3 s4 ⟨z, H3, I6, rz, f1, f2, κ, b, ey, eb, qq⟩ => wpAny_bind (wpAny_standAt (wpAny_pure ?_)))))
  subst ey
  obtain rfl : u2 = Value.ref b := ry
  unfold evalPairs
  refine wpAny_bind (wpAny_holding (wpAny_pure (wpAny_pure ?_)))
  refine wpAny_holding ?_
  simp only [List.forIn_cons, List.forIn_nil]
  refine wpAny_bind (wpAny_bind (wpAny_bind (d_lay hu I6 (DPut.t f2 eb (by rw [sizeLine_eq]; simp)) rfl rz fun s5 I7 => wpAny_pure (wpAny_pure (wpAny_pure (wpAny_pure ?_))))))
  have e0 : putK ([] : List (List Key × V)) κ z = [(κ, z)] := rfl
  rw [e0] at I7
  refine wpAny_bind (wpAny_onRaise (wpAny_holding ?_))
  refine merge_invT hu I7 (by rw [upd_ne (Ne.symm hne)]; exact f1) upd_same (Ne.symm hne) (apart_one κ z) (by simp; omega) fun s6 I8 => ?_
  exact wpAny_pure ⟨.ref p, _, I8, rfl, qq⟩
end
section
variable {mg : Mg} {R : Addr → Prop} {H H3 Hf : Hp} {c c3 : List Addr} {M M3 : Cs} {p q : Addr} {o1 o2 : HO}
/-- two addresses set aside -/
def side (R : Addr → Prop) (p q : Addr) : Addr → Prop := fun a => R a ∨ a = p ∨ a = q
def two (H : Hp) (p q : Addr) (o1 o2 : HO) : Hp := upd (upd H p o1) q o2
theorem two_ne {a : Addr} (h1 : a ≠ p) (h2 : a ≠ q) : two H p q o1 o2 a = H a := by unfold two; rw [upd_ne h2, upd_ne h1]
theorem some_ne {a : Addr} {o : HO} (h : H a = some o) (n : H p = none) : a ≠ p := fun e => by rw [e, n] at h; cases h
theorem side_gr (m : CM mg R H c M) (hp : H p = none) (hq : H q = none) : Gr H (Lv R c M) c (two H p q o1 o2) (Lv (side R p q) c M) c :=
  ⟨fun a o e n => ⟨by rw [two_ne (some_ne e hp) (some_ne e hq)]; exact e, fun z => by
    rcases z with (z | z | z) | z
    · exact n (.inl z)
    · exact some_ne e hp z
    · exact some_ne e hq z
    · exact n (.inr z)⟩, fun _ _ => rfl⟩
theorem side_cm (m : CM mg R H c M) (hp : H p = none) (hq : H q = none) (ne : q ≠ p) (n1 : ∀ vs, o1 ≠ .tup vs) (n2 : ∀ vs, o2 ≠ .tup vs) : CM mg (side R p q) (two H p q o1 o2) c M := by
  refine ⟨m.len, m.inj, fun n a l e z => ?_, fun a z => ?_, fun n d e => ?_, m.fre⟩
  · obtain ⟨d, ed⟩ := l
    obtain ⟨b, e1, e2⟩ := m.obj n d ed
    rw [e] at e1
    cases e1
    obtain ⟨o, e3⟩ := e2.at
    rcases z with z | z | z
    · exact m.nres n a ⟨d, ed⟩ e z
    · exact some_ne e3 hp z
    · exact some_ne e3 hq z
  · rcases z with z | rfl | rfl
    · obtain ⟨o, e, no⟩ := m.there a z
      exact ⟨o, by rw [two_ne (some_ne e hp) (some_ne e hq)]; exact e, no⟩
    · exact ⟨o1, by unfold two; rw [upd_ne (Ne.symm ne), upd_same], n1⟩
    · exact ⟨o2, by unfold two; rw [upd_same], n2⟩
  · obtain ⟨a, e1, e2⟩ := m.obj n d e
    obtain ⟨o, e3⟩ := e2.at
    exact ⟨a, e1, e2.mono (side_gr m hp hq) (two_ne (some_ne e3 hp) (some_ne e3 hq))⟩
theorem back_gr (eq : ∀ a, a ≠ p → a ≠ q → Hf a = H3 a) : Gr H3 (Lv (side R p q) c3 M3) c3 Hf (Lv R c3 M3) c3 :=
  ⟨fun a o e n => ⟨by rw [eq a (fun z => n (.inl (.inr (.inl z)))) (fun z => n (.inl (.inr (.inr z))))]; exact e, fun z => n (z.imp .inl id)⟩, fun _ _ => rfl⟩
theorem back_cm (m : CM mg (side R p q) H3 c3 M3) (nr : ¬ R p) (ns : ¬ R q) (eq : ∀ a, a ≠ p → a ≠ q → Hf a = H3 a) : CM mg R Hf c3 M3 := by
  refine ⟨m.len, m.inj, fun n a l e z => m.nres n a l e (.inl z), fun a z => ?_, fun n d e => ?_, m.fre⟩
  · obtain ⟨o, e, no⟩ := m.there a (.inl z)
    exact ⟨o, by rw [eq a (fun y => nr (y ▸ z)) (fun y => ns (y ▸ z))]; exact e, no⟩
  · obtain ⟨a, e1, e2⟩ := m.obj n d e
    have na := m.nres n a ⟨d, e⟩ e1
    exact ⟨a, e1, e2.mono (back_gr eq) (eq a (fun z => na (.inr (.inl z))) fun z => na (.inr (.inr z)))⟩
theorem back_stp (m : CM mg R H c M) (hp : H p = none) (hq : H q = none) (st : Stp (side R p q) (two H p q o1 o2) c M H3 c3 M3) (eq : ∀ a, a ≠ p → a ≠ q → Hf a = H3 a) : Stp R H c M Hf c3 M3 := by
  refine ⟨fun a o e n => ?_, st.pre, fun a r => ?_⟩
  · obtain ⟨k1, k2⟩ := (side_gr (o1 := o1) (o2 := o2) m hp hq).keep a o e n
    obtain ⟨k3, k4⟩ := st.keep a o k1 k2
    exact (back_gr eq).keep a o k3 k4
  · obtain ⟨o, e, _⟩ := m.there a r
    rw [eq a (some_ne e hp) (some_ne e hq), st.res a (.inl r), two_ne (some_ne e hp) (some_ne e hq)]
end
section
variable {ω : Wk} {C : Cl} {σ : L2.St} {H : Hp} {Q : VK}
theorem ExR.mono {mg : Mg} {H H' : Hp} {U U' : Addr → Prop} {c c' : List Addr} (g : Gr H U c H' U' c') {cls : Value} {dd : Option Addr} {e : D} (h : ExR mg H U c cls dd e) : ExR mg H' U' c' cls dd e := by
  cases e <;> simp only [ExR] at h ⊢
  obtain ⟨C, h1, h2, h3⟩ := h
  refine ⟨C, h1, h2, ?_⟩
  rcases h3 with h3 | ⟨f, q, w, g1, g2, g3, g4, g5⟩
  · exact .inl h3
  · obtain ⟨k3, k4⟩ := g.keep q _ g3 g4
    exact .inr ⟨f, q, w, g1, g2, k3, k4, RpL.mono g _ g5⟩
theorem hashes_ok {kvs : List (List Key × V)} {nss : List (List Int)} (h : rows? (kvs.map fun p => keyTD p.1) = some nss) (nd : (nss.map hashT).Nodup) : Apart kvs := by
  intro P w
  have e : kvs.map (fun p => tupleKeyHash (mixKind P w) p.1) = nss.map hashT := by
    clear nd
    induction kvs generalizing nss with
    | nil => cases h; rfl
    | cons p r ih =>
      simp only [List.map_cons, keyTD, rows?] at h
      split at h
      · rename_i ns ms h1 h2
        cases h
        rw [List.map_cons, List.map_cons, ih h2]
        congr 1
        unfold hashT tupleKeyHash
        congr 2
        clear h2 ih
        generalize p.1 = ks at h1
        induction ks generalizing ns with
        | nil => cases h1; rfl
        | cons k ks ih2 =>
          cases k with
          | inl i =>
            simp only [List.map_cons, keyD, ints?, Option.map_eq_some_iff] at h1
            obtain ⟨ms, h3, rfl⟩ := h1
            rw [List.map_cons, List.map_cons, ih2 _ h3]
            rfl
          | inr x => simp [keyD, ints?] at h1
      · cases h
  rw [e]
  exact nd
theorem s_dputT {i : Nat} {k v : ME} (h : tE ω (evE C (.dputT (.var i) k v)) σ H Q) : tDPutT (tVar i) (tE ω (evE C k)) (tE ω (evE C v)) σ H Q := by
  obtain ⟨R, c, σd, M, m, rs, h⟩ := h
  rw [evE] at h
  intro p hp
  cases e1 : evE C (.var i) σd M with
  | bad => rw [e1] at h; exact h.elim
  | ex x M1 =>
    exfalso
    rw [evE] at e1
    split at e1 <;> cases e1
  | ok x M1 =>
    obtain ⟨rfl, u, s1, r1⟩ := var_of rs e1
    rw [e1, ok_bind] at h
    split at h
    · rename_i k0
      cases x with
      | dct t ks us =>
        cases t with
        | true =>
          simp only [apartD, Bool.and_eq_true, decide_eq_true_eq] at k0
          obtain ⟨k1, k2⟩ := k0
          simp only [Rp] at r1
          obtain ⟨a, rfl, nu, hh⟩ := r1
          rcases hh with ⟨z, _⟩ | ⟨_, kvs, ea, rfl, ru⟩
          · cases z
          have ap : Apart kvs := by
            split at k1
            · rename_i nss e2
              exact hashes_ok e2 (of_decide_eq_true k1)
            · cases k1
          have nap : a ≠ p := some_ne ea hp
          refine ⟨.ref a, s1, a, kvs, rfl, nap, upd_same, by rw [upd_ne nap]; exact ea, by simpa using k2, ap, fun q nqp hq => ?_⟩
          have hq0 : H q = none := by rw [upd_ne nqp, upd_ne nqp] at hq; exact hq
          have eH : upd (upd (upd H p (HO.dT [])) p (HO.dT kvs)) q (HO.dT []) = two H p q (.dT kvs) (.dT []) := by
            unfold two
            congr 1
            funext b
            by_cases hb : b = p
            · subst hb; rw [upd_same, upd_same]
            · rw [upd_ne hb, upd_ne hb, upd_ne hb]
          rw [eH]
          have m2 := side_cm (o1 := .dT kvs) (o2 := .dT []) m hp hq0 nqp (fun _ z => nomatch z) (fun _ z => nomatch z)
          have g2 := side_gr (q := q) (o1 := .dT kvs) (o2 := .dT []) m hp hq0
          have nr : ¬ R p := fun z => by
            obtain ⟨o, e, _⟩ := m.there p z
            rw [hp] at e; cases e
          have ns : ¬ R q := fun z => by
            obtain ⟨o, e, _⟩ := m.there q z
            rw [hq0] at e; cases e
          have back : ∀ {H' : Hp} {c' : List Addr} {M' : Cs}, Aft ω.mg (side R p q) (two H p q (.dT kvs) (.dT [])) c M1 M' H' c' → Aft ω.mg R H c M1 M' H' c' := fun af => ⟨back_stp m hp hq0 af.1 fun _ _ _ => rfl, back_cm af.2 nr ns fun _ _ _ => rfl⟩
          refine ⟨side R p q, c, σd, M1, m2, rs.mono g2, ?_⟩
          cases ek : evE C k σd M1 with
          | bad => rw [ek] at h; exact h.elim
          | ex e M2 =>
            rw [ek] at h
            exact fun cls dd H' c' af r => h cls dd H' c' (back af) (ExR.mono (back_gr fun _ _ _ => rfl) r)
          | ok y M2 =>
            rw [ek, ok_bind] at h
            intro y' H2 c2 a2 r2
            refine ⟨side R p q, c2, σd, M2, a2.2, (rs.mono g2).mono a2.1.gr, ?_⟩
            cases ev : evE C v σd M2 with
            | bad => rw [ev] at h; exact h.elim
            | ex e M3 =>
              rw [ev] at h
              exact fun cls dd H' c' af r => h cls dd H' c' (back (a2.trans af)) (ExR.mono (back_gr fun _ _ _ => rfl) r)
            | ok z M3 =>
              rw [ev, ok_bind] at h
              intro z' H3 c3 a3 r3
              have af := a2.trans a3
              have e3 : H3 p = some (.dT kvs) := by rw [af.1.res p (.inr (.inl rfl))]; unfold two; rw [upd_ne (Ne.symm nqp), upd_same]
              have e4 : H3 q = some (.dT []) := by rw [af.1.res q (.inr (.inr rfl))]; unfold two; rw [upd_same]
              simp only [dputTD] at h
              split at h
              · rename_i kt
                rw [opt_some] at h
                obtain ⟨κ, rfl⟩ := isKeyT_ok kt
                obtain ⟨b, rfl, eb⟩ := (Rp.mono a3.1.gr _ r2).keyT
                refine ⟨e3, e4, κ, b, rfl, eb, ?_⟩
                obtain ⟨Hf, eHf⟩ : ∃ Hf, Hf = upd (upd H3 q (HO.dT [(κ, z')])) p (HO.dT (putK kvs κ z')) := ⟨_, rfl⟩
                rw [← eHf]
                have eq : ∀ a, a ≠ p → a ≠ q → Hf a = H3 a := fun a h1 h2 => by rw [eHf, upd_ne h1, upd_ne h2]
                have st := back_stp m hp hq0 af.1 eq
                have cm := back_cm af.2 nr ns eq
                obtain ⟨p1, p2⟩ := put_ok keyTD_inj κ (RpL.mono st.gr _ ru) (Rp.mono (back_gr eq) _ r3)
                refine h _ Hf c3 ⟨st, cm⟩ ?_
                simp only [rlD, Rp]
                refine ⟨p, rfl, fun lv => ?_, .inr ⟨trivial, _, by rw [eHf, upd_same], p1, p2⟩⟩
                rcases lv with lv | ⟨n, ln, en⟩
                · exact nr lv
                · exact af.2.nres n p ln en (.inr (.inl rfl))
              · exact h.elim
        | false => simp [apartD] at k0
      | _ => simp [apartD] at k0
    · exact h.elim
end
end Mp

/-! The mini text against the program's text: expressions. -/
namespace Mp
open PySem PySem.Spec PyProof.Rows L2

/-- what a text sees: its names, the defs with their parameters, built-in names that nothing hides -/
structure Gx where
  N : List Str
  fns : List (Str × List Str)
  bi : List Str
  cs : List (Str × D) := []
  /-- own exception classes: what an instance keeps -/
  xs : List (Str × Option Str) := []
  /-- whether a class is caught by another's name -/
  em : List (Str × Str × Bool) := []
  /-- tuples of the module -/
  kt : List (Str × List D) := []
  /-- whether a class stands under another one -/
  is : List (Str × Ct × Bool) := []
  /-- defs that are called within except suites -/
  hf : List Bool := []
  /-- within an except suite -/
  hot : Bool := false
/-- what the table says of an exception class and a class -/
def isOf (l : List (Str × Ct × Bool)) (k : Str) (t : Ct) : Option Bool := (l.find? fun p => decide (p.1 = k) && decide (p.2.1 = t)).map fun p => p.2.2
def isAny (l : List (Str × Ct × Bool)) (k : Str) : List Ct → Option Bool
  | [] => some false
  | t :: ts => match isOf l k t with
    | some true => some true
    | some false => isAny l k ts
    | none => none
/-- the built-in classes that may be asked for -/
def ctNames : List String := ["ValueError", "LookupError", "ArithmeticError", "TypeError", "AttributeError", "RuntimeError"]
/-- the scope, the cells that may be stored -/
abbrev Ec := Scope × (Str → Bool)

def visB (sc : Scope) (x : Str) : Bool := match sc.names.lookup x with
  | some .local => true
  | some .cell => true
  | some .free => true
  | _ => false
def stoB (c : Ec) (x : Str) : Bool := match c.1.names.lookup x with
  | some .local => true
  | some .cell => c.2 x
  | _ => false
def glB (sc : Scope) (x : Str) : Bool := match sc.names.lookup x with
  | some .globalImplicit => true
  | _ => false
def nmB (x : Str) : Bool := !(x == ("__debug__" : Str)) && !(x == ("__classdict__" : Str))
def conB : D → Const → Bool
  | .int i, .int j => decide (i = j)
  | .str x, .str y => decide (x = y)
  | .bl a, .bool b => a == b
  | .non, .none => true
  | _, _ => false
def scalar : D → Bool
  | .int _ => true
  | .str _ => true
  | .bl _ => true
  | .non => true
  | _ => false
def bfS : Bf → Str
  | .len => "len"
  | .abs => "abs"
  | .max => "max"
  | .min => "min"
  | .sum => "sum"
  | .all => "all"
  | .any => "any"
  | .sorted => "sorted"
  | .list => "list"
  | .tuple => "tuple"
  | .int => "int"
  | .str => "str"
  | .repr => "repr"
  | .divmod => "divmod"
def muS : Mu → Str
  | .append => "append"
  | .extend => "extend"
  | .pop => "pop"
/-- built-in functions for an except suite as well -/
def coolB : Bf → Bool
  | .len => true
  | .abs => true
  | .tuple => true
  | .int => true
  | .str => true
  | .repr => true
  | .divmod => true
  | _ => false
/-- a plain subscript's index -/
def ixB : Expr → Bool
  | .Slice _ _ none _ => false
  | _ => true
/-- no call of nothing by a name (super) -/
def supB : Expr → Bool
  | .Call (.Name _ _) [] [] _ => false
  | _ => true
/-- a test that is its value's truth -/
def truB : Expr → Bool
  | .UnaryOp .Not _ _ => false
  | .BoolOp _ _ _ => false
  | .IfExp _ _ _ _ => false
  | .Compare _ _ _ _ => false
  | _ => true
def setB : Expr → Bool
  | .Set _ _ _ => false
  | _ => true
def restE (op : BoolOp) (y : Expr) (r : List Expr) (p : Pos) : Expr := match r with
  | [] => y
  | z :: r => .BoolOp op (y :: z :: r) p
def permOf (ps : List Str) (n : Nat) (ks : List Str) : List Nat := (List.range ps.length).map fun j => if j < n then j else n + ks.idxOf (ps.getD j "")
def kwShape (ps : List Str) (n : Nat) (ks : List Str) (perm : List Nat) : Bool :=
  if ks = [] then perm.isEmpty && n == ps.length else decide (perm = permOf ps n ks) && n + ks.length == ps.length && (ks.all (fun k => (ps.drop n).contains k) && (ps.drop n).all (fun x => ks.contains x)) && decide ks.Nodup && decide ps.Nodup && !ps.isEmpty
def relE (scope : Scope) (c : Ec) : Ec := (relS scope c.1, fun x => scope.names.lookup x == some .cell)
def ownN (N : List Str) (own : List Nat) : List (Str × Nat) := own.map fun i => (N.getD i "", i)

def cVar (G : Gx) (i : Nat) (c : Ec) : Expr → Bool
  | .Name x _ => decide (G.N[i]? = some x) && visB c.1 x && nmB x
  | _ => false
def vB (G : Gx) (m : ME) (c : Ec) (e : Expr) : Bool := match m with
  | .var i => cVar G i c e
  | _ => false
/-- {x: True for x in d.values()} -/
def cVals (G : Gx) (i j : Nat) (c : Ec) : Expr → Bool
  | .DictComp (.Name x _) (.Constant k _ _) [⟨.Name y _, .Call (.Attribute (.Name z _) nm ap) [] [] cp, [], w⟩] scope _ => decide (nm = "values") && conB (.bl true) k && decide (w = 0) && decide (G.N[i]? = some z) && visB c.1 z && nmB z && ap.endLine == cp.line && blkC G.N c.1 scope (ownN G.N [j]) &&
        decide (G.N[j]? = some y) && stoB (relE scope c) y && decide (G.N[j]? = some x) && visB (relE scope c).1 x && nmB x
  | _ => false
/-- a name or a constant -/
def atB (G : Gx) (m : ME) (c : Ec) (e : Expr) : Bool := match m with
  | .var i => cVar G i c e
  | .con d => (match e with
    | .Constant k _ _ => conB d k
    | _ => false)
  | _ => false
/-- a display of such -/
def cD (G : Gx) (c : Ec) (t : Bool) : MPs → List (Option Expr) → List Expr → Bool
  | .nil, [], [] => true
  | .cons k v r, some ek :: ks, ev :: vs => !t && atB G k c ek && atB G v c ev && cD G c t r ks vs
  | _, _, _ => false
/-- a class by its name -/
def ctN (G : Gx) (c : Ec) : Ct → Expr → Bool
  | .own x, .Name y _ => decide (x = y) && glB c.1 x && nmB x && G.is.any (fun p => decide (p.2.1 = .own x))
  | .ty n, .Name y _ => decide (n ∈ ctNames) && decide (y = Str.ofString n) && glB c.1 y && decide (y ∈ G.bi) && G.is.any (fun p => decide (p.2.1 = .ty n))
  | _, _ => false
def ctL (G : Gx) (c : Ec) : List Ct → List Expr → Bool
  | [], [] => true
  | t :: ts, e :: es => ctN G c t e && ctL G c ts es
  | _, _ => false
def ctE (G : Gx) (c : Ec) (tp : Bool) (ts : List Ct) (e : Expr) : Bool := match tp, ts, e with
  | false, [t], e => ctN G c t e
  | true, t :: ts, .Tuple es _ _ => ctL G c (t :: ts) es && decide (es.length ≤ 20) && es.all plainE
  | _, _, _ => false
mutual
def cE (G : Gx) : ME → Ec → Expr → Bool
  | .var i, c, e => match e with
    | .Name x _ => decide (G.N[i]? = some x) && visB c.1 x && nmB x
    | _ => false
  | .con d, _, e => match e with
    | .Constant k _ _ => conB d k
    | _ => false
  | .gl x d, c, e => match e with
    | .Name y _ => decide (x = y) && glB c.1 x && nmB x && decide (G.cs.lookup x = some d) && scalar d
    | _ => false
  | .fn _, _, _ => false
  | .bin o a b, c, e => match e with
    | .BinOp ea o' eb _ => decide (o = o') && cE G a c ea && cE G b c eb
    | _ => false
  | .neg a, c, e => match e with
    | .UnaryOp o ea _ => decide (o = .USub) && cE G a c ea
    | _ => false
  | .not q, c, e => match e with
    | .UnaryOp o ea _ => decide (o = .Not) && cN G q c ea
    | _ => false
  | .and a b, c, e => match e with
    | .BoolOp o (x :: y :: r) p => decide (o = .And) && cE G a c x && cE G b c (restE .And y r p)
    | _ => false
  | .or a b, c, e => match e with
    | .BoolOp o (x :: y :: r) p => decide (o = .Or) && cE G a c x && cE G b c (restE .Or y r p)
    | _ => false
  | .cmp o a b, c, e => match e with
    | .Compare ea [o'] [eb] _ => decide (o = o') && !behindInMarks o eb && cE G a c ea && cE G b c eb
    | _ => false
  | .chain o p a b d, c, e => match e with
    | .Compare ea [o', p'] [eb, ed] _ => decide (o = o') && decide (p = p') && !behindInMarks p ed && cE G a c ea && cE G b c eb && cE G d c ed
    | _ => false
  | .ite q a b, c, e => match e with
    | .IfExp eq ea eb _ => cB G q c eq && cE G a c ea && cE G b c eb
    | _ => false
  | .idx a i, c, e => match e with
    | .Subscript ea ei _ => ixB ei && cE G a c ea && cE G i c ei
    | _ => false
  | .slc a lo hi, c, e => match e with
    | .Subscript ea (.Slice l u none _) _ => cE G a c ea && cO G lo c l && cO G hi c u
    | _ => false
  | .tup es, c, e => match e with
    | .Tuple xs _ _ => cEs G es c xs
    | _ => false
  | .lst es, c, e => match e with
    | .List xs _ => cEs G es c xs
    | _ => false
  | .dsp t ps, c, e => match e with
    | .Dict ks vs _ => cD G c t ps ks vs && decide (ks.length ≤ 15)
    | _ => false
  | .lc own a t it q, c, e => match e with
    | .ListComp ea [⟨et, ei, ifs, z⟩] scope _ => decide (z = 0) && setB ei && t.within own && blkC G.N c.1 scope (ownN G.N own) && cI G it c et ei && cT G t (relE scope c) et && cC G q (relE scope c) ifs && cE G a (relE scope c) ea && !G.hot
    | _ => false
  | .lc2 own own1 a t it q t1 it1 q1, c, e => match e with
    | .ListComp ea [⟨et, ei, ifs, z⟩, ⟨et1, ei1, ifs1, z1⟩] scope _ => decide (z = 0) && decide (z1 = 0) && setB ei && setB ei1 && t.within own && t1.within own1 && own1.all (fun i => decide (i ∈ own)) && blkC G.N c.1 scope (ownN G.N own) && cI G it c et ei && cT G t (relE scope c) et && cC G q (relE scope c) ifs
        && cI G it1 (relE scope c) et1 ei1 && cT G t1 (relE scope c) et1 && cC G q1 (relE scope c) ifs1 && cE G a (relE scope c) ea && !G.hot
    | _ => false
  | .dc _ own k v t it q, c, e => match e with
    | .DictComp ek ev [⟨et, ei, ifs, z⟩] scope _ => decide (z = 0) && setB ei && t.within own && blkC G.N c.1 scope (ownN G.N own) && cI G it c et ei && cT G t (relE scope c) et && cC G q (relE scope c) ifs && cE G k (relE scope c) ek && cE G v (relE scope c) ev && !G.hot
    | _ => false
  | .call f es ks perm, c, e => match e with
    | .Call (.Name x _) xs kws _ => (match G.fns[f]? with
      | some p => (!G.hot || G.hf.getD f false) && decide (x = p.1) && glB c.1 x && nmB x && xs.all plainE && kwAll kws && kwShape p.2 xs.length (kwNames kws) perm && cEs G es c xs && cKs G ks c kws
      | none => false)
    | _ => false
  | .blt b es, c, e => match e with
    | .Call (.Name x _) (y :: xs) [] _ => decide (x = bfS b) && glB c.1 x && decide (x ∈ G.bi) && (y :: xs).all plainE && cEs G es c (y :: xs) && (!G.hot || coolB b)
    | _ => false
  | .lrng a b, c, e => match e with
    | .Call (.Name x _) [.Call (.Name z _) [y] [] _] [] _ => decide (x = "list") && glB c.1 x && decide (x ∈ G.bi) && decide (z = "range") && glB c.1 z && decide (z ∈ G.bi) && plainE y && (match a with | .con (.int 0) => true | _ => false) && cE G b c y && !G.hot
    | .Call (.Name x _) [.Call (.Name z _) [y, w] [] _] [] _ => decide (x = "list") && glB c.1 x && decide (x ∈ G.bi) && decide (z = "range") && glB c.1 z && decide (z ∈ G.bi) && plainE y && plainE w && cE G a c y && cE G b c w && !G.hot
    | _ => false
  | .isa a t, c, e => match e with
    | .Call (.Name x _) [y, .Name z _] [] _ => decide (x = "isinstance") && decide (z = (tyS t : Str)) && glB c.1 x && glB c.1 z && decide (x ∈ G.bi) && decide (z ∈ G.bi) && plainE y && cE G a c y
    | _ => false
  | .met m o es, c, e => match e with
    | .Call (.Attribute eo nm ap) (y :: xs) [] cp => (match m with | .lindex => decide (nm = "index") | .get => decide (nm = "get") | .tindex => false) && supB eo && ap.endLine == cp.line && (y :: xs).all plainE && decide (xs.length < 20) && cE G o c eo && cEs G es c (y :: xs)
    | _ => false
  | .mut m o es, c, e => match e with
    | .Call (.Attribute eo nm ap) [] [] cp => decide (nm = muS m) && supB eo && ap.endLine == cp.line && cE G o c eo && (match es with | .nil => true | _ => false)
    | .Call (.Attribute eo nm ap) (y :: xs) [] cp => decide (nm = muS m) && supB eo && ap.endLine == cp.line && (y :: xs).all plainE && decide (xs.length < 20) && cE G o c eo && cEs G es c (y :: xs)
    | _ => false
  | .new a, c, e => cF G a c e
  | .frz a, c, e => cE G a c e
  | .rev a, c, e => match e with
    | .Subscript ea (.Slice none none (some (.UnaryOp .USub (.Constant (.int 1) _ _) _)) _) _ => cE G a c ea
    | _ => false
  | .dput a k v, c, e => match e with
    | .Dict [none, some ey] [ex, ez] _ => vB G a c ex && vB G k c ey && vB G v c ez
    | _ => false
  | .dvals i j, c, e => cVals G i j c e && !G.hot
  | .dputT a k v, c, e => match e with
    | .Dict [none, some ek] [ea, ev] _ => vB G a c ea && cE G k c ek && cE G v c ev
    | _ => false
  | .ise a ts tp cs ns, c, e => match e with
    | .Call (.Name x _) [y, z] [] _ => decide (x = "isinstance") && glB c.1 x && decide (x ∈ G.bi) && plainE y && plainE z && ctE G c tp ts z && cs.all (fun k => isAny G.is k ts == some true) && ns.all (fun k => isAny G.is k ts == some false) && cE G a c y
    | _ => false
  | .exn x es, c, e => match e with
    | .Call (.Name y _) args kws _ => decide (x = y) && glB c.1 x && nmB x && !G.hot && (match es, args, kws with
      | .nil, [], [] => decide (G.xs.lookup x = some none)
      | .cons a .nil, [ea], [] => plainE ea && (G.xs.lookup x).any Option.isSome && cE G a c ea
      | .cons a .nil, [], [⟨some k, ea, _⟩] => decide (G.xs.lookup x = some (some k)) && cE G a c ea
      | _, _, _ => false)
    | _ => false
  | .fld a f cs, c, e => match e with
    | .Attribute ea g _ => decide (f = g) && supB ea && cs.all (fun x => decide (G.xs.lookup x = some (some f))) && cE G a c ea
    | _ => false
  | .kin _ _ _, _, _ => false
  | .sset a, c, e => match e with
    | .Call (.Name x _) [.Call (.Name z _) [y] [] _] [] _ => decide (x = "sorted") && glB c.1 x && decide (x ∈ G.bi) && decide (z = "set") && glB c.1 z && decide (z ∈ G.bi) && plainE y && cE G a c y && !G.hot
    | _ => false
  | .dzip t a b, c, e => match e with
    | .Call (.Name x _) [.Call (.Name z _) [y, w] [] _] [] _ => decide (x = "dict") && glB c.1 x && decide (x ∈ G.bi) && decide (z = "zip") && glB c.1 z && decide (z ∈ G.bi) && plainE y && plainE w && cE G a c y && cE G b c w && !G.hot
    | _ => false
/-- a new object -/
def cF (G : Gx) : ME → Ec → Expr → Bool
  | .bin o a b, c, e => match e with
    | .BinOp ea o' eb _ => decide (o = o') && (decide (o = .Add) || decide (o = .Mult)) && cE G a c ea && cE G b c eb
    | _ => false
  | .lst es, c, e => match e with
    | .List xs _ => cEs G es c xs
    | _ => false
  | .lc own a t it q, c, e => match e with
    | .ListComp ea [⟨et, ei, ifs, z⟩] scope _ => decide (z = 0) && setB ei && t.within own && blkC G.N c.1 scope (ownN G.N own) && cI G it c et ei && cT G t (relE scope c) et && cC G q (relE scope c) ifs && cE G a (relE scope c) ea && !G.hot
    | _ => false
  | .dc _ own k v t it q, c, e => match e with
    | .DictComp ek ev [⟨et, ei, ifs, z⟩] scope _ => decide (z = 0) && setB ei && t.within own && blkC G.N c.1 scope (ownN G.N own) && cI G it c et ei && cT G t (relE scope c) et && cC G q (relE scope c) ifs && cE G k (relE scope c) ek && cE G v (relE scope c) ev && !G.hot
    | _ => false
  | .dsp t ps, c, e => match e with
    | .Dict ks vs _ => cD G c t ps ks vs && decide (ks.length ≤ 15)
    | _ => false
  | .lrng a b, c, e => match e with
    | .Call (.Name x _) [.Call (.Name z _) [y] [] _] [] _ => decide (x = "list") && glB c.1 x && decide (x ∈ G.bi) && decide (z = "range") && glB c.1 z && decide (z ∈ G.bi) && plainE y && (match a with | .con (.int 0) => true | _ => false) && cE G b c y && !G.hot
    | .Call (.Name x _) [.Call (.Name z _) [y, w] [] _] [] _ => decide (x = "list") && glB c.1 x && decide (x ∈ G.bi) && decide (z = "range") && glB c.1 z && decide (z ∈ G.bi) && plainE y && plainE w && cE G a c y && cE G b c w && !G.hot
    | _ => false
  | .blt b es, c, e => match e with
    | .Call (.Name x _) (y :: xs) [] _ => (match b with | .list => true | .sorted => true | _ => false) && decide (x = bfS b) && glB c.1 x && decide (x ∈ G.bi) && (y :: xs).all plainE && cEs G es c (y :: xs) && !G.hot
    | _ => false
  | _, _, _ => false
/-- the operand of not, as a value -/
def cN (G : Gx) : MB → Ec → Expr → Bool
  | .tru a, c, e => cE G a c e
  | _, _, _ => false
def cB (G : Gx) : MB → Ec → Expr → Bool
  | .tru a, c, e => (match a, e with
    | .cmp _ _ _, .Compare _ _ _ _ => true
    | .chain _ _ _ _ _, .Compare _ _ _ _ => true
    | _, e => truB e) && cE G a c e
  | .not a, c, e => match e with
    | .UnaryOp o ea _ => decide (o = .Not) && cB G a c ea
    | _ => false
  | .and a b, c, e => match e with
    | .BoolOp o (x :: y :: r) p => decide (o = .And) && cB G a c x && cB G b c (restE .And y r p)
    | _ => false
  | .or a b, c, e => match e with
    | .BoolOp o (x :: y :: r) p => decide (o = .Or) && cB G a c x && cB G b c (restE .Or y r p)
    | _ => false
def cO (G : Gx) : MO → Ec → Option Expr → Bool
  | .nil, _, o => match o with
    | none => true
    | some _ => false
  | .one a, c, o => match o with
    | none => false
    | some e => cE G a c e
def cEs (G : Gx) : MEs → Ec → List Expr → Bool
  | .nil, _, es => match es with
    | [] => true
    | _ => false
  | .cons a r, c, es => match es with
    | e :: es => plainE e && cE G a c e && cEs G r c es
    | _ => false
  | .star a r, c, es => match es with
    | .Starred e _ :: es => cE G a c e && cEs G r c es
    | _ => false
def cKs (G : Gx) : MEs → Ec → List Keyword → Bool
  | .nil, _, es => match es with
    | [] => true
    | _ => false
  | .cons a r, c, es => match es with
    | ⟨_, e, _⟩ :: es => cE G a c e && cKs G r c es
    | _ => false
  | .star _ _, _, _ => false
def cC (G : Gx) : MC → Ec → List Expr → Bool
  | .nil, _, es => match es with
    | [] => true
    | _ => false
  | .one q, c, es => match es with
    | [e] => cB G q c e
    | _ => false
/-- the target comes first: enumerate and zip want a tuple -/
def cI (G : Gx) : MI → Ec → Expr → Expr → Bool
  | .seq a, c, _, e => cE G a c e
  | .rng a b, c, _, e => match e with
    | .Call (.Name x _) [y] [] _ => decide (x = "range") && glB c.1 x && decide (x ∈ G.bi) && plainE y && (match a with | .con (.int 0) => true | _ => false) && cE G b c y
    | .Call (.Name x _) [y, z] [] _ => decide (x = "range") && glB c.1 x && decide (x ∈ G.bi) && plainE y && plainE z && cE G a c y && cE G b c z
    | _ => false
  | .enm a, c, t, e => match t, e with
    | .Tuple _ _ _, .Call (.Name x _) [y] [] _ => decide (x = "enumerate") && glB c.1 x && decide (x ∈ G.bi) && plainE y && cE G a c y
    | _, _ => false
  | .zip a b, c, t, e => match t, e with
    | .Tuple _ _ _, .Call (.Name x _) [y, z] [] _ => decide (x = "zip") && glB c.1 x && decide (x ∈ G.bi) && plainE y && plainE z && cE G a c y && cE G b c z
    | _, _ => false
  | .rdn a, c, _, e => match e with
    | .Call (.Name x _) [y, .UnaryOp .USub (.Constant (.int 1) _ _) _, .UnaryOp .USub (.Constant (.int 1) _ _) _] [] _ => decide (x = "range") && glB c.1 x && decide (x ∈ G.bi) && plainE y && cE G a c y
    | _ => false
  | .vals _, _, _, _ => false
  | .zip3 a b d, c, t, e => match t, e with
    | .Tuple _ _ _, .Call (.Name x _) [y, z, w] [] _ => decide (x = "zip") && glB c.1 x && decide (x ∈ G.bi) && plainE y && plainE z && plainE w && cE G a c y && cE G b c z && cE G d c w
    | _, _ => false
  | .ktup x ds, c, _, e => match e with
    | .Name y _ => decide (x = y) && glB c.1 x && nmB x && decide (G.kt.lookup x = some ds) && ds.all scalar
    | _ => false
  | .kzip k ds b, c, t, e => match t, e with
    | .Tuple _ _ _, .Call (.Name x _) [.Name y _, z] [] _ => decide (x = "zip") && glB c.1 x && decide (x ∈ G.bi) && plainE z && decide (k = y) && glB c.1 k && nmB k && decide (G.kt.lookup k = some ds) && ds.all scalar && cE G b c z
    | _, _ => false
def cT (G : Gx) : MT → Ec → Expr → Bool
  | .nm i, c, e => match e with
    | .Name x _ => decide (G.N[i]? = some x) && stoB c x
    | _ => false
  | .tp ts, c, e => match e with
    | .Tuple xs _ _ => cTs G ts c xs && !G.hot
    | _ => false
  | .sub o i, c, e => match e with
    | .Subscript eo ei _ => ixB ei && cE G o c eo && cE G i c ei
    | _ => false
def cTs (G : Gx) : MTs → Ec → List Expr → Bool
  | .nil, _, es => match es with
    | [] => true
    | _ => false
  | .cons t r, c, es => match es with
    | e :: es => plainE e && cT G t c e && cTs G r c es
    | _ => false
end
end Mp

/-! The checked expressions keep what the evaluator promises. -/
namespace Mp
open PySem PySem.Spec PyProof.Rows L2

/-- what the written part says of an own exception class: made, raised, read -/
def XcOk (X : Cx) (C : Addr) : Option Str → Prop
  | none => PySem.W.excIn X.K C He.veBase "ValueError.__new__" = true ∧ PySem.W.keepIn X.K (.ref C) = true ∧ Raises X (.ref C) ∧ attC X.K C = none
  | some f => (∃ fI, IniC X.prog X.K C fI f) ∧ XfC X.K C ∧ attC X.K C = some f
/-- the context of a text -/
structure Okx (G : Gx) (C : Cl) (ω : Wk) (X : Cx) (c : Ec) : Prop where
  N : X.N = G.N
  sc : X.env.scope = c.1
  fn : ∀ x, c.2 x = true → X.fn x = true
  mg : X.Mg = ω.mg
  nd : G.N.Nodup
  calm : G.hot = false → X.calm = true
  gd : X.A.guards = some []
  un : X.A.units + 100 < cLine
  bi : ∀ x ∈ G.bi, X.mg x = none
  cs : ∀ x d, G.cs.lookup x = some d → scalar d = true → ∃ u v, X.mg x = some u ∧ RelV v u ∧ ∀ mg H U c, Rp mg H U c d v
  xs : ∀ x g, G.xs.lookup x = some g → ∃ A, X.mg x = some (.ref A) ∧ XcOk X A g
  em : ∀ x y b, (x, y, b) ∈ G.em → ∃ A B, X.mg x = some (.ref A) ∧ X.mg y = some (.ref B) ∧ PySem.W.exmOne X.K (.ref A) (.ref B) = some b
  kt : ∀ x ds, G.kt.lookup x = some ds → ds.all scalar = true → ∃ a, X.mg x = some (.ref a) ∧ KTup X.K a ds
  sup : X.mg "super" = none
  sy : SysOk X.K
  is : ∀ x t b, (x, t, b) ∈ G.is → ∃ A v cv, X.mg x = some (.ref A) ∧ CtV X.mg t v cv ∧ ExcC X.K A ∧ PySem.W.kitOne X.K (.ref A) cv = some b
  han : G.hot = true → ∃ a, X.A.handled = some (.ref a)
  qt : G.hot = true → ∀ cls d σ H, ω.W cls d σ H → False
  fnh : ∀ f x ps, G.fns[f]? = some (x, ps) → G.hf.getD f false = true → ∃ a fd k, X.mg x = some (.ref a) ∧ PySem.W.keepIn X.K (.ref a) = true ∧ Room k (coldA X.A) ∧ FnGH X.prog X.w X.K X.mg X.base k a fd ps (spF ω.mg ps.length (C.call f)) ∧
    ∀ n ks perm, kwShape ps n ks perm = true → KwB X.K fd ps n ks perm
  room : G.hot = false → Room 0 X.A
  tk : Takes X ω.W
  fns : G.hot = false → ∀ f x ps, G.fns[f]? = some (x, ps) → ∃ a fd k, X.mg x = some (.ref a) ∧ PySem.W.keepIn X.K (.ref a) = true ∧ Room k X.A ∧ FnG X.prog X.w X.K X.mg X.base (L2.CX X.prog X.w) k a fd ps (spF ω.mg ps.length (C.call f)) ∧
    ∀ n ks perm, kwShape ps n ks perm = true → KwB X.K fd ps n ks perm
section
variable {G : Gx} {C : Cl} {ω : Wk} {X : Cx} {c : Ec}
theorem Okx.cool (o : Okx G C ω X c) (h : (!G.hot) = true) : X.calm = true := o.calm (by cases e : G.hot <;> simp_all)
theorem Okx.blk (o : Okx G C ω X c) (s : Shared) (H : Hp) (scope : Scope) (Ca : Addr) (cl : List (Str × Addr)) (fp : List Addr) : Okx G C ω.no (X.blk s H scope (compEnvC scope cl Ca X.env) fp) (relE scope c) where
  N := o.N
  sc := by
    show relabel scope X.env = relS scope c.1
    rw [← o.sc]; rfl
  fn := fun x h => h
  mg := o.mg
  nd := o.nd
  calm := o.calm
  gd := o.gd
  un := o.un
  bi := o.bi
  cs := o.cs
  xs := o.xs
  em := o.em
  kt := o.kt
  sup := o.sup
  sy := o.sy
  is := o.is
  han := o.han
  qt := fun _ _ _ _ _ z => z
  fnh := o.fnh
  room := o.room
  tk := takes_none5
  fns := o.fns
theorem gl_of (o : Okx G C ω X c) {x : Str} (h : glB c.1 x = true) : Gl X x := by
  unfold glB at h
  rw [← o.sc] at h
  unfold Gl Env.kindOf
  split at h
  · assumption
  · cases h
theorem vis_of (o : Okx G C ω X c) {x : Str} (h : visB c.1 x = true) : Vis X.env.scope x := by
  unfold visB at h
  rw [← o.sc] at h
  unfold Vis
  split at h
  · left; assumption
  · right; left; assumption
  · right; right; assumption
  · cases h
theorem nm_of {x : Str} (h : nmB x = true) : (x == ("__debug__" : Str)) = false ∧ (x == ("__classdict__" : Str)) = false := by
  simpa [nmB] using h
theorem con_pe {d : D} {k : Const} {j : Nat} {pos : Pos} (h : conB d k = true) : ∃ v, PE X (.Constant k j pos) (tC v) ∧ ∀ mg H U c, Rp mg H U c d v := by
  unfold conB at h
  split at h
  · rename_i i j; have e : i = j := by simpa using h
    subst e; exact ⟨_, pe_int, fun _ _ _ _ => by simp [Rp]⟩
  · rename_i i j; have e : i = j := by simpa using h
    subst e; exact ⟨_, pe_str, fun _ _ _ _ => by simp [Rp]⟩
  · rename_i i j; have e : i = j := by simpa using h
    subst e; exact ⟨.bl i, pe_bl, fun _ _ _ _ => by simp [Rp]⟩
  · exact ⟨.non, pe_non, fun _ _ _ _ => by simp [Rp]⟩
  · cases h
/-- an atom: its value is there, nothing changes -/
def Atm (ω : Wk) (C : Cl) (a : ME) (t : TE) : Prop := ∀ (R : Addr → Prop) (H : Hp) (c : List Addr) (M : Cs) (σd : En) (σ : L2.St), RpS ω.mg H (Lv R c M) c σd σ →
  evE C a σd M = .bad ∨ ∃ d v, evE C a σd M = .ok d M ∧ Rp ω.mg H (Lv R c M) c d v ∧ ∀ (H' : Hp) (Q : VK), Q v H' → t σ H' Q
inductive Atms (ω : Wk) (C : Cl) : MPs → List (TE × TE) → Prop
  | nil : Atms ω C .nil []
  | cons {k v : ME} {r : MPs} {tk tv : TE} {ts : List (TE × TE)} (a : Atm ω C k tk) (b : Atm ω C v tv) (t : Atms ω C r ts) : Atms ω C (.cons k v r) ((tk, tv) :: ts)
theorem atoms_pairs {ω : Wk} {ps : MPs} {ts : List (TE × TE)} (h : Atms ω C ps ts) {R : Addr → Prop} {H : Hp} {c : List Addr} {M : Cs} {σd : En} {σ : L2.St} (rs : RpS ω.mg H (Lv R c M) c σd σ) :
    evPs C ps σd M = .bad ∨ ∃ (ds : List (D × D)) (us : List (V × V)), evPs C ps σd M = .ok (ds.map (·.1), ds.map (·.2)) M ∧ PairR ω.mg H (Lv R c M) c ds us ∧ ∀ (H' : Hp) (Q : List (V × V) → Hp → Prop), Q us H' → tPairs ts σ H' Q := by
  induction h with
  | nil => exact .inr ⟨[], [], by rw [evPs]; rfl, rfl, fun H' Q q => q⟩
  | @cons k v r tk tv ts a b t ih =>
    rw [evPs]
    rcases a R H c M σd σ rs with e1 | ⟨d1, v1, e1, r1, q1⟩
    · rw [e1]; exact .inl rfl
    rcases b R H c M σd σ rs with e2 | ⟨d2, v2, e2, r2, q2⟩
    · rw [e1, ok_bind, e2]; exact .inl rfl
    rcases ih with e3 | ⟨ds, us, e3, r3, q3⟩
    · rw [e1, ok_bind, e2, ok_bind, e3]; exact .inl rfl
    · rw [e1, ok_bind, e2, ok_bind, e3, ok_bind]
      exact .inr ⟨(d1, d2) :: ds, (v1, v2) :: us, rfl, ⟨(v1, v2), us, rfl, r1, r2, r3⟩, fun H' Q q => q1 H' _ (q2 H' _ (q3 H' _ q))⟩
theorem pairR_len {mg : Mg} {H : Hp} {U : Addr → Prop} {c : List Addr} : ∀ (ps : List (D × D)) (us : List (V × V)), PairR mg H U c ps us → us.length = ps.length
  | [], us, h => by obtain rfl : us = [] := h; rfl
  | p :: ps, us, h => by
    obtain ⟨u, r, rfl, _, _, h3⟩ := h
    simp [pairR_len ps r h3]
theorem s_dspA {ω : Wk} {σ : L2.St} {H : Hp} {Q : VK} {ps : MPs} {ts : List (TE × TE)} (a : Atms ω C ps ts) (h : tF ω (evE C (.dsp false ps)) σ H Q) : tDisp ts σ H Q := by
  obtain ⟨R, c, σd, M, m, rs, h⟩ := h
  dsimp only at h
  rw [evE] at h
  rcases atoms_pairs a rs with e | ⟨ds, us, e, r, q⟩
  · rw [e] at h; exact h.elim
  rw [e, ok_bind] at h
  split at h
  · rename_i k
    simp only [Bool.and_eq_true, decide_eq_true_eq] at k
    intro p hp
    refine q _ _ ⟨upd_same, ?_⟩
    obtain ⟨kvs, e1, e2, e3⟩ := puts_ok ds us [] [] r (by simpa [isKey] using k.1) RpL.nil
    refine ⟨kvs, e1, ?_, ?_⟩
    · have h1 := pairR_len _ _ r
      rw [e1] at h1
      simp at h1 k
      omega
    · rw [upd_upd]
      exact h (p, .dK (mergeK [] kvs)) H c (Aft.refl m) (.inl ⟨rfl, _, rfl, e2, e3⟩) hp
  · exact h.elim
theorem at_ok {ω : Wk} {X : Cx} {m : ME} {e : Expr} (o : Okx G C ω X c) (h : atB G m c e = true) : ∃ t, PE X e t ∧ Atm ω C m t := by
  unfold atB at h
  split at h
  · rename_i i
    unfold cVar at h
    split at h
    · simp only [Bool.and_eq_true, decide_eq_true_eq] at h
      obtain ⟨n1, n2⟩ := nm_of h.2
      refine ⟨tVar i, pe_var (by rw [o.N]; exact h.1.1) (vis_of o h.1.2) n1 n2, fun R H c M σd σ rs => ?_⟩
      rw [evE]
      split
      · rename_i d e1
        obtain ⟨v, e2, r⟩ := rs.2 i d e1
        exact .inr ⟨d, v, rfl, r, fun H' Q q => ⟨v, e2, q⟩⟩
      · exact .inl rfl
    · cases h
  · rename_i d
    split at h
    · obtain ⟨v, p, r⟩ := con_pe (X := X) h
      exact ⟨tC v, p, fun R H c M σd σ rs => .inr ⟨d, v, by rw [evE], r _ _ _ _, fun H' Q q => q⟩⟩
    · cases h
  · cases h
theorem cD_ok {ω : Wk} {X : Cx} {t : Bool} {pos : Pos} (o : Okx G C ω X c) : ∀ (ps : MPs) (ks : List (Option Expr)) (vs : List Expr), cD G c t ps ks vs = true → ks.all (·.isSome) = true ∧ ks.length = vs.length ∧
    (ks = [] → ps = .nil) ∧ (ks ≠ [] → t = false) ∧ ∃ ts : List (TE × TE), PPs X pos ks vs ts ∧ Atms ω C ps ts
  | .nil, ks, vs, h => by
    cases ks <;> cases vs <;> simp only [cD, Bool.false_eq_true] at h
    exact ⟨rfl, rfl, fun _ => rfl, fun e => absurd rfl e, [], pps_nil, .nil⟩
  | .cons k v r, ks, vs, h => by
    unfold cD at h
    split at h
    · rename_i heq
      cases heq
    · rename_i heq
      cases heq
      simp only [Bool.and_eq_true, Bool.not_eq_true'] at h
      obtain ⟨⟨⟨h0, h1⟩, h2⟩, h3⟩ := h
      obtain ⟨a2, a3, _, _, ts, a4, a5⟩ := cD_ok o r _ _ h3
      obtain ⟨tk, b1, b2⟩ := at_ok o h1
      obtain ⟨tv, c1, c2⟩ := at_ok o h2
      exact ⟨by simpa using a2, by simpa using a3, (fun e => nomatch e), (fun _ => h0), (tk, tv) :: ts, pps_cons b1 c1 a4, .cons b2 c2 a5⟩
    · cases h
theorem dsp_pe {ω : Wk} {X : Cx} {t : Bool} {ps : MPs} {ks : List (Option Expr)} {vs : List Expr} {pos : Pos} (o : Okx G C ω X c) (h : cD G c t ps ks vs = true) (h15 : ks.length ≤ 15) : PE X (.Dict ks vs pos) (tF ω (evE C (.dsp t ps))) := by
  obtain ⟨a2, a3, a4, a5, ts, a6, a7⟩ := cD_ok (pos := pos) o ps ks vs h
  by_cases e : ks = []
  · obtain rfl := a4 e
    subst e
    have : vs = [] := List.eq_nil_of_length_eq_zero a3.symm
    subst this
    cases t
    · exact pe_dnewK.imp fun _ _ _ q => s_dsp0 q
    · exact pe_dnewT.imp fun _ _ _ q => s_dsp0 q
  · obtain rfl := a5 e
    exact (pe_disp a6 a2 a3 e h15).imp fun _ _ _ q => s_dspA a7 q
theorem dsp_nw {t : Bool} {ps : MPs} {σd : En} {M : Cs} {d : D} {M1 : Cs} (h : evE C (.dsp t ps) σd M = .ok d M1) : isNw d = true := by
  rw [evE] at h
  cases e : evPs C ps σd M with
  | ok x M2 =>
    rw [e, ok_bind] at h
    split at h <;> cases h
    rfl
  | _ => rw [e] at h; cases h
theorem ix_of {b : Expr} (h : ixB b = true) : PlainIx b := by
  intro o i
  cases b <;> try rfl
  rename_i l u s p
  cases s
  · simp [ixB] at h
  · rfl
theorem sub_of {o i : Expr} {pos : Pos} {env : Env} (h : ixB i = true) (v : Value) : assign (.Subscript o i pos) env v = (do
    let ov ← holding [v] (eval o env)
    let iv ← holding [v, ov] (eval i env)
    standAt pos
    holding [v, ov, iv] (setItem ov iv v)
    release [v, ov, iv] []) := by
  cases i <;> try rfl
  rename_i l u s p
  cases s
  · simp [ixB] at h
  · rfl
theorem sup_of {o : Expr} {m : Str} {env : Env} {w : Sem Value} (h : supB o = true) : attributeBase o m env w = w := by
  unfold supB at h
  split at h
  · cases h
  · rename_i k
    unfold attributeBase
    split
    · rename_i a b; exact (k _ _ _ rfl).elim
    · rfl
theorem tru_of {a : Expr} {env : Env} (h : truB a = true) (w : Sem Value) : isTrue a env w = (do let v ← w; standAt a.pos; holding [v] (truthy v)) := by
  cases a <;> first | rfl | simp [truB] at h | skip
  rename_i o _ _
  cases o <;> first | rfl | simp [truB] at h
theorem set_of {e : Expr} {env : Env} (h : setB e = true) (x : Value) : foldedSetIterable e env x = pure x := by
  cases e <;> first | rfl | simp [setB] at h
theorem boot_bf : ∀ b : Bf, bootBuiltins (bfS b) = some (bfV b) ∧ bfS b ≠ "__name__" ∧ (bfS b == ("__debug__" : Str)) = false
  | .len => ⟨by decide +kernel, by decide, by decide⟩
  | .abs => ⟨by decide +kernel, by decide, by decide⟩
  | .max => ⟨by decide +kernel, by decide, by decide⟩
  | .min => ⟨by decide +kernel, by decide, by decide⟩
  | .sum => ⟨by decide +kernel, by decide, by decide⟩
  | .all => ⟨by decide +kernel, by decide, by decide⟩
  | .any => ⟨by decide +kernel, by decide, by decide⟩
  | .sorted => ⟨by decide +kernel, by decide, by decide⟩
  | .list => ⟨by decide +kernel, by decide, by decide⟩
  | .tuple => ⟨by decide +kernel, by decide, by decide⟩
  | .int => ⟨by decide +kernel, by decide, by decide⟩
  | .str => ⟨by decide +kernel, by decide, by decide⟩
  | .repr => ⟨by decide +kernel, by decide, by decide⟩
  | .divmod => ⟨by decide +kernel, by decide, by decide⟩
theorem bf_call {b : Bf} {r : List V → Hp → VK → Prop} {e : Expr} {es : List Expr} {t : TA} {p pos : Pos} (hc : CallR X (bfV b) r) (hg : Gl X (bfS b)) (hm : X.mg (bfS b) = none) (ha : PA X (e :: es) t) (pl : (e :: es).all plainE = true) :
    PE X (.Call (.Name (bfS b) p) (e :: es) [] pos) (tCB r t) := by
  simp only [List.all_cons, Bool.and_eq_true] at pl
  obtain ⟨h1, h2, h3⟩ := boot_bf b
  have he := plain_star (es := es) (env := X.env) pl.1
  have hp := plain_any (pos := pos) (env := X.env) pl.2
  cases b <;> first | exact pe_callB hc hg hm h1 ha h2 h3 he hp | exact pe_callTy hc hg hm h1 ha h2 h3 he hp
theorem ty_pe {t : Ty} {p : Pos} (hg : Gl X (tyS t : Str)) (hm : X.mg (tyS t : Str) = none) : PE X (.Name (tyS t : Str) p) (tC (.ty (tyS t))) := by
  refine ⟨fun pins s σ H Q I h => ?_⟩
  cases t
  all_goals exact ld_blt I hg hm (by first | exact PyProof.Rows.boot_int | exact PyProof.Rows.boot_bool | exact PyProof.Rows.boot_tuple | exact PyProof.Rows.boot_str | exact PyProof.Rows.boot_list | exact PyProof.Rows.boot_dict) ⟨.ty _, H, I, rfl, h⟩ (by decide) (by decide)
theorem few_of {x : Expr} {xs : List Expr} {env : Env} {cpos : Pos} (pl : (x :: xs).all plainE = true) (hl : xs.length < 20) :
    ((backTo cpos (starEach (x :: xs) env)).all (fun x => !x.1) && (backToKw cpos (keywordEach [] env)).all (fun x => x.1.isSome)
      && decide ((x :: xs).length + ([] : List Keyword).length + (if ([] : List Keyword).isEmpty then 0 else 1) < 30)) = true := by
  have h := plain_any (pos := cpos) (env := env) pl
  have h1 : (backTo cpos (starEach (x :: xs) env)).all (fun x => !x.1) = true := by
    rw [List.all_eq_true]
    rw [List.any_eq_false] at h
    exact fun y hy => by simpa using h y hy
  have h2 : (backToKw cpos (keywordEach [] env)).all (fun x => x.1.isSome) = true := rfl
  rw [h1, h2]
  simp
  omega
theorem mu_all (b : Mu) : ∃ id, Slot "list" (muS b) id ∧ typeOf (.builtin id) = pure (.type "method_descriptor") ∧ MtR X id (rMu X.Mg (mutD b)) := by
  cases b
  · exact ⟨"list.append", PySem.F.slot_list_append, PySem.F.type_list_append, mu_append⟩
  · exact ⟨"list.extend", PySem.F.slot_list_extend, PySem.F.type_list_extend, mu_extend⟩
  · exact ⟨"list.pop", PySem.F.slot_list_pop, PySem.F.type_list_pop, mu_pop⟩
theorem rest_pe {op : BoolOp} {y : Expr} {r : List Expr} {p : Pos} {t : TE} (h : PE X (restE op y r p) t) : PE X (.BoolOp op (y :: r) p) t := by
  cases r with
  | nil => exact pe_one h
  | cons z r => exact h
theorem rest_and {y : Expr} {r : List Expr} {p : Pos} {t : TT} (h : PT X (restE .And y r p) t) : PW X (.BoolOp .And (y :: r) p) t := by
  cases r with
  | nil => exact pw_and1 h
  | cons z r => exact pw_of h
theorem rest_or {y : Expr} {r : List Expr} {p : Pos} {t : TT} (h : PT X (restE .Or y r p) t) : PW X (.BoolOp .Or (y :: r) p) t := by
  cases r with
  | nil => exact pw_or1 h
  | cons z r => exact pw_of h
theorem blt_hot {X : Cx} {b : Bf} (S : SysOk X.K) (hc : X.calm = true ∨ coolB b = true) (hu : X.A.units + 80 < cLine) (hg : X.A.guards = some []) : CallR X (bfV b) (rB X.Mg (bltD b)) := by
  rcases hc with hc | hc
  · exact blt_ok S hc hu hg b
  · cases b <;> simp only [coolB, Bool.false_eq_true] at hc
    · exact blt_len
    · exact blt_abs
    · exact blt_tuple
    · exact blt_int
    · exact blt_str
    · exact blt_repr S hu hg
    · exact blt_divmod
theorem Okx.nm (o : Okx G C ω X c) : ω.mg.nm = X.mg := by rw [← o.mg]; rfl
theorem Okx.at_ (o : Okx G C ω X c) {x : Str} {A : Addr} (e : X.mg x = some (.ref A)) : ω.mg.att x = attC X.K A := by
  rw [← o.mg]
  show attK X.K X.mg x = _
  unfold attK
  rw [e]
end
end Mp

/-! Soundness of the checked expressions. -/
namespace Mp
open PySem PySem.Spec PyProof.Rows L2

section
variable {G : Gx} {C : Cl}
theorem cEs_len : ∀ {es : MEs} {c : Ec} {xs : List Expr}, cEs G es c xs = true → xs.all plainE = true → es.len = some xs.length
  | .nil, c, xs, h, _ => by
    unfold cEs at h
    split at h
    · rfl
    · cases h
  | .cons a r, c, xs, h, p => by
    unfold cEs at h
    split at h
    · rename_i e es
      simp only [Bool.and_eq_true, List.all_cons] at h p
      simp [MEs.len, cEs_len h.2 p.2]
    · cases h
  | .star a r, c, xs, h, p => by
    unfold cEs at h
    split at h
    · simp [plainE] at p
    · cases h
theorem cKs_len : ∀ {es : MEs} {c : Ec} {xs : List Keyword}, cKs G es c xs = true → es.len = some xs.length
  | .nil, c, xs, h => by
    unfold cKs at h
    split at h
    · rfl
    · cases h
  | .cons a r, c, xs, h => by
    unfold cKs at h
    split at h
    · simp only [Bool.and_eq_true] at h
      simp [MEs.len, cKs_len h.2]
    · cases h
  | .star a r, c, xs, h => by unfold cKs at h; cases h
theorem kwAll_len : ∀ {kws : List Keyword}, kwAll kws = true → (kwNames kws).length = kws.length
  | [], _ => rfl
  | ⟨nm, v, q⟩ :: kws, h => by
    simp only [kwAll, List.all_cons, Bool.and_eq_true] at h
    cases nm with
    | none => simp at h
    | some n =>
      show (kwNames kws).length + 1 = kws.length + 1
      rw [kwAll_len h.2]
theorem lst_nw {es : MEs} {σd : En} {M : Cs} {d : D} {M1 : Cs} (h : evE C (.lst es) σd M = .ok d M1) : isNw d = true := by
  rw [evE] at h
  cases e : evEs C es σd M with
  | ok x M2 => rw [e, ok_bind] at h; split at h <;> cases h; rfl
  | _ => rw [e] at h; cases h
theorem lc_nw {own : List Nat} {a : ME} {t : MT} {it : MI} {q : MC} {σd : En} {M : Cs} {d : D} {M1 : Cs} (h : evE C (.lc own a t it q) σd M = .ok d M1) : isNw d = true := by
  rw [evE] at h
  cases e : evI C it σd M with
  | ok x M2 =>
    rw [e, ok_bind] at h
    revert h
    generalize lcGo x.2 _ x.1 [] M2 = r
    intro h
    cases r <;> cases h; rfl
  | _ => rw [e] at h; cases h
theorem lc2_nw {own own1 : List Nat} {a : ME} {t t1 : MT} {it it1 : MI} {q q1 : MC} {σd : En} {M : Cs} {d : D} {M1 : Cs} (h : evE C (.lc2 own own1 a t it q t1 it1 q1) σd M = .ok d M1) : isNw d = true := by
  rw [evE] at h
  cases e : evI C it σd M with
  | ok x M2 =>
    rw [e, ok_bind] at h
    revert h
    generalize lcGo x.2 _ x.1 [] M2 = r
    intro h
    cases r <;> cases h; rfl
  | _ => rw [e] at h; cases h
theorem lrng_nw {p q : ME} {σd : En} {M : Cs} {d : D} {M1 : Cs} (h : evE C (.lrng p q) σd M = .ok d M1) : isNw d = true := by
  rw [evE] at h
  cases e : evE C p σd M with
  | ok x M2 =>
    rw [e, ok_bind] at h
    cases e2 : evE C q σd M2 with
    | ok y M3 =>
      rw [e2, ok_bind] at h
      cases e3 : (rngD x y).bind fun xs => if xs.length ≤ sizeLine then some (D.lst xs) else none with
      | none => rw [e3] at h; cases h
      | some z =>
        rw [e3] at h; cases h
        simp only [Option.bind_eq_some_iff] at e3
        obtain ⟨xs, _, e4⟩ := e3
        split at e4 <;> cases e4
        rfl
    | _ => rw [e2] at h; cases h
  | _ => rw [e] at h; cases h
theorem dc_nw {b : Bool} {own : List Nat} {k v : ME} {t : MT} {it : MI} {q : MC} {σd : En} {M : Cs} {d : D} {M1 : Cs} (h : evE C (.dc b own k v t it q) σd M = .ok d M1) : isNw d = true := by
  rw [evE] at h
  cases e : evI C it σd M with
  | ok x M2 =>
    rw [e, ok_bind] at h
    revert h
    generalize dcGo b x.2 _ x.1 [] [] M2 = r
    intro h
    cases r <;> cases h; rfl
  | _ => rw [e] at h; cases h
theorem ownN_snd (N : List Str) (own : List Nat) : (ownN N own).map (·.2) = own := by
  unfold ownN
  induction own with
  | nil => rfl
  | cons i r ih => simp at ih ⊢; exact ih
theorem cV_ok {i : Nat} {c : Ec} {e : Expr} {ω : Wk} {X : Cx} (h : cVar G i c e = true) (o : Okx G C ω X c) : PE X e (tVar i) := by
  unfold cVar at h
  split at h
  · simp only [Bool.and_eq_true, decide_eq_true_eq] at h
    obtain ⟨n1, n2⟩ := nm_of h.2
    exact pe_var (by rw [o.N]; exact h.1.1) (vis_of o h.1.2) n1 n2
  · cases h
theorem dvals_pe {i j : Nat} {w : Int} {c : Ec} {x y z nm : Str} {p1 p2 p4 pos : Pos} {k3 : Nat} {k : Const} {p3 ap cp : Pos} {scope : Scope} {ω : Wk} {X : Cx} (h0 : nm = "values") (hk : conB (.bl true) k = true) (hw : w = 0)
    (h1 : G.N[i]? = some z) (h2 : visB c.1 z = true) (h3 : nmB z = true) (h4 : (ap.endLine == cp.line) = true) (h5 : blkC G.N c.1 scope (ownN G.N [j]) = true) (h6 : G.N[j]? = some y) (h7 : stoB (relE scope c) y = true) (h8 : G.N[j]? = some x) (h9 : visB (relE scope c).1 x = true) (h10 : nmB x = true) (o : Okx G C ω X c) (hot : (!G.hot) = true) :
    PE X (.DictComp (.Name x p1) (.Constant k k3 p3) [⟨.Name y p2, .Call (.Attribute (.Name z p4) nm ap) [] [] cp, [], w⟩] scope pos) (tLockE (tDc (iVals (tVar i)) (gName j) tYes (tVar j) (tC (.bl true)) [j])) := by
  subst h0 hw
  have ek : k = .bool true := by
    cases k <;> simp [conB] at hk
    subst hk; rfl
  subst ek
  obtain ⟨n1, n2⟩ := nm_of h3
  obtain ⟨m1, m2⟩ := nm_of h10
  have nd := o.nd
  rw [← o.N] at nd h5
  rw [← o.sc] at h5
  have hv : PE X (.Name z p4) (tVar i) := pe_var (by rw [o.N]; exact h1) (vis_of o h2) n1 n2
  have p := pe_dc (pos := pos) (kx := .Name x p1) (vx := .Constant (.bool true) k3 p3) (g := gName j) (tk := tVar j) (tv := tC (.bl true)) (own := ownN X.N [j]) (o.cool hot) nd (pi_values (tg := .Name y p2) hv (sup_of rfl) h4) (blkOk_by h5) (fun s H Ca cl fp => ?_) (fun s H Ca cl fp => pts_nil) (fun s H Ca cl fp => ?_) (fun s H Ca cl fp => pe_bl)
  · rw [ownN_snd] at p
    exact pe_lock p
  · have o2 := o.blk s H scope Ca cl fp
    have nd2 := o2.nd
    rw [← o2.N] at nd2 h6
    unfold stoB at h7
    rw [← o2.sc] at h7
    split at h7
    · rename_i z; exact pg_name nd2 h6 (.inl z) (.inr z)
    · rename_i z; exact pg_name nd2 h6 (.inr z) (.inl (o2.fn _ h7))
    · cases h7
  · have o2 := o.blk s H scope Ca cl fp
    exact pe_var (by rw [o2.N]; exact h8) (vis_of o2 h9) m1 m2
theorem vB_ok {m : ME} {c : Ec} {e : Expr} {ω : Wk} {X : Cx} (h : vB G m c e = true) (o : Okx G C ω X c) : ∃ i, m = .var i ∧ PE X e (tVar i) := by
  unfold vB at h
  split at h
  · exact ⟨_, rfl, cV_ok h o⟩
  · cases h
theorem cVals_ok {i j : Nat} {c : Ec} {e : Expr} {ω : Wk} {X : Cx} (h : cVals G i j c e = true) (o : Okx G C ω X c) (hot : (!G.hot) = true) : PE X e (tLockE (tDc (iVals (tVar i)) (gName j) tYes (tVar j) (tC (.bl true)) [j])) := by
  unfold cVals at h
  split at h
  · simp only [Bool.and_eq_true, decide_eq_true_eq] at h
    obtain ⟨⟨⟨⟨⟨⟨⟨⟨⟨⟨⟨⟨g1, g2⟩, g3⟩, g4⟩, g5⟩, g6⟩, g7⟩, g8⟩, g9⟩, g10⟩, g11⟩, g12⟩, g13⟩ := h
    exact dvals_pe g1 g2 g3 g4 g5 g6 g7 g8 g9 g10 g11 g12 g13 o hot
  · cases h
theorem s_fld {a : ME} {f : Str} {cs : List Str} {c : Ec} {ω : Wk} {X : Cx} {σ : L2.St} {H : Hp} {Q : VK} (o : Okx G C ω X c) (all : ∀ x ∈ cs, G.xs.lookup x = some (some f)) (h : tE ω (evE C (.fld a f cs)) σ H Q) : tFld X.K f (tE ω (evE C a)) σ H Q := by
  obtain ⟨R, c', σd, M, m, rs, h⟩ := h
  rw [evE] at h
  refine ⟨R, c', σd, M, m, rs, h.bind fun x M1 v H1 c1 a1 r1 h1 => ?_⟩
  obtain ⟨d, e, h2⟩ := h1.opt
  cases x <;> simp only [fldD, reduceCtorEq] at e
  rename_i k as
  split at e
  · rename_i k' d' heq
    injection heq with q1 q2
    subst q1 q2
    split at e
    · rename_i hk
      cases e
      obtain ⟨A, e1, e2⟩ := o.xs k (some f) (all k hk)
      obtain ⟨⟨fI, T⟩, xf, at_⟩ := e2
      simp only [rlD, Rp] at r1
      obtain ⟨p, oe, u, B, rfl, g1, g2, g3, g4, g5, g6⟩ := r1
      have nm : ω.mg.nm = X.mg := by rw [← o.mg]; rfl
      have ea : ω.mg.att k = some f := by
        rw [← o.mg]
        show attK X.K X.mg k = _
        unfold attK
        rw [e1]
        exact at_
      rw [nm, e1] at g5
      obtain rfl : A = B := by
        injection g5 with z
        injection z
      rcases g6 with ⟨z, _⟩ | ⟨g, q, w, w1, w2, w3, w4, w5⟩
      · rw [ea] at z; cases z
      · rw [ea] at w1
        cases w1
        obtain ⟨w', r, z1, z2, z3⟩ := RpL.cons_iff.mp w5
        cases z1
        exact ⟨p, oe, u, A, q, w, rfl, g1, g3, g4, w2, w3, xf, T.nof, h2 _ H1 c1 (Aft.refl a1.2) z2⟩
    · cases e
  · cases e
/-! ### isinstance of exceptions: what the table says -/
theorem is_of {l : List (Str × Ct × Bool)} {k : Str} {t : Ct} {b : Bool} (h : isOf l k t = some b) : (k, t, b) ∈ l := by
  unfold isOf at h
  obtain ⟨p, h1, h2⟩ := Option.map_eq_some_iff.mp h
  have m := List.mem_of_find?_eq_some h1
  have e := List.find?_some h1
  simp only [Bool.and_eq_true, decide_eq_true_eq] at e
  obtain ⟨p1, p2, p3⟩ := p
  dsimp only at e h2
  obtain ⟨rfl, rfl⟩ := e
  subst h2
  exact m
theorem CtV.one {mg : Str → Option Value} {t : Ct} {v v' : V} {cv cv' : Value} (h : CtV mg t v cv) (h2 : CtV mg t v' cv') : v = v' ∧ cv = cv' := by
  cases t with
  | own y =>
    obtain ⟨B, e, rfl, rfl⟩ := h
    obtain ⟨B', e', rfl, rfl⟩ := h2
    rw [e] at e'
    cases e'
    exact ⟨rfl, rfl⟩
  | ty n => obtain ⟨rfl, rfl⟩ := h; obtain ⟨rfl, rfl⟩ := h2; exact ⟨rfl, rfl⟩
def CtL (mg : Str → Option Value) : List Ct → List V → List Value → Prop
  | [], vs, cvs => vs = [] ∧ cvs = []
  | t :: ts, vs, cvs => ∃ v cv vs' cvs', vs = v :: vs' ∧ cvs = cv :: cvs' ∧ CtV mg t v cv ∧ CtL mg ts vs' cvs'
theorem CtL.cls {mg : Str → Option Value} : ∀ {ts : List Ct} {vs : List V} {cvs : List Value}, CtL mg ts vs cvs → Paired ClsV vs cvs
  | [], _, _, h => by obtain ⟨rfl, rfl⟩ := h; exact .nil
  | t :: ts, _, _, h => by
    obtain ⟨v, cv, vs', cvs', rfl, rfl, h1, h2⟩ := h
    exact .cons h1.cls (CtL.cls h2)
theorem CtL.len {mg : Str → Option Value} : ∀ {ts : List Ct} {vs : List V} {cvs : List Value}, CtL mg ts vs cvs → vs.length = ts.length
  | [], _, _, h => by obtain ⟨rfl, rfl⟩ := h; rfl
  | t :: ts, _, _, h => by
    obtain ⟨v, cv, vs', cvs', rfl, rfl, h1, h2⟩ := h
    simp [CtL.len h2]
section
variable {G : Gx} {C : Cl} {ω : Wk} {X : Cx} {c : Ec}
theorem Okx.ans (o : Okx G C ω X c) {k : Str} {A : Addr} {t : Ct} {v : V} {cv : Value} {b : Bool} (hA : X.mg k = some (.ref A)) (hv : CtV X.mg t v cv) (h : isOf G.is k t = some b) : ExcC X.K A ∧ PySem.W.kitOne X.K (.ref A) cv = some b := by
  obtain ⟨A', v', cv', e1, e2, e3, e4⟩ := o.is _ _ _ (is_of h)
  rw [hA] at e1
  cases e1
  obtain ⟨_, rfl⟩ := hv.one e2
  exact ⟨e3, e4⟩
theorem Okx.any (o : Okx G C ω X c) {k : Str} {A : Addr} (hA : X.mg k = some (.ref A)) : ∀ {ts : List Ct} {vs : List V} {cvs : List Value} {b : Bool}, CtL X.mg ts vs cvs → isAny G.is k ts = some b → PySem.W.kitAny X.K (.ref A) cvs = some b
  | [], _, _, b, h, e => by obtain ⟨rfl, rfl⟩ := h; simp only [isAny, Option.some.injEq] at e; subst e; exact kitAny_nil
  | t :: ts, _, _, b, h, e => by
    obtain ⟨v, cv, vs', cvs', rfl, rfl, h1, h2⟩ := h
    rw [isAny] at e
    split at e
    · rename_i q
      cases e
      exact kitAny_cons (o.ans hA h1 q).2 (fun z => by cases z) (fun _ => rfl)
    · rename_i q
      exact kitAny_cons (o.ans hA h1 q).2 (fun _ => Okx.any o hA h2 e) (fun z => by cases z)
    · cases e
theorem Okx.exc (o : Okx G C ω X c) {k : Str} {A : Addr} (hA : X.mg k = some (.ref A)) {t : Ct} {ts : List Ct} {b : Bool} (e : isAny G.is k (t :: ts) = some b) : ExcC X.K A := by
  have key : ∀ q, isOf G.is k t = some q → ExcC X.K A := fun q hq => by
    obtain ⟨A', v', cv', e1, e2, e3, e4⟩ := o.is _ _ _ (is_of hq)
    rw [hA] at e1
    cases e1
    exact e3
  rw [isAny] at e
  split at e
  · rename_i q; exact key _ q
  · rename_i q; exact key _ q
  · cases e
theorem boot_ct : ∀ n ∈ ctNames, bootBuiltins (Str.ofString n) = some (.type n) ∧ (Str.ofString n == ("__debug__" : Str)) = false ∧ Str.ofString n ≠ "__name__" := by decide +kernel
theorem ctN_ok (o : Okx G C ω X c) {t : Ct} {e : Expr} (h : ctN G c t e = true) : ∃ v cv, CtV X.mg t v cv ∧ PE X e (tC v) ∧ plainE e = true := by
  unfold ctN at h
  split at h
  · simp only [Bool.and_eq_true, decide_eq_true_eq, List.any_eq_true] at h
    obtain ⟨⟨⟨rfl, h1⟩, h2⟩, ⟨k, t, b⟩, h3, rfl⟩ := h
    obtain ⟨A, v, cv, _, e2, _⟩ := o.is _ _ _ h3
    obtain ⟨B, e1, rfl, rfl⟩ := id e2
    exact ⟨_, _, e2, ⟨fun pins s σ H Q I q => ld_glob I (gl_of o h1) e1 ⟨.ref B, H, I, rfl, q⟩ (nm_of h2).1⟩, rfl⟩
  · simp only [Bool.and_eq_true, decide_eq_true_eq, List.any_eq_true] at h
    obtain ⟨⟨⟨⟨h0, rfl⟩, h1⟩, h2⟩, ⟨k, t, b⟩, h3, rfl⟩ := h
    obtain ⟨b1, b2, b3⟩ := boot_ct _ h0
    rename_i n _
    exact ⟨.ty _, _, ⟨rfl, rfl⟩, ⟨fun pins s σ H Q I q => ld_blt I (gl_of o h1) (o.bi _ h2) b1 ⟨.ty _, H, I, rfl, q⟩ b3 b2⟩, rfl⟩
  · cases h
theorem ctL_len : ∀ {ts : List Ct} {es : List Expr}, ctL G c ts es = true → ts.length = es.length
  | [], [], _ => rfl
  | [], _ :: _, h => by cases h
  | _ :: _, [], h => by cases h
  | t :: ts, e :: es, h => by
    simp only [ctL, Bool.and_eq_true] at h
    simp [ctL_len h.2]
theorem ctL_ok (o : Okx G C ω X c) : ∀ {ts : List Ct} {es : List Expr}, ctL G c ts es = true → ∃ vs cvs, CtL X.mg ts vs cvs ∧ ∃ t, PA X es t ∧ ∀ σ H (Q : List V → Hp → Prop), Q vs H → t σ H Q
  | [], [], _ => ⟨[], [], ⟨rfl, rfl⟩, tNil, pa_nil, fun _ _ _ q => q⟩
  | [], _ :: _, h => by cases h
  | _ :: _, [], h => by cases h
  | t :: ts, e :: es, h => by
    simp only [ctL, Bool.and_eq_true] at h
    obtain ⟨v, cv, h1, p1, pl⟩ := ctN_ok o h.1
    obtain ⟨vs, cvs, h2, t2, p2, q2⟩ := ctL_ok o h.2
    exact ⟨v :: vs, cv :: cvs, ⟨v, cv, vs, cvs, rfl, rfl, h1, h2⟩, tCons (tC v) t2, pa_cons p1 p2 (plain_star pl), fun σ H Q q => q2 σ H _ q⟩
end
mutual
theorem cE_ok : ∀ (m : ME) (c : Ec) (e : Expr) (ω : Wk) (X : Cx), cE G m c e = true → Okx G C ω X c → PE X e (tE ω (evE C m))
  | .var i, c, e, ω, X, h, o => by
    unfold cE at h
    split at h
    · simp only [Bool.and_eq_true, decide_eq_true_eq] at h
      obtain ⟨n1, n2⟩ := nm_of h.2
      exact (pe_var (by rw [o.N]; exact h.1.1) (vis_of o h.1.2) n1 n2).imp fun _ _ _ => s_var
    · cases h
  | .con d, c, e, ω, X, h, o => by
    unfold cE at h
    split at h
    · obtain ⟨v, p, r⟩ := con_pe (X := X) h
      exact p.imp fun _ _ _ => s_con r
    · cases h
  | .gl x d, c, e, ω, X, h, o => by
    unfold cE at h
    split at h
    · simp only [Bool.and_eq_true, decide_eq_true_eq] at h
      obtain ⟨⟨⟨⟨rfl, h1⟩, h2⟩, h3⟩, h4⟩ := h
      obtain ⟨u, v, e1, e2, e3⟩ := o.cs x d h3 h4
      exact (pe_glob (gl_of o h1) e1 e2 (nm_of h2).1).imp fun _ _ _ => s_gl e3
    · cases h
  | .fn _, c, e, ω, X, h, o => by unfold cE at h; cases h
  | .bin op a b, c, e, ω, X, h, o => by
    unfold cE at h
    split at h
    · simp only [Bool.and_eq_true, decide_eq_true_eq] at h
      obtain ⟨⟨rfl, h1⟩, h2⟩ := h
      exact (pe_op (op2_bin op) (cE_ok a c _ ω X h1 o) (cE_ok b c _ ω X h2 o)).imp fun _ _ _ q => by rw [o.mg]; exact s_bin q
    · cases h
  | .neg a, c, e, ω, X, h, o => by
    unfold cE at h
    split at h
    · simp only [Bool.and_eq_true, decide_eq_true_eq] at h
      obtain ⟨rfl, h1⟩ := h
      exact (pe_un un_neg (cE_ok a c _ ω X h1 o)).imp fun _ _ _ => s_neg
    · cases h
  | .not q, c, e, ω, X, h, o => by
    unfold cE at h
    split at h
    · simp only [Bool.and_eq_true, decide_eq_true_eq] at h
      obtain ⟨rfl, h1⟩ := h
      exact cN_ok q c _ ω X h1 o
    · cases h
  | .and a b, c, e, ω, X, h, o => by
    unfold cE at h
    split at h
    · simp only [Bool.and_eq_true, decide_eq_true_eq] at h
      obtain ⟨⟨rfl, h1⟩, h2⟩ := h
      exact (pe_andT (cE_ok a c _ ω X h1 o) (rest_pe (cE_ok b c _ ω X h2 o))).imp fun _ _ _ => s_and
    · cases h
  | .or a b, c, e, ω, X, h, o => by
    unfold cE at h
    split at h
    · simp only [Bool.and_eq_true, decide_eq_true_eq] at h
      obtain ⟨⟨rfl, h1⟩, h2⟩ := h
      exact (pe_orT (cE_ok a c _ ω X h1 o) (rest_pe (cE_ok b c _ ω X h2 o))).imp fun _ _ _ => s_or
    · cases h
  | .cmp op a b, c, e, ω, X, h, o => by
    unfold cE at h
    split at h
    · simp only [Bool.and_eq_true, decide_eq_true_eq, Bool.not_eq_true'] at h
      obtain ⟨⟨⟨rfl, h0⟩, h1⟩, h2⟩ := h
      exact (pe_cmpR (op2_cmp (by have := o.un; omega) op) (cE_ok a c _ ω X h1 o) (cE_ok b c _ ω X h2 o) h0).imp fun _ _ _ q => by rw [o.mg]; exact s_cmp q
    · cases h
  | .chain op op' a b d, c, e, ω, X, h, o => by
    unfold cE at h
    split at h
    · simp only [Bool.and_eq_true, decide_eq_true_eq, Bool.not_eq_true'] at h
      obtain ⟨⟨⟨⟨⟨rfl, rfl⟩, h0⟩, h1⟩, h2⟩, h3⟩ := h
      exact (pe_chain (op2_cmp (by have := o.un; omega) op) (op2_cmp (by have := o.un; omega) op') (cE_ok a c _ ω X h1 o) (cE_ok b c _ ω X h2 o) (cE_ok d c _ ω X h3 o) h0).imp fun _ _ _ q => by rw [o.mg]; exact s_chain q
    · cases h
  | .ite q a b, c, e, ω, X, h, o => by
    unfold cE at h
    split at h
    · simp only [Bool.and_eq_true] at h
      exact (pe_ifExp (cB_ok q c _ ω X h.1.1 o) (cE_ok a c _ ω X h.1.2 o) (cE_ok b c _ ω X h.2 o)).imp fun _ _ _ => s_ite
    · cases h
  | .idx a i, c, e, ω, X, h, o => by
    unfold cE at h
    split at h
    · simp only [Bool.and_eq_true] at h
      exact (pe_ix (ix_ok (by have := o.un; omega)) (cE_ok a c _ ω X h.1.2 o) (cE_ok i c _ ω X h.2 o) (ix_of h.1.1)).imp fun _ _ _ q => by rw [o.mg]; exact s_idx q
    · cases h
  | .slc a lo hi, c, e, ω, X, h, o => by
    unfold cE at h
    split at h
    · simp only [Bool.and_eq_true] at h
      exact (pe_slice sl_ok (cE_ok a c _ ω X h.1.1 o) (cO_ok lo c _ ω X h.1.2 o) (cO_ok hi c _ ω X h.2 o)).imp fun _ _ _ q => by rw [o.mg]; exact s_slc q
    · cases h
  | .tup es, c, e, ω, X, h, o => by
    unfold cE at h
    split at h
    · exact (pe_tup (cEs_ok es c _ ω X h o)).imp fun _ _ _ => s_tup
    · cases h
  | .lst es, c, e, ω, X, h, o => by
    unfold cE at h
    split at h
    · exact (pe_lst (cEs_ok es c _ ω X h o)).imp fun _ _ _ q => s_lst (s_fresh (fun _ _ _ _ => lst_nw) q)
    · cases h
  | .dsp t ps, c, e, ω, X, h, o => by
    unfold cE at h
    split at h
    · simp only [Bool.and_eq_true, decide_eq_true_eq] at h
      exact (dsp_pe o h.1 h.2).imp fun _ _ _ q => s_fresh (fun _ _ _ _ => dsp_nw) q
    · cases h
  | .rev a, c, e, ω, X, h, o => by
    unfold cE at h
    split at h
    · exact (pe_rev (cE_ok a c _ ω X h o)).imp fun _ _ _ => s_rev
    · cases h
  | .dput a k v, c, e, ω, X, h, o => by
    unfold cE at h
    split at h
    · simp only [Bool.and_eq_true] at h
      obtain ⟨i, rfl, g1⟩ := vB_ok h.1.1 o
      obtain ⟨j, rfl, g2⟩ := vB_ok h.1.2 o
      obtain ⟨l, rfl, g3⟩ := vB_ok h.2 o
      exact (pe_dput g1 g2 g3).imp fun _ _ _ => s_dput
    · cases h
  | .dputT a k v, c, e, ω, X, h, o => by
    unfold cE at h
    split at h
    · simp only [Bool.and_eq_true] at h
      obtain ⟨i, rfl, g1⟩ := vB_ok h.1.1 o
      exact (pe_dputT (by have := o.un; omega) g1 (cE_ok k c _ ω X h.1.2 o) (cE_ok v c _ ω X h.2 o)).imp fun _ _ _ => s_dputT
    · cases h
  | .ise a ts tp cs ns, c, e, ω, X, h, o => by
    unfold cE at h
    split at h
    · simp only [Bool.and_eq_true, decide_eq_true_eq] at h
      obtain ⟨⟨⟨⟨⟨⟨⟨⟨rfl, h1⟩, h2⟩, h3⟩, h4⟩, h5⟩, h6⟩, h7⟩, h8⟩ := h
      have yes := fun k hk => eq_of_beq (List.all_eq_true.mp h6 k hk)
      have no := fun k hk => eq_of_beq (List.all_eq_true.mp h7 k hk)
      unfold ctE at h5
      split at h5
      · rename_i t _
        obtain ⟨v, cv, k1, p1, pl⟩ := ctN_ok o h5
        refine (pe_callB call_isx (gl_of o h1) (o.bi _ h2) PyProof.Rows.boot_isinstance (pa_cons (cE_ok a c _ ω X h8 o) (pa_cons p1 pa_nil (plain_star pl)) (plain_star h3)) (by decide) (by decide) (plain_star h3) (plain_any (by simp [pl]))).imp fun _ _ _ q => s_ise1 k1.cls (fun k A hA hk => ?_) (fun k A hA hk => ?_) q
        · rw [o.nm] at hA
          have y := yes k hk
          simp only [isAny] at y
          split at y
          · rename_i z; exact o.ans hA k1 z
          · cases y
          · cases y
        · rw [o.nm] at hA
          have y := no k hk
          simp only [isAny] at y
          split at y
          · cases y
          · rename_i z; exact o.ans hA k1 z
          · cases y
      · rename_i t r es _ _
        simp only [Bool.and_eq_true, decide_eq_true_eq] at h5
        obtain ⟨⟨h5, h9⟩, h10⟩ := h5
        obtain ⟨vs, cvs, k1, tt, p1, q1⟩ := ctL_ok o h5
        refine (pe_callB call_isxT (gl_of o h1) (o.bi _ h2) PyProof.Rows.boot_isinstance (pa_cons (cE_ok a c _ ω X h8 o) (pa_cons (pe_tup p1) pa_nil (plain_star h4)) (plain_star h3)) (by decide) (by decide) (plain_star h3) (plain_any (by simp [h4]))).imp fun _ _ _ q => s_iseT k1.cls ?_ (fun k A hA hk => ?_) (fun k A hA hk => ?_) (fun H Q q => q1 _ H Q q) q
        · rw [k1.len, ctL_len h5]; rw [sizeLine_eq]; omega
        · rw [o.nm] at hA
          exact ⟨o.exc hA (yes k hk), o.any hA k1 (yes k hk)⟩
        · rw [o.nm] at hA
          exact ⟨o.exc hA (no k hk), o.any hA k1 (no k hk)⟩
      · cases h5
    · cases h
  | .exn x es, c, e, ω, X, h, o => by
    unfold cE at h
    split at h
    · simp only [Bool.and_eq_true, decide_eq_true_eq, Bool.not_eq_true'] at h
      obtain ⟨⟨⟨⟨rfl, h1⟩, h2⟩, hot⟩, h⟩ := h
      split at h
      · obtain ⟨A, e1, e2, e3, e4, e5⟩ := o.xs x none (of_decide_eq_true h)
        exact (pe_mk (pmk_no e2 e1 e3 e4 (gl_of o h1) (nm_of h2).1)).imp fun _ _ _ q => s_exn0 (by rw [o.nm]; exact e1) (by rw [o.at_ e1]; exact e5) q
      · simp only [Bool.and_eq_true] at h
        obtain ⟨⟨h3, h4⟩, h5⟩ := h
        cases hx : G.xs.lookup x with
        | none => rw [hx] at h4; cases h4
        | some g =>
          cases g with
          | none => rw [hx] at h4; cases h4
          | some f =>
            obtain ⟨A, e1, ⟨fI, T⟩, e3, e4⟩ := o.xs x (some f) hx
            exact (pe_mk (pmk_in T (o.room hot) e1 o.sup (gl_of o h1) (cE_ok _ c _ ω X h5 o) (nm_of h2).1 (plain_star h3))).imp fun _ _ _ q => s_exn1 (by rw [o.nm]; exact e1) (by rw [o.at_ e1]; exact e4) q
      · simp only [Bool.and_eq_true, decide_eq_true_eq] at h
        obtain ⟨A, e1, ⟨fI, T⟩, e3, e4⟩ := o.xs x _ h.1
        exact (pe_mk (t := tMkI A _ _) (pmk_kw T (o.room hot) e1 o.sup (gl_of o h1) (nm_of h2).1 (pk_cons (cE_ok _ c _ ω X h.2 o) pk_nil) rfl rfl rfl)).imp fun _ _ _ q => s_exn1 (by rw [o.nm]; exact e1) (by rw [o.at_ e1]; exact e4) q
      · cases h
    · cases h
  | .fld a f cs, c, e, ω, X, h, o => by
    unfold cE at h
    split at h
    · simp only [Bool.and_eq_true, decide_eq_true_eq, List.all_eq_true] at h
      obtain ⟨⟨⟨rfl, h1⟩, h2⟩, h3⟩ := h
      exact (pe_fldX (cE_ok a c _ ω X h3 o) (sup_of h1)).imp fun _ _ _ q => s_fld o h2 q
    · cases h
  | .kin _ _ _, c, e, ω, X, h, o => by unfold cE at h; cases h
  | .dvals i j, c, e, ω, X, h, o => by
    unfold cE at h
    simp only [Bool.and_eq_true] at h
    exact (cVals_ok h.1 o h.2).imp fun _ _ _ => s_dvals
  | .sset a, c, e, ω, X, h, o => by
    unfold cE at h
    split at h
    · simp only [Bool.and_eq_true, decide_eq_true_eq] at h
      obtain ⟨⟨⟨⟨⟨⟨⟨⟨rfl, h1⟩, h2⟩, rfl⟩, h3⟩, h4⟩, h5⟩, h6⟩, hot⟩ := h
      exact (pe_sset (o.cool hot) (gl_of o h1) (o.bi _ h2) (gl_of o h3) (o.bi _ h4) (cE_ok a c _ ω X h6 o) (plain_star h5)).imp fun _ _ _ q => s_sset q
    · cases h
  | .dzip t a b, c, e, ω, X, h, o => by
    unfold cE at h
    split at h
    · simp only [Bool.and_eq_true, decide_eq_true_eq] at h
      obtain ⟨⟨⟨⟨⟨⟨⟨⟨⟨⟨rfl, h1⟩, h2⟩, rfl⟩, h3⟩, h4⟩, h5⟩, h6⟩, h7⟩, h8⟩, hot⟩ := h
      exact (pe_dzip (o.cool hot) (by have := o.un; omega) (gl_of o h1) (o.bi _ h2) (gl_of o h3) (o.bi _ h4) (pa_cons (cE_ok a c _ ω X h7 o) (pa_cons (cE_ok b c _ ω X h8 o) pa_nil (plain_star h6)) (plain_star h5)) (plain_star h5) (plain_any (by simp [h6])) (plain_star rfl)).imp fun _ _ _ => s_dzip
    · cases h
  | .lc own a t it q, c, e, ω, X, h, o => by
    unfold cE at h
    split at h
    · rename_i pos
      simp only [Bool.and_eq_true, decide_eq_true_eq] at h
      obtain ⟨⟨⟨⟨⟨⟨⟨⟨rfl, h1⟩, h2⟩, h3⟩, h4⟩, h5⟩, h6⟩, h7⟩, hot⟩ := h
      have nd := o.nd
      rw [← o.N] at nd h3
      rw [← o.sc] at h3
      have p := pe_lc (pos := pos) (own := ownN X.N own) (g := gOf ω.no C X.K t) (o.cool hot) nd (cI_ok it c _ _ ω X h4 o) (blkOk_by h3) (fun s H Ca cl fp => cT_ok t _ _ ω.no _ h5 (o.blk s H _ Ca cl fp)) (fun s H Ca cl fp => cC_ok q _ _ ω.no _ h6 (o.blk s H _ Ca cl fp)) (fun s H Ca cl fp => cE_ok a _ _ ω.no _ h7 (o.blk s H _ Ca cl fp)) (set_of h1)
      rw [ownN_snd] at p
      exact p.imp fun _ _ _ q => s_lc h2 (s_fresh (fun _ _ _ _ => lc_nw) q)
    · cases h
  | .lc2 own own1 a t it q t1 it1 q1, c, e, ω, X, h, o => by
    unfold cE at h
    split at h
    · rename_i pos
      simp only [Bool.and_eq_true, decide_eq_true_eq, List.all_eq_true] at h
      obtain ⟨⟨⟨⟨⟨⟨⟨⟨⟨⟨⟨⟨⟨⟨⟨rfl, rfl⟩, h1⟩, h1'⟩, h2⟩, h2'⟩, hv⟩, h3⟩, h4⟩, h5⟩, h6⟩, h4'⟩, h5'⟩, h6'⟩, h7⟩, hot⟩ := h
      have nd := o.nd
      rw [← o.N] at nd h3
      rw [← o.sc] at h3
      have p := pe_lc2 (pos := pos) (own := ownN X.N own) (g := gOf ω.no C X.K t) (g1 := gOf ω.no C X.K t1) (vs1 := own1) (o.cool hot) nd (cI_ok it c _ _ ω X h4 o) (blkOk_by h3) (by rw [ownN_snd]; exact hv) (fun s H Ca cl fp => cT_ok t _ _ ω.no _ h5 (o.blk s H _ Ca cl fp)) (fun s H Ca cl fp => cC_ok q _ _ ω.no _ h6 (o.blk s H _ Ca cl fp))
        (fun s H Ca cl fp => cI_ok it1 _ _ _ ω.no _ h4' (o.blk s H _ Ca cl fp)) (fun s H Ca cl fp => cT_ok t1 _ _ ω.no _ h5' (o.blk s H _ Ca cl fp)) (fun s H Ca cl fp => cC_ok q1 _ _ ω.no _ h6' (o.blk s H _ Ca cl fp)) (fun s H Ca cl fp => cE_ok a _ _ ω.no _ h7 (o.blk s H _ Ca cl fp)) (set_of h1) (fun env x => set_of h1' x)
      rw [ownN_snd] at p
      exact p.imp fun _ _ _ q => s_lc2 h2 h2' (s_fresh (fun _ _ _ _ => lc2_nw) q)
    · cases h
  | .dc b own k v t it q, c, e, ω, X, h, o => by
    unfold cE at h
    split at h
    · rename_i pos
      simp only [Bool.and_eq_true, decide_eq_true_eq] at h
      obtain ⟨⟨⟨⟨⟨⟨⟨⟨⟨rfl, h1⟩, h2⟩, h3⟩, h4⟩, h5⟩, h6⟩, h7⟩, h8⟩, hot⟩ := h
      have nd := o.nd
      rw [← o.N] at nd h3
      rw [← o.sc] at h3
      have p := pe_dict (pos := pos) (K := X.K) (b := b) (own := ownN X.N own) (k := k) (v := v) (t := t) (o.cool hot) nd (by have := o.un; omega) (by rw [ownN_snd]; exact h2) (cI_ok it c _ _ ω X h4 o) (blkOk_by h3) (set_of h1)
        (fun s H Ca cl fp => ⟨cT_ok t _ _ ω.no _ h5 (o.blk s H _ Ca cl fp), cC_ok q _ _ ω.no _ h6 (o.blk s H _ Ca cl fp), cE_ok k _ _ ω.no _ h7 (o.blk s H _ Ca cl fp), cE_ok v _ _ ω.no _ h8 (o.blk s H _ Ca cl fp)⟩)
      rw [ownN_snd] at p
      exact p.imp fun _ _ _ q => s_fresh (fun _ _ _ _ => dc_nw) q
    · cases h
  | .call f es ks perm, c, e, ω, X, h, o => by
    unfold cE at h
    split at h
    · rename_i x0 pos1 xs kws pos0
      split at h
      · rename_i pr hf
        obtain ⟨y, ps⟩ := pr
        simp only [Bool.and_eq_true, decide_eq_true_eq] at h
        obtain ⟨⟨⟨⟨⟨⟨⟨⟨hot, rfl⟩, h1⟩, h2⟩, h3⟩, h4⟩, h5⟩, h6⟩, h7⟩ := h
        have l1 := cEs_len h6 h3
        have l2 := cKs_len h7
        have l3 := kwAll_len h4
        have fin : ∀ (ω' : Wk) (l : Nat), l = ps.length → ∀ {σ : L2.St} {H : Hp} {Q : VK}, tE ω' (evE C (.call f es ks perm)) σ H Q → tCallG (spF ω'.mg ps.length (C.call f)) xs.length (kwNames kws).length perm (WE ω'.W) (tA ω' (evEs C es)) (tA ω' (evEs C ks)) σ H Q := fun ω' l hl {σ H Q} q => by
          rw [l3]
          refine s_call l1 l2 ?_ q
          unfold kwShape at h5
          split at h5
          · rename_i z
            simp only [Bool.and_eq_true, List.isEmpty_iff, beq_iff_eq] at h5
            rw [if_pos h5.1, h5.2]
            rw [z] at l3
            have l4 := l3
            simp only [List.length_nil] at l4
            omega
          · simp only [Bool.and_eq_true, decide_eq_true_eq] at h5
            have e1 : perm = permOf ps _ _ := h5.1.1.1.1.1
            have ne : perm ≠ [] := by
              rw [e1]; unfold permOf
              have := h5.2
              cases ps <;> simp at this ⊢
            rw [if_neg ne, e1]
            simp [permOf]
        have nul : ∀ (ω' : Wk), xs = [] → ∀ σ H (Q : List V → Hp → Prop), tA ω' (evEs C es) σ H Q → Q [] H := fun ω' e0 σ H Q q => by
          subst e0
          cases es with
          | nil => exact s_nil q
          | cons => simp [MEs.len] at l1
          | star => simp [MEs.len] at l1
        cases hh : G.hot with
        | false =>
          obtain ⟨a, fd, k, g1, g2, g3, g4, g5⟩ := o.fns hh _ _ _ hf
          exact (pe_callG g4 g3 o.gd (gl_of o h1) g1 g2 (g5 _ _ _ h5) (fun σ => passAt o.tk σ) (cEs_ok es c _ ω X h6 o) (cKs_ok ks c _ ω X h7 o) h3 h4 rfl (nul ω) (nm_of h2).1).imp fun _ _ _ q => fin ω _ rfl q
        | true =>
          rw [hh] at hot
          simp only [Bool.not_true, Bool.false_or] at hot
          obtain ⟨a, fd, k, g1, g2, g3, g4, g5⟩ := o.fnh _ _ _ hf hot
          obtain ⟨b, hb⟩ := o.han hh
          have o' : Okx G C ω.no X c := { o with tk := takes_none5, qt := fun _ _ _ _ _ z => z, fns := fun z => by rw [hh] at z; cases z }
          exact (pe_callGH g4 hb g3 o.gd (gl_of o h1) g1 g2 (g5 _ _ _ h5) (cEs_ok es c _ ω.no X h6 o') (cKs_ok ks c _ ω.no X h7 o') h3 h4 rfl (nul ω.no) (nm_of h2).1).imp fun _ _ _ q => fin ω.no _ rfl (tE_no (o.qt hh) q)
      · cases h
    · cases h
  | .blt b es, c, e, ω, X, h, o => by
    unfold cE at h
    split at h
    · simp only [Bool.and_eq_true, decide_eq_true_eq] at h
      obtain ⟨⟨⟨⟨⟨rfl, h1⟩, h2⟩, h3⟩, h4⟩, hot⟩ := h
      exact (bf_call (blt_hot o.sy ((Bool.or_eq_true_iff.mp hot).imp o.cool id) (by have := o.un; omega) o.gd) (gl_of o h1) (o.bi _ h2) (cEs_ok es c _ ω X h4 o) h3).imp fun _ _ _ q => by rw [o.mg]; exact s_blt q
    · cases h
  | .lrng a b, c, e, ω, X, h, o => by
    unfold cE at h
    split at h
    · simp only [Bool.and_eq_true, decide_eq_true_eq] at h
      obtain ⟨⟨⟨⟨⟨⟨⟨⟨⟨rfl, h1⟩, h2⟩, rfl⟩, h3⟩, h4⟩, h5⟩, h6⟩, h7⟩, hot⟩ := h
      have ea : a = .con (.int 0) := by
        split at h6
        · rfl
        · cases h6
      subst ea
      exact (pe_listRg (o.cool hot) (gl_of o h1) (o.bi _ h2) (prg_1 (gl_of o h3) (o.bi _ h4) (cE_ok b c _ ω X h7 o) (plain_star h5)) (plain_star rfl)).imp fun _ _ _ q => sF_lrng1 (s_fresh (fun _ _ _ _ => lrng_nw) q)
    · simp only [Bool.and_eq_true, decide_eq_true_eq] at h
      obtain ⟨⟨⟨⟨⟨⟨⟨⟨⟨⟨rfl, h1⟩, h2⟩, rfl⟩, h3⟩, h4⟩, h5⟩, h6⟩, h7⟩, h8⟩, hot⟩ := h
      exact (pe_listRg (o.cool hot) (gl_of o h1) (o.bi _ h2) (prg_2 (gl_of o h3) (o.bi _ h4) (cE_ok a c _ ω X h7 o) (cE_ok b c _ ω X h8 o) (plain_star h5) (plain_star h6) (plain_any (by simp [h6]))) (plain_star rfl)).imp fun _ _ _ q => sF_lrng (s_fresh (fun _ _ _ _ => lrng_nw) q)
    · cases h
  | .isa a t, c, e, ω, X, h, o => by
    unfold cE at h
    split at h
    · simp only [Bool.and_eq_true, decide_eq_true_eq] at h
      obtain ⟨⟨⟨⟨⟨⟨⟨rfl, rfl⟩, h1⟩, h2⟩, h3⟩, h4⟩, h5⟩, h6⟩ := h
      refine (pe_callB call_isi (gl_of o h1) (o.bi _ h3) PyProof.Rows.boot_isinstance (pa_cons (cE_ok a c _ ω X h6 o) (pa_cons (ty_pe (gl_of o h2) (o.bi _ h4)) pa_nil rfl) (plain_star h5)) (by decide) (by decide) (plain_star h5) rfl).imp fun _ _ _ q => s_isa q
    · cases h
  | .met m ob es, c, e, ω, X, h, o => by
    unfold cE at h
    split at h
    · simp only [Bool.and_eq_true, decide_eq_true_eq] at h
      obtain ⟨⟨⟨⟨⟨⟨hm, h1⟩, h2⟩, h3⟩, h4⟩, h5⟩, h6⟩ := h
      have pl := h3
      simp only [List.all_cons, Bool.and_eq_true] at pl
      have i1 := cE_ok ob c _ ω X h5 o
      have i2 := cEs_ok es c _ ω X h6 o
      cases m with
      | lindex =>
        obtain rfl := of_decide_eq_true hm
        exact (pe_bm PySem.F.plainAttrs_list PySem.F.slot_list_index PySem.F.type_list_index (mt_lindex (by have := o.un; omega)) i1 i2 (sup_of h1) (few_of h3 h4) h2 (plain_star pl.1) (plain_any pl.2)).imp fun _ _ _ q => by rw [o.mg]; exact s_lindex q
      | tindex => cases hm
      | get =>
        obtain rfl := of_decide_eq_true hm
        exact (pe_bm PySem.F.plainAttrs_dict PySem.F.slot_dict_get PySem.F.type_dict_get (mt_get (by have := o.un; omega)) i1 i2 (sup_of h1) (few_of h3 h4) h2 (plain_star pl.1) (plain_any pl.2)).imp fun _ _ _ q => by rw [o.mg]; exact s_get q
    · cases h
  | .mut m ob es, c, e, ω, X, h, o => by
    unfold cE at h
    split at h
    · simp only [Bool.and_eq_true, decide_eq_true_eq] at h
      obtain ⟨⟨⟨⟨rfl, h1⟩, h2⟩, h3⟩, h4⟩ := h
      cases es <;> simp at h4
      obtain ⟨id, m1, m2, m3⟩ := mu_all (X := X) m
      exact (pe_bm0 PySem.F.plainAttrs_list m1 m2 m3 (cE_ok ob c _ ω X h3 o) (sup_of h1) h2).imp fun _ _ _ q => by rw [o.mg]; exact s_mut0 q
    · simp only [Bool.and_eq_true, decide_eq_true_eq] at h
      obtain ⟨⟨⟨⟨⟨⟨rfl, h1⟩, h2⟩, h3⟩, h4⟩, h5⟩, h6⟩ := h
      have pl := h3
      simp only [List.all_cons, Bool.and_eq_true] at pl
      obtain ⟨id, m1, m2, m3⟩ := mu_all (X := X) m
      exact (pe_bm PySem.F.plainAttrs_list m1 m2 m3 (cE_ok ob c _ ω X h5 o) (cEs_ok es c _ ω X h6 o) (sup_of h1) (few_of h3 h4) h2 (plain_star pl.1) (plain_any pl.2)).imp fun _ _ _ q => by rw [o.mg]; exact s_mut q
    · cases h
  | .new a, c, e, ω, X, h, o => by
    unfold cE at h
    exact (cF_ok a c e ω X h o).imp fun _ _ _ => s_new
  | .frz a, c, e, ω, X, h, o => by
    unfold cE at h
    exact (cE_ok a c e ω X h o).imp fun _ _ _ => s_frz
theorem cF_ok : ∀ (m : ME) (c : Ec) (e : Expr) (ω : Wk) (X : Cx), cF G m c e = true → Okx G C ω X c → PE X e (tF ω (evE C m))
  | .bin op a b, c, e, ω, X, h, o => by
    unfold cF at h
    split at h
    · simp only [Bool.and_eq_true, Bool.or_eq_true, decide_eq_true_eq] at h
      obtain ⟨⟨⟨rfl, h0⟩, h1⟩, h2⟩ := h
      rcases h0 with rfl | rfl
      · exact (pe_op opF_add (cE_ok a c _ ω X h1 o) (cE_ok b c _ ω X h2 o)).imp fun _ _ _ q => by rw [o.mg]; exact sF_bin (fun _ _ _ => addL_of) q
      · exact (pe_op opF_mul (cE_ok a c _ ω X h1 o) (cE_ok b c _ ω X h2 o)).imp fun _ _ _ q => by rw [o.mg]; exact sF_bin (fun _ _ _ => mulL_of) q
    · cases h
  | .lst es, c, e, ω, X, h, o => by
    unfold cF at h
    split at h
    · exact (pe_lst (cEs_ok es c _ ω X h o)).imp fun _ _ _ => s_lst
    · cases h
  | .lc own a t it q, c, e, ω, X, h, o => by
    unfold cF at h
    split at h
    · rename_i pos
      simp only [Bool.and_eq_true, decide_eq_true_eq] at h
      obtain ⟨⟨⟨⟨⟨⟨⟨⟨rfl, h1⟩, h2⟩, h3⟩, h4⟩, h5⟩, h6⟩, h7⟩, hot⟩ := h
      have nd := o.nd
      rw [← o.N] at nd h3
      rw [← o.sc] at h3
      have p := pe_lc (pos := pos) (own := ownN X.N own) (g := gOf ω.no C X.K t) (o.cool hot) nd (cI_ok it c _ _ ω X h4 o) (blkOk_by h3) (fun s H Ca cl fp => cT_ok t _ _ ω.no _ h5 (o.blk s H _ Ca cl fp)) (fun s H Ca cl fp => cC_ok q _ _ ω.no _ h6 (o.blk s H _ Ca cl fp)) (fun s H Ca cl fp => cE_ok a _ _ ω.no _ h7 (o.blk s H _ Ca cl fp)) (set_of h1)
      rw [ownN_snd] at p
      exact p.imp fun _ _ _ q => s_lc h2 q
    · cases h
  | .dc b own k v t it q, c, e, ω, X, h, o => by
    unfold cF at h
    split at h
    · rename_i pos
      simp only [Bool.and_eq_true, decide_eq_true_eq] at h
      obtain ⟨⟨⟨⟨⟨⟨⟨⟨⟨rfl, h1⟩, h2⟩, h3⟩, h4⟩, h5⟩, h6⟩, h7⟩, h8⟩, hot⟩ := h
      have nd := o.nd
      rw [← o.N] at nd h3
      rw [← o.sc] at h3
      have p := pe_dict (pos := pos) (K := X.K) (b := b) (own := ownN X.N own) (k := k) (v := v) (t := t) (o.cool hot) nd (by have := o.un; omega) (by rw [ownN_snd]; exact h2) (cI_ok it c _ _ ω X h4 o) (blkOk_by h3) (set_of h1)
        (fun s H Ca cl fp => ⟨cT_ok t _ _ ω.no _ h5 (o.blk s H _ Ca cl fp), cC_ok q _ _ ω.no _ h6 (o.blk s H _ Ca cl fp), cE_ok k _ _ ω.no _ h7 (o.blk s H _ Ca cl fp), cE_ok v _ _ ω.no _ h8 (o.blk s H _ Ca cl fp)⟩)
      rw [ownN_snd] at p
      exact p
    · cases h
  | .blt b es, c, e, ω, X, h, o => by
    unfold cF at h
    split at h
    · simp only [Bool.and_eq_true, decide_eq_true_eq] at h
      obtain ⟨⟨⟨⟨⟨⟨h0, rfl⟩, h1⟩, h2⟩, h3⟩, h4⟩, hot⟩ := h
      have key : CallR X (bfV b) (rBF X.Mg (bltD b)) := by
        cases b <;> simp at h0
        · exact bltF_sorted (o.cool hot) (by have := o.un; omega)
        · exact bltF_list (o.cool hot)
      exact (bf_call key (gl_of o h1) (o.bi _ h2) (cEs_ok es c _ ω X h4 o) h3).imp fun _ _ _ q => by rw [o.mg]; exact sF_blt q
    · cases h
  | .var _, c, e, ω, X, h, o => by unfold cF at h; cases h
  | .con _, c, e, ω, X, h, o => by unfold cF at h; cases h
  | .gl _ _, c, e, ω, X, h, o => by unfold cF at h; cases h
  | .fn _, c, e, ω, X, h, o => by unfold cF at h; cases h
  | .neg _, c, e, ω, X, h, o => by unfold cF at h; cases h
  | .not _, c, e, ω, X, h, o => by unfold cF at h; cases h
  | .and _ _, c, e, ω, X, h, o => by unfold cF at h; cases h
  | .or _ _, c, e, ω, X, h, o => by unfold cF at h; cases h
  | .cmp _ _ _, c, e, ω, X, h, o => by unfold cF at h; cases h
  | .chain _ _ _ _ _, c, e, ω, X, h, o => by unfold cF at h; cases h
  | .ite _ _ _, c, e, ω, X, h, o => by unfold cF at h; cases h
  | .idx _ _, c, e, ω, X, h, o => by unfold cF at h; cases h
  | .slc _ _ _, c, e, ω, X, h, o => by unfold cF at h; cases h
  | .tup _, c, e, ω, X, h, o => by unfold cF at h; cases h
  | .dsp t ps, c, e, ω, X, h, o => by
    unfold cF at h
    split at h
    · simp only [Bool.and_eq_true, decide_eq_true_eq] at h
      exact dsp_pe o h.1 h.2
    · cases h
  | .rev _, c, e, ω, X, h, o => by unfold cF at h; cases h
  | .dput _ _ _, c, e, ω, X, h, o => by unfold cF at h; cases h
  | .dputT _ _ _, c, e, ω, X, h, o => by unfold cF at h; cases h
  | .ise _ _ _ _ _, c, e, ω, X, h, o => by unfold cF at h; cases h
  | .exn _ _, c, e, ω, X, h, o => by unfold cF at h; cases h
  | .fld _ _ _, c, e, ω, X, h, o => by unfold cF at h; cases h
  | .kin _ _ _, c, e, ω, X, h, o => by unfold cF at h; cases h
  | .dvals _ _, c, e, ω, X, h, o => by unfold cF at h; cases h
  | .sset _, c, e, ω, X, h, o => by unfold cF at h; cases h
  | .dzip _ _ _, c, e, ω, X, h, o => by unfold cF at h; cases h
  | .lc2 _ _ _ _ _ _ _ _ _, c, e, ω, X, h, o => by unfold cF at h; cases h
  | .call _ _ _ _, c, e, ω, X, h, o => by unfold cF at h; cases h
  | .lrng a b, c, e, ω, X, h, o => by
    unfold cF at h
    split at h
    · simp only [Bool.and_eq_true, decide_eq_true_eq] at h
      obtain ⟨⟨⟨⟨⟨⟨⟨⟨⟨rfl, h1⟩, h2⟩, rfl⟩, h3⟩, h4⟩, h5⟩, h6⟩, h7⟩, hot⟩ := h
      have ea : a = .con (.int 0) := by
        split at h6
        · rfl
        · cases h6
      subst ea
      exact (pe_listRg (o.cool hot) (gl_of o h1) (o.bi _ h2) (prg_1 (gl_of o h3) (o.bi _ h4) (cE_ok b c _ ω X h7 o) (plain_star h5)) (plain_star rfl)).imp fun _ _ _ q => sF_lrng1 q
    · simp only [Bool.and_eq_true, decide_eq_true_eq] at h
      obtain ⟨⟨⟨⟨⟨⟨⟨⟨⟨⟨rfl, h1⟩, h2⟩, rfl⟩, h3⟩, h4⟩, h5⟩, h6⟩, h7⟩, h8⟩, hot⟩ := h
      exact (pe_listRg (o.cool hot) (gl_of o h1) (o.bi _ h2) (prg_2 (gl_of o h3) (o.bi _ h4) (cE_ok a c _ ω X h7 o) (cE_ok b c _ ω X h8 o) (plain_star h5) (plain_star h6) (plain_any (by simp [h6]))) (plain_star rfl)).imp fun _ _ _ q => sF_lrng q
    · cases h
  | .isa _ _, c, e, ω, X, h, o => by unfold cF at h; cases h
  | .met _ _ _, c, e, ω, X, h, o => by unfold cF at h; cases h
  | .mut _ _ _, c, e, ω, X, h, o => by unfold cF at h; cases h
  | .new _, c, e, ω, X, h, o => by unfold cF at h; cases h
  | .frz _, c, e, ω, X, h, o => by unfold cF at h; cases h
theorem cN_ok : ∀ (m : MB) (c : Ec) (e : Expr) (ω : Wk) (X : Cx), cN G m c e = true → Okx G C ω X c → ∀ {pos : Pos}, PE X (.UnaryOp .Not e pos) (tE ω (evE C (.not m)))
  | .tru a, c, e, ω, X, h, o, pos => by
    unfold cN at h
    exact (pe_notT (cE_ok a c e ω X h o)).imp fun _ _ _ => s_not
  | .not _, c, e, ω, X, h, o, pos => by unfold cN at h; cases h
  | .and _ _, c, e, ω, X, h, o, pos => by unfold cN at h; cases h
  | .or _ _, c, e, ω, X, h, o, pos => by unfold cN at h; cases h
theorem cB_ok : ∀ (m : MB) (c : Ec) (e : Expr) (ω : Wk) (X : Cx), cB G m c e = true → Okx G C ω X c → PT X e (tB ω (evB C m))
  | .tru a, c, e, ω, X, h, o => by
    unfold cB at h
    simp only [Bool.and_eq_true] at h
    obtain ⟨h0, h1⟩ := h
    have pe := cE_ok a c e ω X h1 o
    split at h0
    · rename_i op x y ea ops es pos
      unfold cE at h1
      split at h1
      · rename_i hq
        cases hq
        simp only [Bool.and_eq_true, decide_eq_true_eq, Bool.not_eq_true'] at h1
        obtain ⟨⟨⟨rfl, k0⟩, k1⟩, k2⟩ := h1
        exact (pt_cmpR (op2_cmp (by have := o.un; omega) op) (cE_ok x c _ ω X k1 o) (cE_ok y c _ ω X k2 o) k0).imp fun _ _ _ q => by rw [o.mg]; exact s_cmp (s_truB (fun _ _ _ _ => cmp_bl) q)
      · cases h1
    · rename_i op op' x y z ea ops es pos
      unfold cE at h1
      split at h1
      · rename_i hq
        cases hq
        simp only [Bool.and_eq_true, decide_eq_true_eq, Bool.not_eq_true'] at h1
        obtain ⟨⟨⟨⟨⟨rfl, rfl⟩, k0⟩, k1⟩, k2⟩, k3⟩ := h1
        exact (pt_chain (op2_cmp (by have := o.un; omega) op) (op2_cmp (by have := o.un; omega) op') (cE_ok x c _ ω X k1 o) (cE_ok y c _ ω X k2 o) (cE_ok z c _ ω X k3 o) k0).imp fun _ _ _ q => by rw [o.mg]; exact s_chain (s_truB (fun _ _ _ _ => chain_bl) q)
      · cases h1
    · exact (pt_truth pe (tru_of h0)).imp fun _ _ _ => s_tru
  | .not a, c, e, ω, X, h, o => by
    unfold cB at h
    split at h
    · simp only [Bool.and_eq_true, decide_eq_true_eq] at h
      obtain ⟨rfl, h1⟩ := h
      exact (pt_not (cB_ok a c _ ω X h1 o)).imp fun _ _ _ => s_bnot
    · cases h
  | .and a b, c, e, ω, X, h, o => by
    unfold cB at h
    split at h
    · simp only [Bool.and_eq_true, decide_eq_true_eq] at h
      obtain ⟨⟨rfl, h1⟩, h2⟩ := h
      exact (pw_and (cB_ok a c _ ω X h1 o) (rest_and (cB_ok b c _ ω X h2 o))).pt.imp fun _ _ _ => s_band
    · cases h
  | .or a b, c, e, ω, X, h, o => by
    unfold cB at h
    split at h
    · simp only [Bool.and_eq_true, decide_eq_true_eq] at h
      obtain ⟨⟨rfl, h1⟩, h2⟩ := h
      exact (pw_or (cB_ok a c _ ω X h1 o) (rest_or (cB_ok b c _ ω X h2 o))).pt.imp fun _ _ _ => s_bor
    · cases h
theorem cO_ok : ∀ (m : MO) (c : Ec) (e : Option Expr) (ω : Wk) (X : Cx), cO G m c e = true → Okx G C ω X c → PO X e (tO ω (evO C m))
  | .nil, c, e, ω, X, h, o => by
    unfold cO at h
    split at h
    · exact po_none.imp fun _ _ _ => o_nil
    · cases h
  | .one a, c, e, ω, X, h, o => by
    unfold cO at h
    split at h
    · cases h
    · exact (po_some (cE_ok a c _ ω X h o)).imp fun _ _ _ => o_one
theorem cEs_ok : ∀ (m : MEs) (c : Ec) (e : List Expr) (ω : Wk) (X : Cx), cEs G m c e = true → Okx G C ω X c → PA X e (tA ω (evEs C m))
  | .nil, c, e, ω, X, h, o => by
    unfold cEs at h
    split at h
    · exact pa_nil.imp fun _ _ _ => s_nil
    · cases h
  | .cons a r, c, e, ω, X, h, o => by
    unfold cEs at h
    split at h
    · simp only [Bool.and_eq_true] at h
      exact (pa_cons (cE_ok a c _ ω X h.1.2 o) (cEs_ok r c _ ω X h.2 o) (plain_star h.1.1)).imp fun _ _ _ => s_cons
    · cases h
  | .star a r, c, e, ω, X, h, o => by
    unfold cEs at h
    split at h
    · simp only [Bool.and_eq_true] at h
      exact (StX.pa_star (cE_ok a c _ ω X h.1 o) (cEs_ok r c _ ω X h.2 o) rfl).imp fun _ _ _ => s_star
    · cases h
theorem cKs_ok : ∀ (m : MEs) (c : Ec) (e : List Keyword) (ω : Wk) (X : Cx), cKs G m c e = true → Okx G C ω X c → PK X e (tA ω (evEs C m))
  | .nil, c, e, ω, X, h, o => by
    unfold cKs at h
    split at h
    · exact ⟨fun pos pins s σ H Q I q => pk_nil.run pos pins s σ H Q I (s_nil q)⟩
    · cases h
  | .cons a r, c, e, ω, X, h, o => by
    unfold cKs at h
    split at h
    · simp only [Bool.and_eq_true] at h
      exact ⟨fun pos pins s σ H Q I q => (pk_cons (cE_ok a c _ ω X h.1 o) (cKs_ok r c _ ω X h.2 o)).run pos pins s σ H Q I (s_cons q)⟩
    · cases h
  | .star _ _, c, e, ω, X, h, o => by unfold cKs at h; cases h
theorem cC_ok : ∀ (m : MC) (c : Ec) (e : List Expr) (ω : Wk) (X : Cx), cC G m c e = true → Okx G C ω X c → PTs X e (tB ω (evC C m))
  | .nil, c, e, ω, X, h, o => by
    unfold cC at h
    split at h
    · refine ⟨fun pins s σ H Q I q => pts_nil.run pins s σ H Q I ?_⟩
      obtain ⟨R, c, σd, M, m, rs, q⟩ := q
      rw [evC] at q
      exact q true H c (Aft.refl m) rfl
    · cases h
  | .one a, c, e, ω, X, h, o => by
    unfold cC at h
    split at h
    · refine ⟨fun pins s σ H Q I q => (pts_one (cB_ok a c _ ω X h o)).run pins s σ H Q I ?_⟩
      obtain ⟨R, c, σd, M, m, rs, q⟩ := q
      rw [evC] at q
      exact ⟨R, c, σd, M, m, rs, q⟩
    · cases h
theorem cI_ok : ∀ (m : MI) (c : Ec) (tg e : Expr) (ω : Wk) (X : Cx), cI G m c tg e = true → Okx G C ω X c → PI X tg e (tI ω (evI C m))
  | .seq a, c, tg, e, ω, X, h, o => by
    unfold cI at h
    have pe := cE_ok a c e ω X h o
    exact (PI.or (pi_list pe) (pi_tup pe)).imp fun _ _ _ => i_seq
  | .rng a b, c, tg, e, ω, X, h, o => by
    unfold cI at h
    split at h
    · simp only [Bool.and_eq_true, decide_eq_true_eq] at h
      obtain ⟨⟨⟨⟨⟨rfl, h1⟩, h2⟩, h3⟩, h4⟩, h5⟩ := h
      have ea : a = .con (.int 0) := by
        split at h4
        · rfl
        · cases h4
      subst ea
      exact (pi_range1 (gl_of o h1) (o.bi _ h2) (pa_cons (cE_ok b c _ ω X h5 o) pa_nil (plain_star h3)) (plain_star h3)).imp fun _ _ _ => i_rng1
    · simp only [Bool.and_eq_true, decide_eq_true_eq] at h
      obtain ⟨⟨⟨⟨⟨⟨rfl, h1⟩, h2⟩, h3⟩, h4⟩, h5⟩, h6⟩ := h
      exact (pi_range2 (gl_of o h1) (o.bi _ h2) (pa_cons (cE_ok a c _ ω X h5 o) (pa_cons (cE_ok b c _ ω X h6 o) pa_nil (plain_star h4)) (plain_star h3)) (by rw [plain_star h3, plain_star h4]; rfl) (plain_star h4)).imp fun _ _ _ => i_rng
    · cases h
  | .enm a, c, tg, e, ω, X, h, o => by
    unfold cI at h
    split at h
    · simp only [Bool.and_eq_true, decide_eq_true_eq] at h
      obtain ⟨⟨⟨⟨rfl, h1⟩, h2⟩, h3⟩, h4⟩ := h
      have pa := pa_cons (cE_ok a c _ ω X h4 o) pa_nil (plain_star h3)
      exact (PI.or (pi_enum (gl_of o h1) (o.bi _ h2) pa (plain_star h3)) (pi_enumT (gl_of o h1) (o.bi _ h2) pa (plain_star h3))).imp fun _ _ _ => i_enm
    · cases h
  | .zip a b, c, tg, e, ω, X, h, o => by
    unfold cI at h
    split at h
    · simp only [Bool.and_eq_true, decide_eq_true_eq] at h
      obtain ⟨⟨⟨⟨⟨⟨rfl, h1⟩, h2⟩, h3⟩, h4⟩, h5⟩, h6⟩ := h
      exact (RZ.pi_zipA (gl_of o h1) (o.bi _ h2) (pa_cons (cE_ok a c _ ω X h5 o) (pa_cons (cE_ok b c _ ω X h6 o) pa_nil (plain_star h4)) (plain_star h3)) (plain_star h3) (plain_any (by simp [h4]))).imp fun _ _ _ => i_zip
    · cases h
  | .rdn a, c, tg, e, ω, X, h, o => by
    unfold cI at h
    split at h
    · simp only [Bool.and_eq_true, decide_eq_true_eq] at h
      obtain ⟨⟨⟨⟨rfl, h1⟩, h2⟩, h3⟩, h4⟩ := h
      exact (pi_range3 (gl_of o h1) (o.bi _ h2) (pa_cons (cE_ok a c _ ω X h4 o) (pa_cons (pe_un un_neg pe_int) (pa_cons (pe_un un_neg pe_int) pa_nil (plain_star rfl)) (plain_star rfl)) (plain_star h3)) (plain_star h3) (plain_any rfl)).imp fun _ _ _ => i_rdn
    · cases h
  | .vals _, c, tg, e, ω, X, h, o => by unfold cI at h; cases h
  | .zip3 a b d, c, tg, e, ω, X, h, o => by
    unfold cI at h
    split at h
    · simp only [Bool.and_eq_true, decide_eq_true_eq] at h
      obtain ⟨⟨⟨⟨⟨⟨⟨⟨rfl, h1⟩, h2⟩, h3⟩, h4⟩, h5⟩, h6⟩, h7⟩, h8⟩ := h
      exact (pi_zip3 (gl_of o h1) (o.bi _ h2) (pa_cons (cE_ok a c _ ω X h6 o) (pa_cons (cE_ok b c _ ω X h7 o) (pa_cons (cE_ok d c _ ω X h8 o) pa_nil (plain_star h5)) (plain_star h4)) (plain_star h3)) (plain_star h3) (plain_any (by simp [h4, h5]))).imp fun _ _ _ => i_zip3
    · cases h
  | .ktup x ds, c, tg, e, ω, X, h, o => by
    unfold cI at h
    split at h
    · simp only [Bool.and_eq_true, decide_eq_true_eq] at h
      obtain ⟨⟨⟨⟨rfl, h1⟩, h2⟩, h3⟩, h4⟩ := h
      obtain ⟨a, e1, e2⟩ := o.kt x ds h3 h4
      exact (pi_tup (pe_glob (gl_of o h1) e1 (show RelV (.ref a) (.ref a) from rfl) (nm_of h2).1)).imp fun _ _ _ => i_ktup e2
    · cases h
  | .kzip k ds b, c, tg, e, ω, X, h, o => by
    unfold cI at h
    split at h
    · simp only [Bool.and_eq_true, decide_eq_true_eq] at h
      obtain ⟨⟨⟨⟨⟨⟨⟨⟨⟨rfl, h1⟩, h2⟩, h3⟩, rfl⟩, h4⟩, h5⟩, h6⟩, h7⟩, h8⟩ := h
      obtain ⟨a, e1, e2⟩ := o.kt _ ds h6 h7
      exact (RZ.pi_zipA (gl_of o h1) (o.bi _ h2) (pa_cons (pe_glob (gl_of o h4) e1 (show RelV (.ref a) (.ref a) from rfl) (nm_of h5).1) (pa_cons (cE_ok b c _ ω X h8 o) pa_nil (plain_star h3)) (plain_star rfl)) (plain_star rfl) (plain_any (by simp [h3]))).imp fun _ _ _ => i_kzip e2
    · cases h
theorem cT_ok : ∀ (m : MT) (c : Ec) (e : Expr) (ω : Wk) (X : Cx), cT G m c e = true → Okx G C ω X c → PG X e (gOf ω C X.K m)
  | .nm i, c, e, ω, X, h, o => by
    unfold cT at h
    split at h
    · simp only [Bool.and_eq_true, decide_eq_true_eq] at h
      obtain ⟨h1, h2⟩ := h
      have nd := o.nd
      rw [← o.N] at nd h1
      unfold stoB at h2
      rw [← o.sc] at h2
      split at h2
      · rename_i z; exact pg_name nd h1 (.inl z) (.inr z)
      · rename_i z; exact pg_name nd h1 (.inr z) (.inl (o.fn _ h2))
      · cases h2
    · cases h
  | .tp ts, c, e, ω, X, h, o => by
    unfold cT at h
    split at h
    · simp only [Bool.and_eq_true] at h
      obtain ⟨p1, p2, p3⟩ := cTs_ok ts c _ ω X h.1 o
      exact PG.or (pg_tup (o.cool h.2) p1 p2 p3) (pg_lst (o.cool h.2) p1 p2 p3)
    · cases h
  | .sub a i, c, e, ω, X, h, o => by
    unfold cT at h
    split at h
    · simp only [Bool.and_eq_true] at h
      rename_i pos
      have := pg_sub (pos := pos) (cE_ok a c _ ω X h.1.2 o) (cE_ok i c _ ω X h.2 o) (set_ok (X := X) (by have := o.un; omega)) (sub_of h.1.1)
      rw [o.mg] at this
      exact this
    · cases h
theorem cTs_ok : ∀ (m : MTs) (c : Ec) (e : List Expr) (ω : Wk) (X : Cx), cTs G m c e = true → Okx G C ω X c → PGs X e (gsOf ω C X.K m) ∧ (assignEach e X.env).length = m.len ∧ (assignEach e X.env).findIdx? (·.1) = none
  | .nil, c, e, ω, X, h, o => by
    unfold cTs at h
    split at h
    · exact ⟨pgs_nil, rfl, rfl⟩
    · cases h
  | .cons t r, c, e, ω, X, h, o => by
    unfold cTs at h
    split at h
    · rename_i e es
      simp only [Bool.and_eq_true] at h
      obtain ⟨q1, q2, q3⟩ := cTs_ok r c _ ω X h.2 o
      have es1 : assignEach (e :: es) X.env = (false, assign e X.env) :: assignEach es X.env := by
        have := h.1.1
        cases e <;> first | rfl | simp [plainE] at this
      refine ⟨pgs_cons (cT_ok t c _ ω X h.1.2 o) q1 (by rw [es1]; rfl), by rw [es1]; simp [q2, MTs.len], ?_⟩
      rw [es1, List.findIdx?_cons]
      simp [q3]
    · cases h
end
end
end Mp

/-! Statements. -/
namespace Mp
open PySem PySem.Spec PyProof.Rows L2

def PostS (ω : Wk) (R : Addr → Prop) (H : Hp) (c : List Addr) (M : Cs) (D : Ends) : SR → Prop
  | .nx σd M' => ∀ σ H' c', Aft ω.mg R H c M M' H' c' → RpS ω.mg H' (Lv R c' M') c' σd σ → D.nx σ H'
  | .br σd M' => ∀ σ H' c', Aft ω.mg R H c M M' H' c' → RpS ω.mg H' (Lv R c' M') c' σd σ → D.bk σ H'
  | .ct σd M' => ∀ σ H' c', Aft ω.mg R H c M M' H' c' → RpS ω.mg H' (Lv R c' M') c' σd σ → D.ct σ H'
  | .rt d M' => ∀ v H' c', Aft ω.mg R H c M M' H' c' → Rp ω.mg H' (Lv R c' M') c' d v → D.rt v H'
  | .ex e σd M' => ∀ cls dd σ H' c', Aft ω.mg R H c M M' H' c' → RpS ω.mg H' (Lv R c' M') c' σd σ → ExR ω.mg H' (Lv R c' M') c' cls dd e → ω.W cls dd σ H'
  | .bad => False
def tS (ω : Wk) (f : En → Cs → SR) : TS := fun D σ H => ∃ R c σd M, CM ω.mg R H c M ∧ RpS ω.mg H (Lv R c M) c σd σ ∧ PostS ω R H c M D (f σd M)
theorem _root_.L2.PS.imp {X : Cx} {e : Stmt} {t u : TS} (h : PS X e t) (k : ∀ D σ H, u D σ H → t D σ H) : PS X e u := ⟨fun pins s σ H D I q => h.run pins s σ H D I (k D σ H q)⟩
theorem _root_.L2.PSs.imp {X : Cx} {e : List Stmt} {t u : TS} (h : PSs X e t) (k : ∀ D σ H, u D σ H → t D σ H) : PSs X e u := ⟨fun pins s σ H D I q => h.run pins s σ H D I (k D σ H q)⟩
section
variable {ω : Wk} {C : Cl} {K : PySem.W.Frag} {D : Ends} {σ : L2.St} {H : Hp} {R : Addr → Prop} {c : List Addr} {M : Cs}
theorem PostS.shift {H1 : Hp} {c1 : List Addr} {M1 : Cs} (a : Aft ω.mg R H c M M1 H1 c1) : ∀ {r : SR}, PostS ω R H c M D r → PostS ω R H1 c1 M1 D r
  | .nx _ _, h => fun s H' c' a2 r => h s H' c' (a.trans a2) r
  | .br _ _, h => fun s H' c' a2 r => h s H' c' (a.trans a2) r
  | .ct _ _, h => fun s H' c' a2 r => h s H' c' (a.trans a2) r
  | .rt _ _, h => fun s H' c' a2 r => h s H' c' (a.trans a2) r
  | .ex _ _ _, h => fun cls dd s H' c' a2 r => h cls dd s H' c' (a.trans a2) r
  | .bad, h => h.elim
theorem PostS.of {α β : Type} {rel : Rl α β} {σd : En} {g : α → Cs → SR} {Q : β → Hp → Prop} (rs : RpS ω.mg H (Lv R c M) c σd σ) : ∀ {r : Res α}, PostS ω R H c M D (SR.of σd r g) →
    (∀ a M1 b H1 c1, r = .ok a M1 → Aft ω.mg R H c M M1 H1 c1 → rel R H1 c1 M1 a b → RpS ω.mg H1 (Lv R c1 M1) c1 σd σ → PostS ω R H1 c1 M1 D (g a M1) → Q b H1) → Post ω rel R H c M σ Q r
  | .ok a M1, h, k => fun b H1 c1 a1 r => k a M1 b H1 c1 rfl a1 r (rs.mono a1.1.gr) (h.shift a1)
  | .ex _ M1, h, _ => fun cls dd H' c' a r => h cls dd σ H' c' a (rs.mono a.1.gr) r
  | .bad, h, _ => h.elim

theorem s_pss (h : tS ω (evS C .pss) D σ H) : tNext D σ H := by
  obtain ⟨R, c, σd, M, m, rs, h⟩ := h
  exact h σ H c (Aft.refl m) rs
theorem s_brk (h : tS ω (evS C .brk) D σ H) : tBreak D σ H := by
  obtain ⟨R, c, σd, M, m, rs, h⟩ := h
  exact h σ H c (Aft.refl m) rs
theorem s_cnt (h : tS ω (evS C .cnt) D σ H) : tCont D σ H := by
  obtain ⟨R, c, σd, M, m, rs, h⟩ := h
  exact h σ H c (Aft.refl m) rs
theorem s_nev (h : tS ω (evS C .nev) D σ H) : tNever D σ H := by
  obtain ⟨R, c, σd, M, m, rs, h⟩ := h
  exact h.elim
theorem s_exp {e : ME} (h : tS ω (evS C (.exp e)) D σ H) : tDrop (tE ω (evE C e)) D σ H := by
  obtain ⟨R, c, σd, M, m, rs, h⟩ := h
  rw [evS] at h
  exact ⟨R, c, σd, M, m, rs, h.of rs fun x M1 v H1 c1 _ a1 r1 rs1 q => q σ H1 c1 (Aft.refl a1.2) rs1⟩
theorem s_ret {e : ME} (h : tS ω (evS C (.ret e)) D σ H) : tRet (tE ω (evE C e)) D σ H := by
  obtain ⟨R, c, σd, M, m, rs, h⟩ := h
  rw [evS] at h
  exact ⟨R, c, σd, M, m, rs, h.of rs fun x M1 v H1 c1 _ a1 r1 rs1 q => q v H1 c1 (Aft.refl a1.2) r1⟩
theorem s_retN (h : tS ω (evS C (.ret (.con .non))) D σ H) : tRetN D σ H := by
  obtain ⟨R, c, σd, M, m, rs, h⟩ := h
  rw [evS, evE] at h
  exact h .non H c (Aft.refl m) (by simp [Rp])
theorem s_if {q : MB} {a b : MSs} (h : tS ω (evS C (.ite q a b)) D σ H) : tIfS (tB ω (evB C q)) (tS ω (evSs C a)) (tS ω (evSs C b)) D σ H := by
  obtain ⟨R, c, σd, M, m, rs, h⟩ := h
  rw [evS] at h
  refine ⟨R, c, σd, M, m, rs, h.of rs fun x M1 v H1 c1 _ a1 r1 rs1 q => ?_⟩
  obtain rfl : x = v := r1
  cases x with
  | true => rw [if_pos rfl] at q ⊢; exact ⟨R, c1, σd, M1, a1.2, rs1, q⟩
  | false => rw [if_neg (by decide)] at q ⊢; exact ⟨R, c1, σd, M1, a1.2, rs1, q⟩
theorem s_asg {e : ME} {t : MT} (h : tS ω (evS C (.asg t e)) D σ H) : tAsg (tE ω (evE C e)) (gOf ω C K t) D σ H := by
  obtain ⟨R, c, σd, M, m, rs, h⟩ := h
  rw [evS] at h
  refine ⟨R, c, σd, M, m, rs, h.of rs fun d M1 v H1 c1 _ a1 r1 rs1 q => g_ok t ⟨R, c1, σd, M1, d, a1.2, rs1, r1, ?_⟩⟩
  cases eT : evT C t d σd M1 with
  | bad => rw [eT] at q; exact q.elim
  | ex x M2 => exact (evT_noex t d σd M1 x M2 eT).elim
  | ok σ1 M2 => rw [eT] at q; exact fun σ2 H2 c2 a2 r2 => q σ2 H2 c2 a2 r2
/-- name = a new object -/
theorem s_asgF {e : ME} {i : Nat} (hf : ∀ σd M d M1, evE C e σd M = .ok d M1 → isNw d = true) (h : tS ω (evS C (.asg (.nm i) e)) D σ H) : tAsg (tF ω (evE C e)) (gName i) D σ H := by
  have h' : tAsg (tE ω (evE C e)) (gOf ω C default (.nm i)) D σ H := s_asg h
  exact s_fresh hf h'
theorem s_asgN {e : ME} {i : Nat} (h : tS ω (evS C (.asg (.nm i) (.new e))) D σ H) : tAsg (tF ω (evE C e)) (gName i) D σ H := by
  have h' : tAsg (tE ω (evE C (.new e))) (gOf ω C default (.nm i)) D σ H := s_asg h
  exact s_new h'
theorem s_par {i j : Nat} {a b : ME} (h : tS ω (evS C (.asg (.tp (.cons (.nm i) (.cons (.nm j) .nil))) (.tup (.cons a (.cons b .nil))))) D σ H) : tPar i j (tA ω (evEs C (.cons a (.cons b .nil)))) D σ H := by
  obtain ⟨R, c, σd, M, m, rs, h⟩ := h
  rw [evS] at h
  have e0 : evE C (.tup (.cons a (.cons b .nil))) σd M = (evEs C (.cons a (.cons b .nil)) σd M).bind fun xs M1 => if xs.length ≤ sizeLine then .ok (.tup xs) M1 else .bad := by rw [evE]
  rw [e0] at h
  have h2 : PostS ω R H c M D (SR.of σd (evEs C (.cons a (.cons b .nil)) σd M) fun xs M1 => SR.of σd (if xs.length ≤ sizeLine then .ok (.tup xs) M1 else .bad : Res Mp.D) fun d M1 => SR.of σd (evT C (.tp (.cons (.nm i) (.cons (.nm j) .nil))) d σd M1) fun σ1 M2 => .nx σ1 M2) := by
    revert h
    cases evEs C (.cons a (.cons b .nil)) σd M <;> exact id
  refine ⟨R, c, σd, M, m, rs, h2.of rs fun xs M1 vs H1 c1 ee a1 r1 rs1 q => ?_⟩
  have hl : xs.length = 2 := evEs_len (n := 2) rfl ee
  match xs, hl with
  | [x, y], _ =>
    obtain ⟨v, r, rfl, rx, r2⟩ := RpL.cons_iff.mp r1
    obtain ⟨w, r, rfl, ry, r3⟩ := RpL.cons_iff.mp r2
    obtain rfl := RpL.nil_iff.mp r3
    rw [if_pos (by simp [sizeLine_eq])] at q
    simp only [SR.of, evT, evTs, tupD, consD, ok_bind, List.isEmpty_nil, if_true] at q
    exact ⟨v, w, rfl, q _ H1 c1 (Aft.refl a1.2) ((rs1.set i rx).set j ry)⟩
theorem s_par3 {i j l : Nat} {a b z : ME} (h : tS ω (evS C (.asg (.tp (.cons (.nm i) (.cons (.nm j) (.cons (.nm l) .nil)))) (.tup (.cons a (.cons b (.cons z .nil)))))) D σ H) : tPar3 i j l (tA ω (evEs C (.cons a (.cons b (.cons z .nil))))) D σ H := by
  obtain ⟨R, c, σd, M, m, rs, h⟩ := h
  rw [evS] at h
  have e0 : evE C (.tup (.cons a (.cons b (.cons z .nil)))) σd M = (evEs C (.cons a (.cons b (.cons z .nil))) σd M).bind fun xs M1 => if xs.length ≤ sizeLine then .ok (.tup xs) M1 else .bad := by rw [evE]
  rw [e0] at h
  have h2 : PostS ω R H c M D (SR.of σd (evEs C (.cons a (.cons b (.cons z .nil))) σd M) fun xs M1 => SR.of σd (if xs.length ≤ sizeLine then .ok (.tup xs) M1 else .bad : Res Mp.D) fun d M1 => SR.of σd (evT C (.tp (.cons (.nm i) (.cons (.nm j) (.cons (.nm l) .nil)))) d σd M1) fun σ1 M2 => .nx σ1 M2) := by
    revert h
    cases evEs C (.cons a (.cons b (.cons z .nil))) σd M <;> exact id
  refine ⟨R, c, σd, M, m, rs, h2.of rs fun xs M1 vs H1 c1 ee a1 r1 rs1 q => ?_⟩
  have hl : xs.length = 3 := evEs_len (n := 3) rfl ee
  match xs, hl with
  | [x, y, w], _ =>
    obtain ⟨v1, r, rfl, rx, r2⟩ := RpL.cons_iff.mp r1
    obtain ⟨v2, r, rfl, ry, r3⟩ := RpL.cons_iff.mp r2
    obtain ⟨v3, r, rfl, rz, r4⟩ := RpL.cons_iff.mp r3
    obtain rfl := RpL.nil_iff.mp r4
    rw [if_pos (by simp [sizeLine_eq])] at q
    simp only [SR.of, evT, evTs, tupD, consD, ok_bind, List.isEmpty_nil, if_true] at q
    exact ⟨v1, v2, v3, rfl, q _ H1 c1 (Aft.refl a1.2) (((rs1.set i rx).set j ry).set l rz)⟩
/-! ### loops -/
theorem s_for {t : MT} {it : MI} {b : MSs} (h : tS ω (evS C (.for_ t it b)) D σ H) : tFor (tI ω (evI C it)) (gOf ω C K t) (tS ω (evSs C b)) D σ H := by
  obtain ⟨R, c, σd, M, m, rs, h⟩ := h
  rw [evS] at h
  generalize hs : (fun d σ M => SR.of σ (evT C t d σ M) fun σ1 M2 => evSs C b σ1 M2) = step at h
  have hst : ∀ d σ M, step d σ M = SR.of σ (evT C t d σ M) fun σ1 M2 => evSs C b σ1 M2 := fun d σ M => by rw [← hs]
  clear hs
  refine ⟨R, c, σd, M, m, rs, h.of rs fun p M1 J H1 c1 _ a1 w rs1 h1 => ?_⟩
  obtain ⟨ds, ws⟩ := p
  dsimp only at h1
  have w : Wkd ω.mg R H1 c1 M1 J ds ws := w
  let Iv : Nat → L2.St → Hp → Prop := fun i σ' Hh => ∃ c' σe M', CM ω.mg R Hh c' M' ∧ Stp R H1 c1 M1 Hh c' M' ∧ same ws M1 M' = true ∧ RpS ω.mg Hh (Lv R c' M') c' σe σ' ∧ PostS ω R Hh c' M' D (forGo ws step (ds.drop i) σe M')
  refine ⟨fun i n σ' Hh => n = ds.length - i ∧ i ≤ ds.length ∧ Iv i σ' Hh, ⟨ds.length, by simp, Nat.zero_le _, c1, σd, M1, a1.2, Stp.refl .., by simp [same], rs1, h1⟩, ?_⟩
  rintro i n σ' Hh ⟨rfl, hi, c', σe, M', m', st, sm, rs', hq⟩
  rcases Nat.lt_or_ge i ds.length with hlt | hge
  · refine .inr ⟨w.go R Hh c' M' i m' st.gr sm hlt, Iv (i + 1), fun σ2 H' p' => ⟨ds.length - (i + 1), by omega, rfl, hlt, p'⟩, fun x H' y => ?_⟩
    obtain ⟨d, e1, af, rx⟩ := w.yld R Hh c' M' i x H' m' st.gr sm hlt y
    rw [drop_cons e1, forGo, hst] at hq
    replace hq := hq.shift af
    have rsA := rs'.mono af.1.gr
    refine g_ok t ⟨R, c', σe, M', d, af.2, rsA, rx, ?_⟩
    cases eT : evT C t d σe M' with
    | bad => rw [eT] at hq; exact hq.elim
    | ex x M2 => exact (evT_noex t d σe M' x M2 eT).elim
    | ok σ1 M2 =>
      rw [eT] at hq
      dsimp only [SR.of] at hq
      intro σ2 H2 c2 a2 r2
      have hq2 := PostS.shift (show Aft ω.mg R H' c' M' M2 H2 c2 from a2) hq
      refine ⟨R, c2, σ1, M2, a2.2, r2, ?_⟩
      have next : ∀ σ3 M3, PostS ω R H2 c2 M2 D (if same ws M' M3 = true then forGo ws step (ds.drop (i + 1)) σ3 M3 else .bad) → ∀ σ' H' c', Aft ω.mg R H2 c2 M2 M3 H' c' → RpS ω.mg H' (Lv R c' M3) c' σ3 σ' → Iv (i + 1) σ' H' := fun σ3 M3 hq σ' H' c' a3 r3 => by
        split at hq
        · rename_i k
          exact ⟨c', σ3, M3, a3.2, ((st.trans af.1).trans a2.1).trans a3.1, same_trans sm k, r3, hq.shift a3⟩
        · exact hq.elim
      revert hq2
      cases evSs C b σ1 M2 with
      | nx σ3 M3 => exact fun hq => next σ3 M3 hq
      | ct σ3 M3 => exact fun hq => next σ3 M3 hq
      | br σ3 M3 => exact id
      | rt d M3 => exact id
      | ex e σ3 M3 => exact id
      | bad => exact id
  · obtain rfl : i = ds.length := by omega
    rw [List.drop_length, forGo] at hq
    exact .inl ⟨w.stop R Hh c' M' m' st.gr sm, hq σ' Hh c' (Aft.refl m') rs'⟩
theorem s_whl {q : MB} {b : MSs} (h : tS ω (evS C (.whl q b)) D σ H) : tWhile (tB ω (evB C q)) (tS ω (evSs C b)) D σ H := by
  obtain ⟨R, c, σd, M, m, rs, h⟩ := h
  rw [evS] at h
  refine ⟨fun n σ' Hh => ∃ R c' σe M', CM ω.mg R Hh c' M' ∧ RpS ω.mg Hh (Lv R c' M') c' σe σ' ∧ PostS ω R Hh c' M' D (whlGo (evB C q) (evSs C b) n σe M'), ⟨C.fuel, R, c, σd, M, m, rs, h⟩, ?_⟩
  rintro n σ' Hh ⟨R, c', σe, M', m', rs', hq⟩
  cases n with
  | zero => rw [whlGo] at hq; exact hq.elim
  | succ n =>
    have hq : PostS ω R Hh c' M' D (SR.of σe (evB C q σe M') fun k M1 => if k = true then (match evSs C b σe M1 with
        | .nx σ1 M2 => whlGo (evB C q) (evSs C b) n σ1 M2
        | .ct σ1 M2 => whlGo (evB C q) (evSs C b) n σ1 M2
        | .br σ1 M2 => .nx σ1 M2
        | r => r) else .nx σe M1) := by
      rw [whlGo] at hq
      revert hq
      cases evB C q σe M' with
      | ok k M1 => cases k <;> exact id
      | _ => exact id
    refine ⟨R, c', σe, M', m', rs', hq.of rs' fun x M1 v H1 c1 _ a1 r1 rs1 q => ?_⟩
    obtain rfl : x = v := r1
    cases x with
    | false => rw [if_neg (by decide)] at q ⊢; exact q σ' H1 c1 (Aft.refl a1.2) rs1
    | true =>
      rw [if_pos rfl] at q ⊢
      refine ⟨fun σ2 H2 => ∃ R c' σe M', CM ω.mg R H2 c' M' ∧ RpS ω.mg H2 (Lv R c' M') c' σe σ2 ∧ PostS ω R H2 c' M' D (whlGo (evB C _) (evSs C b) n σe M'), fun σ2 H2 p => ⟨n, Nat.lt_succ_self _, p⟩, R, c1, σe, M1, a1.2, rs1, ?_⟩
      revert q
      cases evSs C b σe M1 with
      | nx σ3 M3 => exact fun hq σ2 H2 c2 a2 r2 => ⟨R, c2, σ3, M3, a2.2, r2, hq.shift a2⟩
      | ct σ3 M3 => exact fun hq σ2 H2 c2 a2 r2 => ⟨R, c2, σ3, M3, a2.2, r2, hq.shift a2⟩
      | br σ3 M3 => exact id
      | rt d M3 => exact id
      | ex e σ3 M3 => exact id
      | bad => exact id
theorem s_snil (h : tS ω (evSs C .nil) D σ H) : tNext D σ H := by
  obtain ⟨R, c, σd, M, m, rs, h⟩ := h
  exact h σ H c (Aft.refl m) rs
theorem s_scons {s : MS} {r : MSs} (h : tS ω (evSs C (.cons s r)) D σ H) : tSeq (tS ω (evS C s)) (tS ω (evSs C r)) D σ H := by
  obtain ⟨R, c, σd, M, m, rs, h⟩ := h
  rw [evSs] at h
  refine ⟨R, c, σd, M, m, rs, ?_⟩
  revert h
  cases evS C s σd M with
  | nx σ3 M3 => exact fun hq σ2 H2 c2 a2 r2 => ⟨R, c2, σ3, M3, a2.2, r2, hq.shift a2⟩
  | ct σ3 M3 => exact id
  | br σ3 M3 => exact id
  | rt d M3 => exact id
  | ex e σ3 M3 => exact id
  | bad => exact id
/-! ### exceptions -/
theorem s_rse1 {x f : Str} {A : Addr} {a : ME} (nm : ω.mg.nm x = some (.ref A)) (at_ : ω.mg.att x = some f) (h : tS ω (evS C (.rse x (.cons a .nil))) D σ H) : tMkI A f (tE ω (evE C a)) σ H fun cls d H' => ω.W cls d σ H' := by
  obtain ⟨R, c, σd, M, m, rs, h⟩ := h
  rw [evS, evEs] at h
  have h2 : PostS ω R H c M D (SR.of σd (evE C a σd M) fun v M1 => .ex (.exc x [v]) σd M1) := by
    revert h
    cases evE C a σd M with
    | ok v M1 => simp only [ok_bind, evEs, SR.of]; exact id
    | _ => exact id
  refine ⟨R, c, σd, M, m, rs, h2.of rs fun v M1 u H1 c1 _ a1 r1 rs1 q => ⟨rfl, fun d hd => ?_⟩⟩
  have st := Stp.new (o := .xd [(f, u)]) a1.2 hd
  refine q (.ref A) (some d) σ _ c1 ⟨st, a1.2.new hd⟩ (rs1.mono st.gr) ⟨A, rfl, nm, .inr ⟨f, d, u, at_, rfl, upd_same, ?_, RpL.cons (Rp.mono st.gr _ r1) RpL.nil⟩⟩
  exact a1.2.fresh hd
theorem s_rse0 {x : Str} {A : Addr} (nm : ω.mg.nm x = some (.ref A)) (at_ : ω.mg.att x = none) (h : tS ω (evS C (.rse x .nil)) D σ H) : ω.W (.ref A) none σ H := by
  obtain ⟨R, c, σd, M, m, rs, h⟩ := h
  rw [evS, evEs] at h
  exact h (.ref A) none σ H c (Aft.refl m) rs ⟨A, rfl, nm, .inl ⟨at_, rfl, rfl⟩⟩
/-- a suite lets nothing out -/
def quiet (ω : Wk) : Wk := ⟨ω.mg, fun _ _ _ _ => False⟩
/-- the clauses, as the rule has them -/
inductive HsR (ω : Wk) (C : Cl) (K : PySem.W.Frag) : MHs → List (Value × Option Nat × TS) → Prop
  | nil : HsR ω C K .nil []
  | cons {c : Str} {cs ns : List Str} {i : Option Nat} {b : MSs} {r : MHs} {B : Addr} {l : List (Value × Option Nat × TS)} (yes : ∀ x A, ω.mg.nm x = some (.ref A) → x ∈ cs → PySem.W.exmOne K (.ref A) (.ref B) = some true)
      (no : ∀ x A, ω.mg.nm x = some (.ref A) → x ∈ ns → PySem.W.exmOne K (.ref A) (.ref B) = some false) (t : HsR ω C K r l) : HsR ω C K (.cons c cs ns i b r) ((.ref B, i, tS (quiet ω) (evSs C b)) :: l)
theorem RpS.unset {mg : Mg} {U : Addr → Prop} {σd : En} (h : RpS mg H U c σd σ) (j : Nat) : RpS mg H U c (σd.set j none) (σ.set j none) := by
  refine ⟨by simp [h.1], fun i d e => ?_⟩
  by_cases hij : j = i
  · subst hij
    by_cases hl : j < σd.length
    · rw [List.getElem?_set_self hl] at e; cases e
    · rw [List.getElem?_eq_none (by simpa using hl)] at e; cases e
  · rw [List.getElem?_set_ne hij] at e ⊢
    exact h.2 i d e
theorem uns_post {i : Option Nat} : ∀ {r : SR}, PostS ω R H c M D (SR.uns i r) → PostS (quiet ω) R H c M (unsE i D) r
  | .nx σ1 M1, h => fun σ H' c' a r => by cases i with
    | none => exact h σ H' c' a r
    | some j => exact h (σ.set j none) H' c' a (r.unset j)
  | .br σ1 M1, h => fun σ H' c' a r => by cases i with
    | none => exact h σ H' c' a r
    | some j => exact h (σ.set j none) H' c' a (r.unset j)
  | .ct σ1 M1, h => fun σ H' c' a r => by cases i with
    | none => exact h σ H' c' a r
    | some j => exact h (σ.set j none) H' c' a (r.unset j)
  | .rt d M1, h => fun v H' c' a r => by cases i <;> exact h v H' c' a r
  | .ex _ _ _, h => h.elim
  | .bad, h => h.elim
theorem exc_own {a : Addr} {oe : Obj} {cls : Value} {dd : Option Addr} {k : Str} {as : List Mp.D} (m : CM ω.mg R H c M) (na : H a = none) (z : Zc cls dd oe) (fs : ∃ vs, oe.data = .fields vs) (ex : ExR ω.mg H (Lv R c M) c cls dd (.exc k as)) : Rp ω.mg (upd H a (frzA oe)) (Lv R c M) c (.exc k as) (.ref a) := by
  simp only [ExR] at ex
  obtain ⟨A, e1, e2, e3⟩ := ex
  simp only [Rp]
  refine ⟨a, oe, _, A, rfl, upd_same, m.fresh na, z.1.trans e1, fs, e2, ?_⟩
  rcases e3 with ⟨h1, h2, h3⟩ | ⟨f, q, w, h1, h2, h3, h4, h5⟩
  · exact .inl ⟨h1, h2, z.2.trans h3⟩
  · have hq : q ≠ a := fun y => by rw [y, na] at h3; cases h3
    exact .inr ⟨f, q, w, h1, z.2.trans h2, by rw [upd_ne hq]; exact h3, h4, RpL.mono (Stp.new m na).gr _ h5⟩
theorem s_try {K : PySem.W.Frag} {b : MSs} {hs : MHs} {l : List (Value × Option Nat × TS)} (hr : HsR ω C K hs l) (h : tS ω (evS C (.try_ b hs)) D σ H) : tS ⟨ω.mg, wHs K ω.W D l⟩ (evSs C b) D σ H := by
  obtain ⟨R, c, σd, M, m, rs, h⟩ := h
  rw [evS] at h
  refine ⟨R, c, σd, M, m, rs, ?_⟩
  revert h
  cases evSs C b σd M with
  | nx σ1 M1 => exact id
  | br σ1 M1 => exact id
  | ct σ1 M1 => exact id
  | rt d M1 => exact id
  | bad => exact id
  | ex e σ1 M1 =>
    intro h cls dd σ' H' c' af rs' ex
    replace h : PostS ω R H' c' M1 D (evHs C hs e σ1 M1) := PostS.shift (ω := ω) af h
    have m' : CM ω.mg R H' c' M1 := af.2
    replace rs' : RpS ω.mg H' (Lv R c' M1) c' σ1 σ' := rs'
    replace ex : ExR ω.mg H' (Lv R c' M1) c' cls dd e := ex
    clear af rs m
    induction hr with
    | nil =>
      rw [evHs] at h
      exact h cls dd σ' H' c' (Aft.refl m') rs' ex
    | @cons x cs ns i b' r B l yes no t ih =>
      rw [evHs.eq_def] at h
      dsimp only at h
      cases e with
      | exc k as =>
        have ex' := ex
        simp only [ExR] at ex'
        obtain ⟨A, e1, e2, _⟩ := ex'
        subst e1
        split at h
        · rename_i hk
          have kc : k ∈ cs := by
            simp only [iseD] at hk
            split at hk
            · assumption
            · split at hk <;> cases hk
          refine ⟨true, yes k A e2 kc, fun _ a oe na z fs => ?_, fun q => nomatch q⟩
          have st := Stp.new (o := frzA oe) m' na
          have h' := uns_post (h.shift ⟨st, m'.new na⟩)
          have rx := exc_own m' na z fs ex
          cases i with
          | none => exact ⟨R, c', σ1, M1, m'.new na, rs'.mono st.gr, h'⟩
          | some j => exact ⟨R, c', σ1.set j (some (.exc k as)), M1, m'.new na, (rs'.mono st.gr).set j rx, h'⟩
        · rename_i hk
          have kn : k ∈ ns := by
            simp only [iseD] at hk
            split at hk
            · cases hk
            · split at hk
              · assumption
              · cases hk
          exact ⟨false, no k A e2 kn, fun q => (nomatch q), fun _ => ih h⟩
        · exact h.elim
      | _ => simp only [ExR] at ex
end
end Mp

/-! The mini text against the program's text: statements. -/
namespace Mp
open PySem PySem.Spec PyProof.Rows L2

/-- is a comprehension's value stored ahead of its variables -/
def swT (sc : Scope) (y : Str) (py : Pos) (scope : Scope) (pos : Pos) : Bool := (sc.names.lookup y == some .local) && py.line == pos.line && !(scope.names.any fun (n, k) => n == y && (k == .local || k == .cell))
def noSw (sc : Scope) (tg e : Expr) : Bool := match e with
  | .ListComp _ _ scope p => (match tg with | .Name y py => !swT sc y py scope p | _ => true)
  | .SetComp _ _ _ _ => false
  | .DictComp _ _ _ scope p => (match tg with | .Name y py => !swT sc y py scope p | _ => true)
  | _ => true
def notComp : Expr → Bool
  | .ListComp _ _ _ _ => false
  | .SetComp _ _ _ _ => false
  | .DictComp _ _ _ _ _ => false
  | _ => true
def locals (sc : Scope) (line : Nat) (ts : List Expr) : List Str := ts.filterMap fun
    | .Name id pos => if sc.names.lookup id == some .local && pos.line == line then some id else none
    | _ => none
def noPar (sc : Scope) (tg e : Expr) : Bool := match tg, e with
  | .Tuple ts _ _, .Tuple vs _ _ => !(ts.length == 2 || ts.length == 3) || vs.length != ts.length || vs.any (fun | .Starred .. => true | _ => false) || (locals sc ((ts.head?.map (·.pos.line)).getD 0) ts).length != ts.length || vs.all (foldedForSure 8)
  | .List _ _, .Tuple _ _ _ => false
  | _, _ => true
def fnK (sc : Scope) : Bool := match sc.kind with
  | .function => true
  | _ => false
theorem fnK_of {sc : Scope} (h : fnK sc = true) : sc.kind = .function := by
  unfold fnK at h
  split at h
  · assumption
  · cases h
theorem sw_list {env : Env} {elt : Expr} {gs : List Comprehension} {scope : Scope} {pos py : Pos} {y : Str} {l : Nat} (hk : env.scope.kind = .function) : swapsWith (.ListComp elt gs scope pos) (some (.Name y py)) l env = pure (swT env.scope y py scope pos) := by
  have hb : env.blockKind = .function := by unfold Env.blockKind; rw [hk]; rfl
  unfold swapsWith swT
  simp only [hb, Expr.pos, Env.kindOf]
  rfl
theorem sw_dict {env : Env} {k v : Expr} {gs : List Comprehension} {scope : Scope} {pos py : Pos} {y : Str} {l : Nat} (hk : env.scope.kind = .function) : swapsWith (.DictComp k v gs scope pos) (some (.Name y py)) l env = pure (swT env.scope y py scope pos) := by
  have hb : env.blockKind = .function := by unfold Env.blockKind; rw [hk]; rfl
  unfold swapsWith swT
  simp only [hb, Expr.pos, Env.kindOf]
  rfl
theorem noSw_of {env : Env} {tg e : Expr} {l : Nat} (hk : env.scope.kind = .function) (h : noSw env.scope tg e = true) : swapsWithSole [tg] e l env = pure false := by
  show swapsWith e (some tg) l env = pure false
  unfold noSw at h
  split at h
  · split at h
    · rw [sw_list hk]
      simp only [Bool.not_eq_true'] at h
      rw [h]
    · rename_i hn
      unfold swapsWith
      cases tg <;> first | rfl | exact (hn _ _ rfl).elim
  · cases h
  · split at h
    · rw [sw_dict hk]
      simp only [Bool.not_eq_true'] at h
      rw [h]
    · rename_i hn
      unfold swapsWith
      cases tg <;> first | rfl | exact (hn _ _ rfl).elim
  · rename_i h1 h2 h3
    cases e <;> first | rfl | exact (h1 _ _ _ _ rfl).elim | exact (h2 _ _ _ _ rfl).elim | exact (h3 _ _ _ _ _ rfl).elim
theorem notComp_of {env : Env} {e : Expr} {l : Nat} (h : notComp e = true) : swapsWith e none l env = pure false := by
  cases e <;> first | rfl | simp [notComp] at h
theorem noPar_of {env : Env} {tg e : Expr} (hk : env.scope.kind = .function) (h : noPar env.scope tg e = true) : swappedStores [tg] e env = pure none := by
  have hb : env.blockKind = .function := by unfold Env.blockKind; rw [hk]; rfl
  unfold noPar at h
  split at h
  · rename_i ts x1 p1 vs x2 p2
    unfold swappedStores
    dsimp only
    simp only [hb]
    split
    · rfl
    · rename_i n1
      split
      · rfl
      · rename_i n2
        split
        · rfl
        · rename_i n3
          split
          · rfl
          · rename_i n4
            exfalso
            have n3 : ¬ ((locals env.scope ((ts.head?.map (·.pos.line)).getD 0) ts).length != ts.length || _) = true := n3
            simp only [Bool.or_eq_true, not_or] at n1 n3 h
            rcases h with (((h | h) | h) | h) | h
            · exact n1.1.1 h
            · exact n1.1.2 h
            · exact n2 h
            · exact n3.1 h
            · exact n4 h
  · cases h
  · rename_i h1 h2
    unfold swappedStores
    cases tg <;> cases e <;> first | rfl | exact (h1 _ _ _ _ _ _ rfl rfl).elim | exact (h2 _ _ _ _ _ rfl rfl).elim
theorem pair_locals {sc : Scope} {x y : Str} {px py : Pos} (hx : sc.names.lookup x = some .local) (hy : sc.names.lookup y = some .local) (hl : (py.line == px.line) = true) : locals sc px.line [.Name x px, .Name y py] = [x, y] := by
  have hl' : py.line = px.line := by simpa using hl
  simp [locals, List.filterMap_cons, hx, hy, hl']
theorem trip_locals {sc : Scope} {x y z : Str} {px py pz : Pos} (hx : sc.names.lookup x = some .local) (hy : sc.names.lookup y = some .local) (hz : sc.names.lookup z = some .local) (hl : (py.line == px.line) = true) (hl2 : (pz.line == px.line) = true) : locals sc px.line [.Name x px, .Name y py, .Name z pz] = [x, y, z] := by
  have hl' : py.line = px.line := by simpa using hl
  have hl2' : pz.line = px.line := by simpa using hl2
  simp [locals, List.filterMap_cons, hx, hy, hz, hl', hl2']
theorem star_false {a : Expr} (h : plainE a = true) : (match a with | .Starred .. => true | _ => false) = false := by
  cases a <;> first | rfl | simp [plainE] at h
theorem par_of {env : Env} {ts vs : List Expr} {ns : List Str} {pt pt2 : Pos} {kt k2 : Nat} {line : Nat} (hk : env.scope.kind = .function) (h1 : (ts.length == 2 || ts.length == 3) = true) (h2 : vs.length = ts.length) (hl : (ts.head?.map (·.pos.line)).getD 0 = line) (hn : locals env.scope line ts = ns) (h3 : ns.length = ts.length) (hd : ns.eraseDups = ns)
    (hs : vs.all plainE = true) (hf : vs.all (foldedForSure 8) = false) (hc : vs.all (constantsAlone 8) = false) : swappedStores [.Tuple ts kt pt] (.Tuple vs k2 pt2) env = pure (some ns) := by
  have hb : env.blockKind = .function := by unfold Env.blockKind; rw [hk]; rfl
  unfold swappedStores
  dsimp only
  simp only [hb, hl]
  generalize hg : List.filterMap _ ts = nm
  have hn' : nm = ns := by rw [← hg]; exact hn
  subst hn'
  generalize hv : vs.any _ = sv
  have hst : sv = false := by
    rw [← hv, List.any_eq_false]
    rw [List.all_eq_true] at hs
    intro a ha
    have p := hs a ha
    cases a <;> first | (simp [plainE] at p; done) | decide | exact Bool.false_ne_true
  subst hst
  rw [if_neg (by simp [h1, h2]), if_neg (by decide), if_neg (by simp [h3, hd]), if_neg (by rw [hf]; decide), if_neg (by rw [hc]; decide)]
end Mp

/-! Soundness of the checked statements. -/
namespace Mp
open PySem PySem.Spec PyProof.Rows L2

def isLc : ME → Bool
  | .lc _ _ _ _ _ => true
  | .lc2 _ _ _ _ _ _ _ _ _ => true
  | _ => false
def isDc : ME → Bool
  | .dc _ _ _ _ _ _ _ => true
  | _ => false
/-- name = a comprehension, its value stored ahead of its variables -/
def cSwap (G : Gx) (t : MT) (e : ME) (c : Ec) (tg ex : Expr) : Bool := match t, tg, ex with
  | .nm i, .Name y py, .ListComp _ _ scope p => decide (G.N[i]? = some y) && (c.1.names.lookup y == some .local) && swT c.1 y py scope p && (match e with
    | .new a => isLc a && cF G a c ex
    | a => isLc a && cE G a c ex)
  | .nm i, .Name y py, .DictComp _ _ _ scope p => decide (G.N[i]? = some y) && (c.1.names.lookup y == some .local) && swT c.1 y py scope p && (match e with
    | .new a => isDc a && cF G a c ex
    | a => isDc a && cE G a c ex)
  | _, _, _ => false
/-- names = values, stored from the right -/
def cPar (G : Gx) (t : MT) (e : ME) (c : Ec) (tg ex : Expr) : Bool := match t, e, tg, ex with
  | .tp (.cons (.nm i) (.cons (.nm j) .nil)), .tup (.cons a (.cons b .nil)), .Tuple [.Name x px, .Name y py] _ _, .Tuple [ea, eb] _ _ =>
    decide (G.N[i]? = some x) && decide (G.N[j]? = some y) && decide (i ≠ j) && (c.1.names.lookup x == some .local) && (c.1.names.lookup y == some .local) && py.line == px.line && decide ([x, y].eraseDups = [x, y]) && !([ea, eb].all (foldedForSure 8)) && !([ea, eb].all (constantsAlone 8)) && [ea, eb].all plainE && cEs G (.cons a (.cons b .nil)) c [ea, eb]
  | .tp (.cons (.nm i) (.cons (.nm j) (.cons (.nm l) .nil))), .tup (.cons a (.cons b (.cons d .nil))), .Tuple [.Name x px, .Name y py, .Name z pz] _ _, .Tuple [ea, eb, ed] _ _ =>
    decide (G.N[i]? = some x) && decide (G.N[j]? = some y) && decide (G.N[l]? = some z) && decide (i ≠ j) && decide (i ≠ l) && decide (j ≠ l) && (c.1.names.lookup x == some .local) && (c.1.names.lookup y == some .local) && (c.1.names.lookup z == some .local) && py.line == px.line && pz.line == px.line && decide ([x, y, z].eraseDups = [x, y, z]) && !([ea, eb, ed].all (foldedForSure 8)) && !([ea, eb, ed].all (constantsAlone 8)) && [ea, eb, ed].all plainE && cEs G (.cons a (.cons b (.cons d .nil))) c [ea, eb, ed]
  | _, _, _, _ => false
def cAsg (G : Gx) (t : MT) (e : ME) (c : Ec) (tg ex : Expr) : Bool := (noSw c.1 tg ex && noPar c.1 tg ex && plainE tg && cT G t c tg && cE G e c ex) || cSwap G t e c tg ex || (!G.hot && cPar G t e c tg ex)
/-- within a suite: no defs are called -/
def hotG (G : Gx) : Gx := { G with hot := true }
mutual
def cS : Gx → MS → Ec → Stmt → Bool
  | G, .asg t e, c, s => match s with
    | .Assign [tg] ex _ => fnK c.1 && cAsg G t e c tg ex
    | _ => false
  | G, .exp e, c, s => match s with
    | .Expr ex _ => notComp ex && cE G e c ex
    | _ => false
  | G, .ret e, c, s => match s with
    | .Return (some ex) _ => cE G e c ex
    | .Return none _ => (match e with | .con .non => true | _ => false)
    | _ => false
  | G, .ite q a b, c, s => match s with
    | .If ec sa sb _ => cB G q c ec && cSs G a c sa && cSs G b c sb
    | _ => false
  | G, .for_ t it b, c, s => match s with
    | .For tg ei body [] _ => setB ei && cI G it c tg ei && cT G t c tg && cSs G b c body && !G.hot
    | _ => false
  | G, .whl q b, c, s => match s with
    | .While ec body [] _ => cB G q c ec && cSs G b c body && !G.hot
    | _ => false
  | G, .rse x es, c, s => match s with
    | .Raise (some (.Call (.Name y _) args kws _)) none _ => !G.hot && decide (x = y) && glB c.1 x && nmB x && (match es, args, kws with
      | .nil, [], [] => decide (G.xs.lookup x = some none)
      | .cons a .nil, [e], [] => plainE e && (G.xs.lookup x).any Option.isSome && cE G a c e
      | .cons a .nil, [], [⟨some k, e, _⟩] => decide (G.xs.lookup x = some (some k)) && cE G a c e
      | _, _, _ => false)
    | _ => false
  | _, .brk, _, s => match s with
    | .Break _ => true
    | _ => false
  | _, .cnt, _, s => match s with
    | .Continue _ => true
    | _ => false
  | _, .pss, _, s => match s with
    | .Pass _ => true
    | _ => false
  | _, .nev, _, _ => true
  | G, .try_ b hs, c, s => match s with
    | .Try body (h :: hds) [] [] _ => !G.hot && cSs G b c body && cHs G hs c (h :: hds)
    | _ => false
def cSs : Gx → MSs → Ec → List Stmt → Bool
  | _, .nil, _, ss => match ss with
    | [] => true
    | _ => false
  | G, .cons s r, c, ss => match ss with
    | x :: xs => cS G s c x && cSs G r c xs
    | _ => false
def cHs : Gx → MHs → Ec → List ExceptHandler → Bool
  | _, .nil, _, hs => match hs with
    | [] => true
    | _ => false
  | G, .cons x cs ns i b r, c, hs => match hs with
    | .ExceptHandler (some (.Name y _)) nm (st :: sts) _ :: hds => decide (x = y) && glB c.1 x && nmB x && !cs.isEmpty && cs.all (fun k => decide ((k, x, true) ∈ G.em)) && ns.all (fun k => decide ((k, x, false) ∈ G.em)) && (match i, nm with
      | none, none => true
      | some j, some n => decide (G.N[j]? = some n) && (c.1.names.lookup n == some .local)
      | _, _ => false) && cSs (hotG G) b c (st :: sts) && cHs G r c hds
    | _ => false
end
section
variable {G : Gx} {C : Cl} {ω : Wk} {X : Cx} {c : Ec}
theorem lc_set {i : Nat} {y : Str} {py spos : Pos} {own : List Nat} {a : ME} {t : MT} {it : MI} {q : MC} {ee : Expr} {gs : List Comprehension} {scope : Scope} {pos : Pos} (h : cE G (.lc own a t it q) c (.ListComp ee gs scope pos) = true) (o : Okx G C ω X c) (hi : G.N[i]? = some y) (hl : c.1.names.lookup y = some .local) (hk : fnK c.1 = true) (hs : swT c.1 y py scope pos = true) :
    PS X (.Assign [.Name y py] (.ListComp ee gs scope pos) spos) (tAsg (tF ω (evE C (.lc own a t it q))) (gName i)) := by
  unfold cE at h
  split at h
  · rename_i hq
    cases hq
    simp only [Bool.and_eq_true, decide_eq_true_eq] at h
    obtain ⟨⟨⟨⟨⟨⟨⟨⟨rfl, h1⟩, h2⟩, h3⟩, h4⟩, h5⟩, h6⟩, h7⟩, hot⟩ := h
    have nd := o.nd
    rw [← o.N] at nd h3 hi
    rw [← o.sc] at h3 hl hk hs
    have p := ps_setLc (own := ownN X.N own) (g := gOf ω.no C X.K t) (spos := spos) (py := py) (pos := pos) (o.cool hot) nd hi hl (by rw [sw_list (fnK_of hk), hs]) (cI_ok it c _ _ ω X h4 o) (blkOk_by h3) (fun s H Ca cl fp => cT_ok t _ _ ω.no _ h5 (o.blk s H _ Ca cl fp)) (fun s H Ca cl fp => cC_ok q _ _ ω.no _ h6 (o.blk s H _ Ca cl fp)) (fun s H Ca cl fp => cE_ok a _ _ ω.no _ h7 (o.blk s H _ Ca cl fp)) (set_of h1)
    rw [ownN_snd] at p
    exact p.imp fun _ _ _ q => s_lc h2 q
  · cases h
theorem lc2_set {i : Nat} {y : Str} {py spos : Pos} {own own1 : List Nat} {a : ME} {t t1 : MT} {it it1 : MI} {q q1 : MC} {ee : Expr} {gs : List Comprehension} {scope : Scope} {pos : Pos} (h : cE G (.lc2 own own1 a t it q t1 it1 q1) c (.ListComp ee gs scope pos) = true) (o : Okx G C ω X c) (hi : G.N[i]? = some y) (hl : c.1.names.lookup y = some .local) (hk : fnK c.1 = true) (hs : swT c.1 y py scope pos = true) :
    PS X (.Assign [.Name y py] (.ListComp ee gs scope pos) spos) (tAsg (tF ω (evE C (.lc2 own own1 a t it q t1 it1 q1))) (gName i)) := by
  unfold cE at h
  split at h
  · rename_i hq
    cases hq
    simp only [Bool.and_eq_true, decide_eq_true_eq, List.all_eq_true] at h
    obtain ⟨⟨⟨⟨⟨⟨⟨⟨⟨⟨⟨⟨⟨⟨⟨rfl, rfl⟩, h1⟩, h1'⟩, h2⟩, h2'⟩, hv⟩, h3⟩, h4⟩, h5⟩, h6⟩, h4'⟩, h5'⟩, h6'⟩, h7⟩, hot⟩ := h
    have nd := o.nd
    rw [← o.N] at nd h3 hi
    rw [← o.sc] at h3 hl hk hs
    have p := ps_setLc2 (own := ownN X.N own) (vs1 := own1) (g := gOf ω.no C X.K t) (g1 := gOf ω.no C X.K t1) (spos := spos) (py := py) (pos := pos) (o.cool hot) nd hi hl (by rw [sw_list (fnK_of hk), hs]) (cI_ok it c _ _ ω X h4 o) (blkOk_by h3) (by rw [ownN_snd]; exact hv) (fun s H Ca cl fp => cT_ok t _ _ ω.no _ h5 (o.blk s H _ Ca cl fp)) (fun s H Ca cl fp => cC_ok q _ _ ω.no _ h6 (o.blk s H _ Ca cl fp))
        (fun s H Ca cl fp => cI_ok it1 _ _ _ ω.no _ h4' (o.blk s H _ Ca cl fp)) (fun s H Ca cl fp => cT_ok t1 _ _ ω.no _ h5' (o.blk s H _ Ca cl fp)) (fun s H Ca cl fp => cC_ok q1 _ _ ω.no _ h6' (o.blk s H _ Ca cl fp)) (fun s H Ca cl fp => cE_ok a _ _ ω.no _ h7 (o.blk s H _ Ca cl fp)) (set_of h1) (fun env x => set_of h1' x)
    rw [ownN_snd] at p
    exact p.imp fun _ _ _ q => s_lc2 h2 h2' q
  · cases h
theorem dc_set {i : Nat} {y : Str} {py spos : Pos} {b : Bool} {own : List Nat} {k v : ME} {t : MT} {it : MI} {q : MC} {ek ev : Expr} {gs : List Comprehension} {scope : Scope} {pos : Pos} (h : cE G (.dc b own k v t it q) c (.DictComp ek ev gs scope pos) = true) (o : Okx G C ω X c) (hi : G.N[i]? = some y) (hl : c.1.names.lookup y = some .local) (hk : fnK c.1 = true) (hs : swT c.1 y py scope pos = true) :
    PS X (.Assign [.Name y py] (.DictComp ek ev gs scope pos) spos) (tAsg (tF ω (evE C (.dc b own k v t it q))) (gName i)) := by
  unfold cE at h
  split at h
  · rename_i hq
    cases hq
    simp only [Bool.and_eq_true, decide_eq_true_eq] at h
    obtain ⟨⟨⟨⟨⟨⟨⟨⟨⟨rfl, h1⟩, h2⟩, h3⟩, h4⟩, h5⟩, h6⟩, h7⟩, h8⟩, hot⟩ := h
    have nd := o.nd
    rw [← o.N] at nd h3 hi
    rw [← o.sc] at h3 hl hk hs
    have p := ps_setDict (K := X.K) (b := b) (own := ownN X.N own) (k := k) (v := v) (t := t) (spos := spos) (py := py) (pos := pos) (o.cool hot) nd hi hl (by rw [sw_dict (fnK_of hk), hs]) (by have := o.un; omega) (by rw [ownN_snd]; exact h2) (cI_ok it c _ _ ω X h4 o) (blkOk_by h3) (set_of h1)
        (fun s H Ca cl fp => ⟨cT_ok t _ _ ω.no _ h5 (o.blk s H _ Ca cl fp), cC_ok q _ _ ω.no _ h6 (o.blk s H _ Ca cl fp), cE_ok k _ _ ω.no _ h7 (o.blk s H _ Ca cl fp), cE_ok v _ _ ω.no _ h8 (o.blk s H _ Ca cl fp)⟩)
    rw [ownN_snd] at p
    exact p
  · cases h
theorem cF_lc {own : List Nat} {a : ME} {t : MT} {it : MI} {q : MC} {e : Expr} (h : cF G (.lc own a t it q) c e = true) : cE G (.lc own a t it q) c e = true := by
  unfold cF at h
  unfold cE
  exact h
theorem cF_dc {b : Bool} {own : List Nat} {k v : ME} {t : MT} {it : MI} {q : MC} {e : Expr} (h : cF G (.dc b own k v t it q) c e = true) : cE G (.dc b own k v t it q) c e = true := by
  unfold cF at h
  unfold cE
  exact h
theorem cF_lc2 {own own1 : List Nat} {a : ME} {t t1 : MT} {it it1 : MI} {q q1 : MC} {e : Expr} (h : cF G (.lc2 own own1 a t it q t1 it1 q1) c e = true) : False := by
  unfold cF at h
  cases h
theorem cAsg_ok {t : MT} {e : ME} {tg ex : Expr} {pos : Pos} (hk : fnK c.1 = true) (h : cAsg G t e c tg ex = true) (o : Okx G C ω X c) : PS X (.Assign [tg] ex pos) (tS ω (evS C (.asg t e))) := by
  have hk' : X.env.scope.kind = .function := by rw [o.sc]; exact fnK_of hk
  unfold cAsg at h
  simp only [Bool.or_eq_true] at h
  rcases h with (h | h) | h
  · simp only [Bool.and_eq_true] at h
    obtain ⟨⟨⟨⟨h1, h2⟩, h3⟩, h4⟩, h5⟩ := h
    rw [← o.sc] at h1 h2
    exact (ps_asg (cE_ok e c _ ω X h5 o) (cT_ok t c _ ω X h4 o) (noSw_of hk' h1) (noPar_of hk' h2) (by cases tg <;> first | rfl | simp [plainE] at h3)).imp fun _ _ _ => s_asg
  · unfold cSwap at h
    split at h
    · simp only [Bool.and_eq_true, decide_eq_true_eq, beq_iff_eq] at h
      obtain ⟨⟨⟨h1, h2⟩, h3⟩, h4⟩ := h
      split at h4
      · rename_i a
        simp only [Bool.and_eq_true] at h4
        obtain ⟨k1, k2⟩ := h4
        cases a <;> simp only [isLc, Bool.false_eq_true] at k1
        · exact (lc_set (cF_lc k2) o h1 h2 hk h3).imp fun _ _ _ => s_asgN
        · exact (cF_lc2 k2).elim
      · rename_i a _
        simp only [Bool.and_eq_true] at h4
        obtain ⟨k1, k2⟩ := h4
        cases e <;> simp only [isLc, Bool.false_eq_true] at k1
        · exact (lc_set k2 o h1 h2 hk h3).imp fun _ _ _ => s_asgF (fun _ _ _ _ => lc_nw)
        · exact (lc2_set k2 o h1 h2 hk h3).imp fun _ _ _ => s_asgF (fun _ _ _ _ => lc2_nw)
    · simp only [Bool.and_eq_true, decide_eq_true_eq, beq_iff_eq] at h
      obtain ⟨⟨⟨h1, h2⟩, h3⟩, h4⟩ := h
      split at h4
      · rename_i a
        simp only [Bool.and_eq_true] at h4
        obtain ⟨k1, k2⟩ := h4
        cases a <;> simp only [isDc, Bool.false_eq_true] at k1
        exact (dc_set (cF_dc k2) o h1 h2 hk h3).imp fun _ _ _ => s_asgN
      · rename_i a _
        simp only [Bool.and_eq_true] at h4
        obtain ⟨k1, k2⟩ := h4
        cases e <;> simp only [isDc, Bool.false_eq_true] at k1
        exact (dc_set k2 o h1 h2 hk h3).imp fun _ _ _ => s_asgF (fun _ _ _ _ => dc_nw)
    · cases h
  · simp only [Bool.and_eq_true, Bool.not_eq_true'] at h
    obtain ⟨hot, h⟩ := h
    have calm := o.calm hot
    unfold cPar at h
    have nd := o.nd
    split at h
    · simp only [Bool.and_eq_true, decide_eq_true_eq, beq_iff_eq, Bool.not_eq_true'] at h
      obtain ⟨⟨⟨⟨⟨⟨⟨⟨⟨⟨h1, h2⟩, h3⟩, h4⟩, h5⟩, h6⟩, h7⟩, h8⟩, h9⟩, h10⟩, h11⟩ := h
      rw [← o.N] at nd h1 h2
      have e4 := h4
      have e5 := h5
      rw [← o.sc] at h4 h5
      exact (ps_par calm nd h1 h2 h3 h4 h5 (cEs_ok _ c _ ω X h11 o) (par_of hk' rfl rfl rfl (pair_locals h4 h5 (beq_iff_eq.mpr h6)) rfl h7 h10 h8 h9)).imp fun _ _ _ => s_par
    · simp only [Bool.and_eq_true, decide_eq_true_eq, beq_iff_eq, Bool.not_eq_true'] at h
      obtain ⟨⟨⟨⟨⟨⟨⟨⟨⟨⟨⟨⟨⟨⟨⟨h1, h2⟩, h3⟩, h4⟩, h5⟩, h6⟩, h7⟩, h8⟩, h9⟩, h10⟩, h11⟩, h12⟩, h13⟩, h14⟩, h15⟩, h16⟩ := h
      rw [← o.N] at nd h1 h2 h3
      rw [← o.sc] at h7 h8 h9
      exact (ps_par3 calm nd h1 h2 h3 h4 h5 h6 h7 h8 h9 (cEs_ok _ c _ ω X h16 o) (par_of hk' rfl rfl rfl (trip_locals h7 h8 h9 (beq_iff_eq.mpr h10) (beq_iff_eq.mpr h11)) rfl h12 h15 h13 h14)).imp fun _ _ _ => s_par3
    · cases h
/-- a context of statements -/
structure Stx (G : Gx) (X : Cx) : Prop where
  pas : G.hot = false → PassesOwn (model X.prog X.w) X.A X.env X.xe
  stk : X.stack = X.env :: X.outer
  frm : X.env.frame = some X.env.locals
  exn : X.ex = []
theorem Okx.hotter (o : Okx G C ω X c) (a : Addr) : Okx (hotG G) C (quiet ω) (hotX X a) c where
  N := o.N
  sc := o.sc
  fn := o.fn
  mg := o.mg
  nd := o.nd
  calm := fun h => by cases h
  gd := o.gd
  un := o.un
  bi := o.bi
  cs := o.cs
  xs := o.xs
  em := o.em
  kt := o.kt
  sup := o.sup
  sy := o.sy
  is := o.is
  han := fun _ => ⟨a, rfl⟩
  qt := fun _ _ _ _ _ z => z
  fnh := o.fnh
  room := fun h => by cases h
  tk := takes_none5
  fns := fun h => by cases h
theorem Stx.hotter (t : Stx G X) (a : Addr) : Stx (hotG G) (hotX X a) := ⟨fun h => (by cases h), t.stk, t.frm, t.exn⟩
theorem Okx.tried (o : Okx G C ω X c) (cold : G.hot = false) {W : WX} {pn : List (Addr × Obj)} {xe : Value → Shared → Prop} (tk : Takes (X.tr pn xe) W) : Okx G C ⟨ω.mg, W⟩ (X.tr pn xe) c where
  N := o.N
  sc := o.sc
  fn := o.fn
  mg := o.mg
  nd := o.nd
  calm := o.calm
  gd := o.gd
  un := o.un
  bi := o.bi
  cs := o.cs
  xs := o.xs
  em := o.em
  kt := o.kt
  sup := o.sup
  sy := o.sy
  is := o.is
  han := o.han
  qt := fun h => by rw [cold] at h; cases h
  fnh := o.fnh
  room := o.room
  tk := tk
  fns := o.fns
theorem rse_ok {x : Str} {es : MEs} {e : Expr} {args : List Expr} {kws : List Keyword} {p pos pos2 : Pos} (o : Okx G C ω X c) (hot : G.hot = false) (h1 : glB c.1 x = true) (h2 : nmB x = true) (h : (match es, args, kws with
      | .nil, [], [] => decide (G.xs.lookup x = some none)
      | .cons a .nil, [e], [] => plainE e && (G.xs.lookup x).any Option.isSome && cE G a c e
      | .cons a .nil, [], [⟨some k, e, _⟩] => decide (G.xs.lookup x = some (some k)) && cE G a c e
      | _, _, _ => false) = true) : PS X (.Raise (some (.Call (.Name x p) args kws pos)) none pos2) (tS ω (evS C (.rse x es))) := by
  split at h
  · obtain ⟨A, e1, e2, e3, e4, e5⟩ := o.xs x none (of_decide_eq_true h)
    exact (ps_raise (o.calm hot) o.tk (pmk_no e2 e1 e3 e4 (gl_of o h1) (nm_of h2).1)).imp fun _ _ _ q => s_rse0 (by rw [o.nm]; exact e1) (by rw [o.at_ e1]; exact e5) q
  · simp only [Bool.and_eq_true] at h
    obtain ⟨⟨h3, h4⟩, h5⟩ := h
    cases hx : G.xs.lookup x with
    | none => rw [hx] at h4; cases h4
    | some g =>
      cases g with
      | none => rw [hx] at h4; cases h4
      | some f =>
        obtain ⟨A, e1, ⟨fI, T⟩, e3, e4⟩ := o.xs x (some f) hx
        exact (ps_raise (o.calm hot) o.tk (pmk_in T (o.room hot) e1 o.sup (gl_of o h1) (cE_ok _ c _ ω X h5 o) (nm_of h2).1 (plain_star h3))).imp fun _ _ _ q => s_rse1 (by rw [o.nm]; exact e1) (by rw [o.at_ e1]; exact e4) q
  · simp only [Bool.and_eq_true, decide_eq_true_eq] at h
    obtain ⟨A, e1, ⟨fI, T⟩, e3, e4⟩ := o.xs x _ h.1
    exact (ps_raise (t := tMkI A _ _) (o.calm hot) o.tk (pmk_kw T (o.room hot) e1 o.sup (gl_of o h1) (nm_of h2).1 (pk_cons (cE_ok _ c _ ω X h.2 o) pk_nil) rfl rfl rfl)).imp fun _ _ _ q => s_rse1 (by rw [o.nm]; exact e1) (by rw [o.at_ e1]; exact e4) q
  · cases h
mutual
theorem cS_ok : ∀ (m : MS) (G : Gx) (c : Ec) (s : Stmt) (ω : Wk) (X : Cx), cS G m c s = true → Okx G C ω X c → Stx G X → PS X s (tS ω (evS C m))
  | .asg t e, G, c, s, ω, X, h, o, hp => by
    unfold cS at h
    split at h
    · simp only [Bool.and_eq_true] at h
      exact cAsg_ok h.1 h.2 o
    · cases h
  | .exp e, G, c, s, ω, X, h, o, hp => by
    unfold cS at h
    split at h
    · simp only [Bool.and_eq_true] at h
      exact (ps_expr (cE_ok e c _ ω X h.2 o) (notComp_of h.1)).imp fun _ _ _ => s_exp
    · cases h
  | .ret e, G, c, s, ω, X, h, o, hp => by
    unfold cS at h
    split at h
    · exact (ps_ret (cE_ok e c _ ω X h o)).imp fun _ _ _ => s_ret
    · split at h
      · exact ps_retN.imp fun _ _ _ => s_retN
      · cases h
    · cases h
  | .ite q a b, G, c, s, ω, X, h, o, hp => by
    unfold cS at h
    split at h
    · simp only [Bool.and_eq_true] at h
      exact (ps_if (cB_ok q c _ ω X h.1.1 o) (cSs_ok a G c _ ω X h.1.2 o hp) (cSs_ok b G c _ ω X h.2 o hp)).imp fun _ _ _ => s_if
    · cases h
  | .for_ t it b, G, c, s, ω, X, h, o, hp => by
    unfold cS at h
    split at h
    · simp only [Bool.and_eq_true, Bool.not_eq_true'] at h
      obtain ⟨⟨⟨⟨h1, h2⟩, h3⟩, h4⟩, hot⟩ := h
      exact (ps_for (hp.pas hot) (o.calm hot) (cI_ok it c _ _ ω X h2 o) (cT_ok t c _ ω X h3 o) (cSs_ok b G c _ ω X h4 o hp) (set_of h1)).imp fun _ _ _ => s_for
    · cases h
  | .whl q b, G, c, s, ω, X, h, o, hp => by
    unfold cS at h
    split at h
    · simp only [Bool.and_eq_true, Bool.not_eq_true'] at h
      exact (ps_while (hp.pas h.2) (cB_ok q c _ ω X h.1.1 o) (cSs_ok b G c _ ω X h.1.2 o hp)).imp fun _ _ _ => s_whl
    · cases h
  | .rse x es, G, c, s, ω, X, h, o, hp => by
    unfold cS at h
    split at h
    · simp only [Bool.and_eq_true, Bool.not_eq_true', decide_eq_true_eq] at h
      obtain ⟨⟨⟨⟨hot, rfl⟩, h1⟩, h2⟩, h3⟩ := h
      exact rse_ok (e := .Name x default) o hot h1 h2 h3
    · cases h
  | .brk, G, c, s, ω, X, h, o, hp => by
    unfold cS at h
    split at h
    · exact ps_break.imp fun _ _ _ => s_brk
    · cases h
  | .cnt, G, c, s, ω, X, h, o, hp => by
    unfold cS at h
    split at h
    · exact ps_continue.imp fun _ _ _ => s_cnt
    · cases h
  | .pss, G, c, s, ω, X, h, o, hp => by
    unfold cS at h
    split at h
    · exact ps_pass.imp fun _ _ _ => s_pss
    · cases h
  | .nev, G, c, s, ω, X, h, o, hp => ps_never.imp fun _ _ _ => s_nev
  | .try_ b hs, G, c, s, ω, X, h, o, hp => by
    unfold cS at h
    split at h
    · simp only [Bool.and_eq_true, Bool.not_eq_true'] at h
      obtain ⟨⟨hot, h1⟩, h2⟩ := h
      obtain ⟨l, hx, hr⟩ := cHs_ok hs G c _ ω X h2 o hp
      exact (ps_tryX (tb := fun W => tS ⟨ω.mg, W⟩ (evSs C b)) hp.stk hp.frm hp.exn o.tk (fun W pn xe tk pas => cSs_ok b G c _ ⟨ω.mg, W⟩ (X.tr pn xe) h1 (o.tried hot tk) ⟨fun _ => pas, hp.stk, hp.frm, hp.exn⟩) hx).imp fun _ _ _ q => s_try hr q
    · cases h
theorem cSs_ok : ∀ (m : MSs) (G : Gx) (c : Ec) (s : List Stmt) (ω : Wk) (X : Cx), cSs G m c s = true → Okx G C ω X c → Stx G X → PSs X s (tS ω (evSs C m))
  | .nil, G, c, s, ω, X, h, o, hp => by
    unfold cSs at h
    split at h
    · exact pss_nil.imp fun _ _ _ => s_snil
    · cases h
  | .cons a r, G, c, s, ω, X, h, o, hp => by
    unfold cSs at h
    split at h
    · simp only [Bool.and_eq_true] at h
      exact (pss_cons (cS_ok a G c _ ω X h.1 o hp) (cSs_ok r G c _ ω X h.2 o hp)).imp fun _ _ _ => s_scons
    · cases h
theorem cHs_ok : ∀ (m : MHs) (G : Gx) (c : Ec) (hs : List ExceptHandler) (ω : Wk) (X : Cx), cHs G m c hs = true → Okx G C ω X c → Stx G X → ∃ l, HdsX X hs l ∧ HsR ω C X.K m l
  | .nil, G, c, hs, ω, X, h, o, hp => by
    unfold cHs at h
    split at h
    · exact ⟨[], .nil, .nil⟩
    · cases h
  | .cons x cs ns i b r, G, c, hs, ω, X, h, o, hp => by
    unfold cHs at h
    split at h
    · simp only [Bool.and_eq_true, decide_eq_true_eq, List.all_eq_true, Bool.not_eq_true'] at h
      obtain ⟨⟨⟨⟨⟨⟨⟨⟨rfl, h1⟩, h2⟩, h3⟩, h4⟩, h5⟩, h6⟩, h7⟩, h8⟩ := h
      obtain ⟨l, t1, t2⟩ := cHs_ok r G c _ ω X h8 o hp
      obtain ⟨k0, hk0⟩ : ∃ k0, k0 ∈ cs := by
        cases cs with
        | nil => cases h3
        | cons k r => exact ⟨k, List.mem_cons_self⟩
      obtain ⟨_, B, _, eB, _⟩ := o.em k0 x true (h4 k0 hk0)
      have fact : ∀ k A v, (k, x, v) ∈ G.em → ω.mg.nm k = some (.ref A) → PySem.W.exmOne X.K (.ref A) (.ref B) = some v := fun k A v hm hA => by
        obtain ⟨A', B', a1, a2, a3⟩ := o.em k x v hm
        rw [o.nm, a1] at hA
        rw [eB] at a2
        cases hA
        cases a2
        exact a3
      have su : ∀ a, PSs (hotX X a) _ (tS (quiet ω) (evSs C b)) := fun a => cSs_ok b (hotG G) c _ (quiet ω) (hotX X a) h7 (o.hotter a) (hp.hotter a)
      have nm : Names X x (.ref B) := ⟨gl_of o h1, (nm_of h2).1, .inl eB⟩
      have rl : HsR ω C X.K (.cons x cs ns i b r) ((.ref B, i, tS (quiet ω) (evSs C b)) :: l) := .cons (fun k A hA hk => fact k A true (h4 k hk) hA) (fun k A hA hk => fact k A false (h5 k hk) hA) t2
      split at h6
      · exact ⟨_, .bare nm su t1, rl⟩
      · rename_i j n
        simp only [Bool.and_eq_true, decide_eq_true_eq, beq_iff_eq] at h6
        have nd := o.nd
        have at_ := h6.1
        rw [← o.N] at nd at_
        have loc : X.env.kindOf n = some .local := by
          unfold Env.kindOf
          rw [o.sc]
          exact h6.2
        exact ⟨_, .named nd at_ loc nm su t1, rl⟩
      · cases h6
    · cases h
end
end
end Mp

/-! A def's end; all defs by the level of calls. -/
namespace Mp
open PySem PySem.Spec PyProof.Rows L2

section
variable {mg : Mg} {H H' : Hp} {U U' : Addr → Prop} {c : List Addr}
mutual
theorem Rp.cut (hu : ∀ a, U' a → U a) (n : Nat) : ∀ (d : D) {v : V}, d.free n = true → Rp mg H U c d v → Rp mg H U' (c.take n) d v
  | .non, v, f, h => by simp only [Rp] at h ⊢; exact h
  | .bl _, v, f, h => by simp only [Rp] at h ⊢; exact h
  | .int _, v, f, h => by simp only [Rp] at h ⊢; exact h
  | .str _, v, f, h => by simp only [Rp] at h ⊢; exact h
  | .fn _, v, f, h => by simp only [Rp] at h ⊢; exact h
  | .exc _ as, v, f, h => by
    simp only [Rp] at h ⊢
    obtain ⟨a, oe, u, C, e, h1, h2, h3, h4, h5, h6⟩ := h
    refine ⟨a, oe, u, C, e, h1, fun z => h2 (hu a z), h3, h4, h5, ?_⟩
    rcases h6 with h6 | ⟨g, q, w, g1, g2, g3, g4, g5⟩
    · exact .inl h6
    · exact .inr ⟨g, q, w, g1, g2, g3, fun z => g4 (hu q z), RpL.cut hu n as (by simpa [D.free] using f) g5⟩
  | .cell k, v, f, h => by
    simp only [Rp] at h ⊢
    obtain ⟨a, e, hc⟩ := h
    have hk : k < n := by simpa [D.free] using f
    exact ⟨a, e, by rw [List.getElem?_take_of_lt hk]; exact hc⟩
  | .tup ds, v, f, h => by
    simp only [Rp] at h ⊢
    obtain ⟨a, vs, e, h1, h2, h3⟩ := h
    exact ⟨a, vs, e, h1, fun z => h2 (hu a z), RpL.cut hu n ds (by simpa [D.free] using f) h3⟩
  | .lst ds, v, f, h => by
    simp only [Rp] at h ⊢
    obtain ⟨a, vs, e, h1, h2, h3⟩ := h
    exact ⟨a, vs, e, h1, fun z => h2 (hu a z), RpL.cut hu n ds (by simpa [D.free] using f) h3⟩
  | .scr ns, v, f, h => by
    simp only [Rp] at h ⊢
    obtain ⟨a, e, h⟩ := h
    exact ⟨a, e, h.elim (fun z => .inl ⟨z.1, fun q => z.2 (hu a q)⟩) .inr⟩
  | .dct t ks us, v, f, h => by
    simp only [Rp] at h ⊢
    simp only [D.free, Bool.and_eq_true] at f
    obtain ⟨a, e, h1, h2⟩ := h
    refine ⟨a, e, fun z => h1 (hu a z), ?_⟩
    rcases h2 with ⟨et, kvs, h3, h4, h5⟩ | ⟨et, kvs, h3, h4, h5⟩
    · exact .inl ⟨et, kvs, h3, h4, RpL.cut hu n us f.2 h5⟩
    · exact .inr ⟨et, kvs, h3, h4, RpL.cut hu n us f.2 h5⟩
theorem RpL.cut (hu : ∀ a, U' a → U a) (n : Nat) : ∀ (ds : List D) {vs : List V}, frees n ds = true → RpL mg H U c ds vs → RpL mg H U' (c.take n) ds vs
  | [], vs, f, h => RpL.nil_iff.mpr (RpL.nil_iff.mp h)
  | d :: ds, vs, f, h => by
    obtain ⟨v, r, rfl, h1, t⟩ := RpL.cons_iff.mp h
    simp only [frees, Bool.and_eq_true] at f
    exact RpL.cons (Rp.cut hu n d f.1 h1) (RpL.cut hu n ds f.2 t)
end
end
mutual
theorem D.free_mono {n m : Nat} (h : n ≤ m) : ∀ (d : D), d.free n = true → d.free m = true
  | .non, _ => rfl
  | .bl _, _ => rfl
  | .int _, _ => rfl
  | .str _, _ => rfl
  | .fn _, _ => rfl
  | .scr _, _ => rfl
  | .cell k, f => by simp [D.free] at f ⊢; omega
  | .tup ds, f => by simp only [D.free] at f ⊢; exact frees_mono h ds f
  | .lst ds, f => by simp only [D.free] at f ⊢; exact frees_mono h ds f
  | .exc _ ds, f => by simp only [D.free] at f ⊢; exact frees_mono h ds f
  | .dct _ ks us, f => by
    simp only [D.free, Bool.and_eq_true] at f ⊢
    exact ⟨frees_mono h ks f.1, frees_mono h us f.2⟩
theorem frees_mono {n m : Nat} (h : n ≤ m) : ∀ (ds : List D), frees n ds = true → frees m ds = true
  | [], _ => rfl
  | d :: ds, f => by
    simp only [frees, Bool.and_eq_true] at f ⊢
    exact ⟨D.free_mono h d f.1, frees_mono h ds f.2⟩
end
section
variable {mg : Mg} {R : Addr → Prop} {H : Hp} {c : List Addr} {M : Cs}
theorem live_take {n k : Nat} (h : live (M.take n) k) : live M k ∧ k < n := by
  obtain ⟨d, e⟩ := h
  have hk : k < n := by
    have := (List.getElem?_eq_some_iff.mp e).1
    rw [List.length_take] at this
    omega
  rw [List.getElem?_take_of_lt hk] at e
  exact ⟨⟨d, e⟩, hk⟩
theorem lv_take {n : Nat} {a : Addr} (h : Lv R (c.take n) (M.take n) a) : Lv R c M a := by
  rcases h with h | ⟨k, l, e⟩
  · exact .inl h
  · obtain ⟨l1, l2⟩ := live_take l
    rw [List.getElem?_take_of_lt l2] at e
    exact .inr ⟨k, l1, e⟩
/-- a def's cells go -/
theorem CM.take (m : CM mg R H c M) (n : Nat) : CM mg R H (c.take n) (M.take n) := by
  refine ⟨by rw [List.length_take, List.length_take, m.len], fun i j a l1 l2 e1 e2 => ?_, fun i a l e => ?_, m.there, fun i d e => ?_, fun i d e => ?_⟩
  · obtain ⟨k1, k2⟩ := live_take l1
    obtain ⟨k3, k4⟩ := live_take l2
    rw [List.getElem?_take_of_lt k2] at e1
    rw [List.getElem?_take_of_lt k4] at e2
    exact m.inj i j a k1 k3 e1 e2
  · obtain ⟨k1, k2⟩ := live_take l
    rw [List.getElem?_take_of_lt k2] at e
    exact m.nres i a k1 e
  · obtain ⟨_, k2⟩ := live_take ⟨d, e⟩
    rw [List.getElem?_take_of_lt k2] at e
    have fr := m.fre i d e
    obtain ⟨a, e1, e2⟩ := m.obj i d e
    refine ⟨a, by rw [List.getElem?_take_of_lt k2]; exact e1, ?_⟩
    have hu : ∀ b, Lv R (c.take n) (M.take n) b → Lv R c M b := fun b => lv_take
    cases d <;> simp only [CellOk] at e2 ⊢
    · obtain ⟨vs, e3, e4⟩ := e2
      exact ⟨vs, e3, RpL.cut hu n _ (frees_mono (Nat.zero_le _) _ (by simpa [D.free] using fr)) e4⟩
    · simp only [D.free, Bool.and_eq_true] at fr
      have f2 := frees_mono (Nat.zero_le n) _ fr.2
      rcases e2 with ⟨e, kvs, e1, e2, r⟩ | ⟨e, kvs, e1, e2, r⟩
      · exact .inl ⟨e, kvs, e1, e2, RpL.cut hu n _ f2 r⟩
      · exact .inr ⟨e, kvs, e1, e2, RpL.cut hu n _ f2 r⟩
  · obtain ⟨_, k2⟩ := live_take ⟨d, e⟩
    rw [List.getElem?_take_of_lt k2] at e
    exact m.fre i d e
theorem Aft.take {M' : Cs} {H' : Hp} {c' : List Addr} (m : CM mg R H c M) (a : Aft mg R H c M M' H' c') : Aft mg R H c M (M'.take M.length) H' (c'.take M.length) := by
  refine ⟨⟨fun b o e n => ?_, fun i hi => ?_, a.1.res⟩, a.2.take _⟩
  · obtain ⟨k1, k2⟩ := a.1.keep b o e n
    exact ⟨k1, fun q => k2 (lv_take q)⟩
  · rw [List.getElem?_take_of_lt (by rw [← m.len]; exact hi)]
    exact a.1.pre i hi
end
theorem ExR.cut {mg : Mg} {H : Hp} {U U' : Addr → Prop} {c : List Addr} (hu : ∀ a, U' a → U a) (n : Nat) {cls : Value} {dd : Option Addr} : ∀ {e : D}, e.free n = true → ExR mg H U c cls dd e → ExR mg H U' (c.take n) cls dd e
  | .exc x as, f, h => by
    simp only [ExR] at h ⊢
    obtain ⟨C, h1, h2, h3⟩ := h
    refine ⟨C, h1, h2, ?_⟩
    simp only [D.free] at f
    rcases h3 with h3 | ⟨g, q, w, g1, g2, g3, g4, g5⟩
    · exact .inl h3
    · exact .inr ⟨g, q, w, g1, g2, g3, fun z => g4 (hu q z), RpL.cut hu n as f g5⟩
  | .non, _, h => h.elim
  | .bl _, _, h => h.elim
  | .int _, _, h => h.elim
  | .str _, _, h => h.elim
  | .tup _, _, h => h.elim
  | .lst _, _, h => h.elim
  | .dct _ _ _, _, h => h.elim
  | .cell _, _, h => h.elim
  | .fn _, _, h => h.elim
  | .scr _, _, h => h.elim

/-- the names' values at the entry -/
theorem start_rp {mg : Mg} {H : Hp} {U : Addr → Prop} {c : List Addr} {ds : List D} {vs : List V} {N : List Str} {n : Nat} (h : RpL mg H U c ds vs) (hn : n = N.length - ds.length) : RpS mg H U c (ds.map some ++ List.replicate n none) (L2.start N vs) := by
  subst hn
  unfold L2.start
  rw [h.len]
  refine ⟨by simp [h.len], fun i d e => ?_⟩
  rcases Nat.lt_or_ge i ds.length with hi | hi
  · rw [List.getElem?_append_left (by simpa using hi), List.getElem?_map] at e
    have hd : ds[i]? = some d := by
      cases hq : ds[i]? with
      | none => rw [hq] at e; cases e
      | some x => rw [hq] at e; simp at e; rw [e]
    obtain ⟨v, e1, e2⟩ := h.get hd
    exact ⟨v, by rw [List.getElem?_append_left (by simp [h.len]; exact hi), List.getElem?_map, e1]; rfl, e2⟩
  · rw [List.getElem?_append_right (by simpa using hi), List.getElem?_replicate] at e
    split at e <;> cases e
/-- a def's end -/
theorem fin_ok {mg : Mg} {E : XK} {R : Addr → Prop} {H : Hp} {c : List Addr} {M : Cs} {Q : VK} {keep : Bool} {r : SR} {W : WX} (m : CM mg R H c M) (hW : ∀ cls dd σ H, E cls dd H → W cls dd σ H)
    (h : Post ⟨mg, fun cls dd _ H' => E cls dd H'⟩ (rlD ⟨mg, fun cls dd _ H' => E cls dd H'⟩) R H c M [] Q (finF keep M.length r)) : PostS ⟨mg, W⟩ R H c M { nx := fun _ H' => Q .non H', rt := Q } r := by
  have lvt : ∀ {c' : List Addr} {M' : Cs} (b : Addr), Lv R (c'.take M.length) (M'.take M.length) b → Lv R c' M' b := fun b => lv_take
  cases r with
  | nx σ M' => exact fun σ' H' c' a _ => h .non H' _ (a.take m) (by simp [rlD, Rp])
  | br σ M' => exact h.elim
  | ct σ M' => exact h.elim
  | bad => exact h.elim
  | rt d M' =>
    intro v H' c' a r
    simp only [finF] at h
    split at h
    · exact h v H' c' a r
    · split at h
      · rename_i f
        exact h v H' _ (a.take m) (Rp.cut lvt _ d f r)
      · exact h.elim
  | ex e σ M' =>
    intro cls dd σ' H' c' a _ r
    simp only [finF] at h
    split at h
    · rename_i f
      exact hW _ _ _ _ (h cls dd H' _ (a.take m) (ExR.cut lvt _ f r))
    · exact h.elim
end Mp

/-! How a call's values are bound; all defs by the level of calls. -/
namespace Mp
open PySem PySem.Spec PyProof.Rows L2

def simpleB (p : Arguments) (ps : List Str) : Bool := p.posonlyargs.isEmpty && decide (p.args.map (·.arg) = ps) && p.vararg.isNone && p.kwonlyargs.isEmpty && p.kwarg.isNone
theorem lookup_app_none {α : Type} {x : Str} : ∀ {l r : List (Str × α)}, (l.lookup x).isSome = false → (l ++ r).lookup x = r.lookup x
  | [], r, _ => rfl
  | (k, v) :: l, r, h => by
    rw [List.lookup_cons] at h
    rw [List.cons_append, List.lookup_cons]
    split
    · rename_i e; rw [e] at h; cases h
    · rename_i e; rw [e] at h; exact lookup_app_none h
theorem forIn_binds {ps : List Str} {f : Str × Value → List (Str × Value) × List (Str × Value) → Sem (ForInStep (List (Str × Value) × List (Str × Value)))}
    (hf : ∀ x s, ps.contains x.1 = true → (s.1.lookup x.1).isSome = false → f x s = pure (.yield (s.1 ++ [x], s.2))) :
    ∀ (kw sl : List (Str × Value)) (ex : List (Str × Value)), (∀ x ∈ kw, ps.contains x.1 = true ∧ (sl.lookup x.1).isSome = false) → (kw.map (·.1)).Nodup → forIn kw (sl, ex) f = pure (sl ++ kw, ex)
  | [], sl, ex, _, _ => by rw [List.forIn_nil, List.append_nil]
  | x :: kw, sl, ex, h, nd => by
    rw [List.forIn_cons, hf x (sl, ex) (h x List.mem_cons_self).1 (h x List.mem_cons_self).2, pure_bind]
    dsimp only
    simp only [List.map_cons, List.nodup_cons] at nd
    rw [forIn_binds hf kw (sl ++ [x]) ex (fun y hy => ⟨(h y (List.mem_cons_of_mem _ hy)).1, ?_⟩) nd.2, List.append_assoc]
    · rfl
    · rw [lookup_app_none (h y (List.mem_cons_of_mem _ hy)).2, List.lookup_cons]
      have ne : y.1 ≠ x.1 := fun e => nd.1 (e ▸ List.mem_map_of_mem hy)
      have : (y.1 == x.1) = false := beq_false_of_ne ne
      rw [this]; rfl
theorem bind_go {name qual : Str} {params : Arguments} {body : List Stmt} {scope : Scope} {kV doc pm cdv ct : Value} {an : Option Addr} {ps : List Str} (h : simpleB params ps = true) (us : List Value) (kw : List (Str × Value)) (hl : us.length ≤ ps.length)
    (hk : ∀ x ∈ kw, ps.contains x.1 = true ∧ ((ps.zip us).lookup x.1).isSome = false) (nd : (kw.map (·.1)).Nodup) (al : ∀ x ∈ ps, ((ps.zip us ++ kw).lookup x).isSome = true) :
    bindArgs (PySem.W.fnOf name qual params body scope .none kV doc pm an cdv ct) ⟨us, kw⟩ = pure (ps.filterMap fun n => ((ps.zip us ++ kw).lookup n).map (n, ·)) := by
  obtain ⟨po, ar, va, ko, kd, ka, df⟩ := params
  simp only [simpleB, Bool.and_eq_true, List.isEmpty_iff, decide_eq_true_eq, Option.isNone_iff_eq_none] at h
  obtain ⟨⟨⟨⟨rfl, h1⟩, rfl⟩, rfl⟩, rfl⟩ := h
  unfold bindArgs
  simp only [PySem.W.fnOf, h1, List.map_nil, List.nil_append, List.append_nil]
  rw [forIn_binds (ps := ps) (fun x s a b => by
    have a' : (ps.contains x.1 || ([] : List Str).contains x.1) = true := by rw [a]; rfl
    simp only [a', b, if_true, Bool.false_eq_true, if_false]) kw (ps.zip us) [] hk nd]
  rw [pure_bind]
  dsimp only
  rw [show (seqItems? Value.none) = pure none from rfl, pure_bind]
  have lt : (decide (us.length > ps.length) && (none : Option Arg).isNone) = false := by
    rw [decide_eq_false (by omega)]; rfl
  rw [lt, if_neg (by decide)]
  have hz : ((none : Option (Array Value)).getD #[]).toList = [] := rfl
  have em : (List.filter (fun n => (List.lookup n (ps.zip us ++ kw)).isNone) ps) = [] := by
    rw [List.filter_eq_nil_iff]
    intro x hx
    have := al x hx
    cases e : List.lookup x (ps.zip us ++ kw) <;> simp [e] at this ⊢
  simp only [hz, List.drop_nil, List.length_nil, Nat.sub_zero, List.take_length, em, List.isEmpty_nil, Bool.not_true, Bool.false_eq_true, if_false, List.drop_length, List.zip_nil_right, List.forIn_nil, pure_bind]

theorem lookup_zip {α : Type} : ∀ {ps : List Str} {us : List α} {j : Nat} {x : Str} {v : α}, ps.Nodup → ps[j]? = some x → us[j]? = some v → (ps.zip us).lookup x = some v
  | [], _, _, _, _, _, h, _ => by simp at h
  | _ :: _, [], _, _, _, _, _, h => by simp at h
  | p :: ps, u :: us, 0, x, v, nd, h1, h2 => by
    simp at h1 h2
    subst h1 h2
    rw [List.zip_cons_cons, List.lookup_cons]
    simp
  | p :: ps, u :: us, j + 1, x, v, nd, h1, h2 => by
    have h1' : ps[j]? = some x := by simpa using h1
    have h2' : us[j]? = some v := by simpa using h2
    simp only [List.nodup_cons] at nd
    have ne : x ≠ p := fun e => nd.1 (e ▸ List.mem_of_getElem? h1')
    rw [List.zip_cons_cons, List.lookup_cons, beq_false_of_ne ne]
    exact lookup_zip nd.2 h1' h2'
theorem lookup_zip_none {α : Type} : ∀ {ps : List Str} {us : List α} {x : Str}, x ∉ ps.take us.length → (ps.zip us).lookup x = none
  | [], _, _, _ => by simp
  | _ :: _, [], _, _ => by simp
  | p :: ps, u :: us, x, h => by
    simp only [List.length_cons, List.take_succ_cons, List.mem_cons, not_or] at h
    rw [List.zip_cons_cons, List.lookup_cons, beq_false_of_ne h.1]
    exact lookup_zip_none h.2
theorem filterMap_zip {α : Type} {L : Str → Option α} : ∀ {ps : List Str} {r : List α}, r.length = ps.length → (∀ (j : Nat) (x : Str) (v : α), ps[j]? = some x → r[j]? = some v → L x = some v) → ps.filterMap (fun n => (L n).map (n, ·)) = ps.zip r
  | [], _, _, _ => rfl
  | p :: ps, [], h, _ => by simp at h
  | p :: ps, v :: r, h, k => by
    rw [List.filterMap_cons, k 0 p v rfl rfl]
    simp only [Option.map_some, List.zip_cons_cons]
    rw [filterMap_zip (by simpa using h) fun j x w h1 h2 => k (j + 1) x w (by simpa using h1) (by simpa using h2)]
theorem binds_of {name qual : Str} {params : Arguments} {body : List Stmt} {scope : Scope} {kV doc pm cdv ct : Value} {an : Option Addr} {ps ks : List Str} {n : Nat} {perm : List Nat} (h : simpleB params ps = true) (nd : ps.Nodup) (hs : kwShape ps n ks perm = true) :
    ∀ (s : Shared) (us ws : List Value), us.length = n → ws.length = ks.length → BindsTo s (PySem.W.fnOf name qual params body scope .none kV doc pm an cdv ct) ⟨us, ks.zip ws⟩ (ps.zip (permL .none perm (us ++ ws))) := by
  intro s us ws l1 l2
  refine BindsTo.of_eq ?_
  unfold kwShape at hs
  split at hs
  · rename_i z
    subst z
    simp only [Bool.and_eq_true, List.isEmpty_iff, beq_iff_eq] at hs
    obtain ⟨rfl, rfl⟩ := hs
    have e0 : ws = [] := List.eq_nil_of_length_eq_zero l2
    subst e0
    have all : ∀ x ∈ ps, ((ps.zip us ++ ([] : List Str).zip ([] : List Value)).lookup x).isSome = true := fun x hx => by
      obtain ⟨j, e⟩ := List.mem_iff_getElem?.mp hx
      have hj : j < us.length := by rw [l1]; exact (List.getElem?_eq_some_iff.mp e).1
      rw [show ([] : List Str).zip ([] : List Value) = [] from rfl, List.append_nil, lookup_zip nd e (List.getElem?_eq_getElem hj)]
      rfl
    rw [bind_go h us _ (by omega) (by simp) (by simp) all]
    congr 1
    refine filterMap_zip (by simp [permL, l1]) fun j x v h1 h2 => ?_
    simp only [permL, List.append_nil] at h2
    rw [show ([] : List Str).zip ([] : List Value) = [] from rfl, List.append_nil, lookup_zip nd h1 h2]
  · rename_i z
    simp only [Bool.and_eq_true, decide_eq_true_eq, beq_iff_eq, List.all_eq_true, Bool.not_eq_true', List.isEmpty_eq_false_iff] at hs
    obtain ⟨⟨⟨⟨⟨rfl, h2⟩, h3, h3b⟩, h4⟩, _⟩, h6⟩ := hs
    have hm : ∀ k ∈ ks, k ∈ ps.drop n := fun k hk => by simpa using h3 k hk
    have notTake : ∀ x, x ∈ ps.drop n → x ∉ ps.take us.length := fun x hx hx2 => by
      rw [l1] at hx2
      have nd2 : (ps.take n ++ ps.drop n).Nodup := by rw [List.take_append_drop]; exact nd
      exact (List.nodup_append.mp nd2).2.2 x hx2 x hx rfl
    have kin : ∀ x ∈ ks.zip ws, x.1 ∈ ks := fun x hx => (List.of_mem_zip (a := x.1) (b := x.2) hx).1
    have sub : ∀ x ∈ ps.drop n, x ∈ ks := fun x hx => by simpa using h3b x hx
    have find : ∀ (j : Nat) (x : Str) (v : Value), ps[j]? = some x → (permL .none (permOf ps n ks) (us ++ ws))[j]? = some v → ((ps.zip us ++ ks.zip ws).lookup x) = some v := fun j x v e1 e2 => by
      have hj := (List.getElem?_eq_some_iff.mp e1).1
      have ne : permOf ps n ks ≠ [] := by
        unfold permOf
        cases ps <;> simp at h6 ⊢
      have e3 : (permL Value.none (permOf ps n ks) (us ++ ws))[j]? = some ((us ++ ws).getD (if j < n then j else n + ks.idxOf (ps.getD j "")) .none) := by
        unfold permL
        split
        · rename_i z; exact (ne z).elim
        · unfold permOf
          simp [hj]
      rw [e3] at e2
      have ev : (us ++ ws).getD (if j < n then j else n + ks.idxOf (ps.getD j "")) .none = v := Option.some.inj e2
      by_cases hjn : j < n
      · rw [if_pos hjn] at ev
        have hju : j < us.length := by omega
        have e4 : us[j]? = some v := by
          rw [← ev, List.getD_eq_getElem?_getD, List.getElem?_append_left hju, List.getElem?_eq_getElem hju]; rfl
        have e5 := lookup_zip nd e1 e4
        rw [List.lookup_append, e5]; rfl
      · rw [if_neg hjn] at ev
        have hx : x ∈ ps.drop n := List.mem_iff_getElem?.mpr ⟨j - n, by rw [List.getElem?_drop, Nat.add_sub_cancel' (by omega)]; exact e1⟩
        have hk := sub x hx
        have eg : ps.getD j "" = x := by rw [List.getD_eq_getElem?_getD, e1]; rfl
        rw [eg] at ev
        have hi : ks.idxOf x < ks.length := List.idxOf_lt_length_of_mem hk
        have e6 : ks[ks.idxOf x]? = some x := by rw [List.getElem?_eq_getElem hi, List.getElem_idxOf hi]
        have e7 : ws[ks.idxOf x]? = some v := by
          rw [← ev, List.getD_eq_getElem?_getD, List.getElem?_append_right (by omega), show n + ks.idxOf x - us.length = ks.idxOf x by omega, List.getElem?_eq_getElem (by omega)]; rfl
        have e8 : (ps.zip us).lookup x = none := lookup_zip_none (notTake x hx)
        rw [List.lookup_append, e8, lookup_zip h4 e6 e7]; rfl
    have len : (permL Value.none (permOf ps n ks) (us ++ ws)).length = ps.length := by
      unfold permL permOf
      split
      · rename_i z
        have := congrArg List.length z
        simp at this
        rw [this] at h6; exact (h6 rfl).elim
      · simp
    have all : ∀ x ∈ ps, ((ps.zip us ++ ks.zip ws).lookup x).isSome = true := fun x hx => by
      obtain ⟨j, e⟩ := List.mem_iff_getElem?.mp hx
      have hj : j < (permL Value.none (permOf ps n ks) (us ++ ws)).length := by rw [len]; exact (List.getElem?_eq_some_iff.mp e).1
      rw [find j x _ e (List.getElem?_eq_getElem hj)]; rfl
    have c1 : ∀ x ∈ ks.zip ws, ps.contains x.1 = true ∧ ((ps.zip us).lookup x.1).isSome = false := fun x hx => by
      have k := hm _ (kin x hx)
      refine ⟨by simpa using List.mem_of_mem_drop k, ?_⟩
      rw [lookup_zip_none (notTake _ k)]; rfl
    have c2 : ((ks.zip ws).map (·.1)).Nodup := by
      rw [List.map_fst_zip (by omega)]; exact h4
    rw [bind_go h us _ (by omega) c1 c2 all]
    congr 1
    exact filterMap_zip len find
theorem kwb_of {K : PySem.W.Frag} {name qual : Str} {params : Arguments} {body : List Stmt} {scope : Scope} {kV doc pm cdv ct : Value} {an : Option Addr} {ps ks : List Str} {n : Nat} {perm : List Nat} (h : simpleB params ps = true) (nd : ps.Nodup) (hs : kwShape ps n ks perm = true) :
    KwB K (PySem.W.fnOf name qual params body scope .none kV doc pm an cdv ct) ps n ks perm := fun s us ws _ l1 l2 => binds_of h nd hs s us ws l1 l2
end Mp

/-! What is asked of the written part about own exception classes. -/
namespace Mp
open PySem PySem.W PySem.Spec PyProof.Rows L2

def oexB (K : Frag) (C : Addr) : Bool := (match K.lookup C with
  | some ⟨.type t, _, .cls cd, sl⟩ => (match cd.mro, sl.toList with
    | .ref C' :: bm, [_, _, _, _, some (.builtin n), _] => decide (t = "type") && decide (C' = C) && decide (n = "ValueError.__new__") && !cd.hasDel && cd.hasDict && HandSPX.refsVE bm
    | _, _ => false)
  | _ => false) && decide (findIn K (.ref C) "__setattr__" = some (some (.builtin "object.__setattr__"))) && decide (subIn K (.ref C) (.type "BaseException") = some true) && decide (typeIn K (.ref C) = some (.type "type")) && keepIn K (.ref C)
theorem oexB_ok {K : Frag} {C : Addr} (h : oexB K C = true) : OexC K C := by
  simp only [oexB, Bool.and_eq_true, decide_eq_true_eq] at h
  obtain ⟨⟨⟨⟨h1, h2⟩, h3⟩, h4⟩, h5⟩ := h
  refine ⟨?_, h2, h3, h4, h5⟩
  split at h1
  · rename_i t dd cd sl e
    split at h1
    · rename_i C' bm k0 k1 k2 k3 n k5 em es
      simp only [Bool.and_eq_true, decide_eq_true_eq, Bool.not_eq_true'] at h1
      obtain ⟨⟨⟨⟨⟨rfl, rfl⟩, rfl⟩, hd⟩, hh⟩, hv⟩ := h1
      obtain ⟨nm, bs, mro, ns, qn, hdc, sn, sub, ab, col, del⟩ := cd
      dsimp only at em hd hh
      subst em hd hh
      have : sl = #[k0, k1, k2, k3, some (.builtin "ValueError.__new__"), k5] := by
        obtain ⟨l⟩ := sl
        simp only at es
        rw [es]
      subst this
      exact ⟨nm, qn, ns, bs, bm, sn, sub, ab, col, dd, k0, k1, k2, k3, k5, e, hv⟩
    · cases h1
  · cases h1
def shapeB (f : Str) : List Stmt → Bool
  | [.Expr (.Call (.Attribute (.Call (.Name a _) [] [] _) b p2) [] [] p3) _, .Assign [.Attribute (.Name s _) g _] (.Name x _) _] => decide (a = "super") && decide (b = "__init__") && decide (s = "self") && decide (g = f) && decide (x = f) && (p2.endLine == p3.line)
  | _ => false
theorem shapeB_ok {f : Str} {l : List Stmt} (h : shapeB f l = true) : InitBody f l ∧ keepsF (.stmts l) = some f := by
  unfold shapeB at h
  split at h
  · simp only [Bool.and_eq_true, decide_eq_true_eq] at h
    obtain ⟨⟨⟨⟨⟨rfl, rfl⟩, rfl⟩, rfl⟩, rfl⟩, h⟩ := h
    exact ⟨.mk _ _ _ _ _ _ _ _ _ h, rfl⟩
  · cases h
def lkB (sc : Scope) (x : Str) (k : NameKind) : Bool := match sc.names.lookup x, k with
  | some .local, .local => true
  | some .free, .free => true
  | some .globalImplicit, .globalImplicit => true
  | _, _ => false
theorem lkB_ok {sc : Scope} {x : Str} {k : NameKind} (h : lkB sc x k = true) : sc.names.lookup x = some k := by
  unfold lkB at h
  split at h
  · assumption
  · assumption
  · assumption
  · cases h
def nonB : Value → Bool
  | .none => true
  | _ => false
def fdB (P : Program) (K : Frag) (C fI : Addr) (f : Str) : Bool := match K.lookup fI with
  | some ⟨_, _, .func fd, _⟩ => (match fd.body with | .stmts l => shapeB f l | _ => false) && simpleB fd.params ["self", f] && nonB fd.defaults && fnK fd.scope && !fd.scope.isCoroutine && !fd.scope.isGenerator && lkB fd.scope "super" .globalImplicit && lkB fd.scope "__class__" .free &&
      lkB fd.scope "self" .local && lkB fd.scope f .local && fd.scope.names.all (fun x => match x.2 with | .cell => false | _ => true) && decide (fd.globals = mainGlobals) && decide (fd.builtins = builtinsNs) && codeIn K fd.code fd.qualname && (match fd.closure.lookup ("__class__" : Str), fd.code with
      | some cc, .ref cda => (match K.lookup cc with | some ⟨_, _, .cell (some (.ref C')), _⟩ => decide (C' = C) | _ => false) && (match K.lookup cda with | some ⟨_, _, .fields vs, _⟩ => (match (vs[2]? : Option Value) with | some (.str file _) => (P.main.file : Str) == file | _ => false) | _ => false)
      | _, _ => false)
  | _ => false
/-- an __init__ that keeps f, at fI -/
def iniB (P : Program) (K : Frag) (C : Addr) (f : Str) : Bool := match findIn K (.ref C) "__init__" with
  | some (some (.ref fI)) => fdB P K C fI f && decide (typeIn K (.ref fI) = some (.type "function"))
  | _ => false
def xcB (P : Program) (K : Frag) (C : Addr) : Option Str → Bool
  | none => PySem.W.excIn K C He.veBase "ValueError.__new__" && keepIn K (.ref C) && decide (subIn K (.ref C) (.type "BaseException") = some true) && decide (typeIn K (.ref C) = some (.type "type")) && (attC K C).isNone
  | some f => iniB P K C f && oexB K C && xfB K C && decide (findIn K (.ref C) f = some none) && decide (nsIn K cStatics "thirdparty.any" = some none) && decide (ks_superIn K C C "__init__" = some (some (.builtin "ValueError.__init__"))) &&
      decide (subIn K (.ref C) (.type "ValueError") = some true) && decide (mroIn K C (.ref C) = some true) && !(P.main.scope.names.lookup ("super" : Str)).isSome && !(f == ("__debug__" : Str)) && !(f == ("self" : Str))
/-- of a context: what stands of the class at C -/
def XcP (P : Program) (K : Frag) (C : Addr) : Option Str → Prop
  | none => PySem.W.excIn K C He.veBase "ValueError.__new__" = true ∧ keepIn K (.ref C) = true ∧ (subIn K (.ref C) (.type "BaseException") = some true ∧ typeIn K (.ref C) = some (.type "type")) ∧ attC K C = none
  | some f => (∃ fI, IniC P K C fI f) ∧ XfC K C ∧ attC K C = some f
theorem xcP_ok {P : Program} {K : Frag} {C : Addr} {g : Option Str} {X : Cx} (h : XcP P K C g) (hP : X.prog = P) (hK : X.K = K) : XcOk X C g := by
  subst hP hK
  cases g with
  | none => exact ⟨h.1, h.2.1, raises_own h.2.2.1.1 h.2.2.1.2, h.2.2.2⟩
  | some f => exact h
theorem binds2 {fd : FuncData} {body : List Stmt} {f : Str} (hb : fd.body = .stmts body) (hs : simpleB fd.params ["self", f] = true) (hd : fd.defaults = .none) (nf : (f == ("self" : Str)) = false) (s : Shared) (a u : Value) : BindsTo s fd ⟨[a, u], []⟩ [("self", a), (f, u)] := by
  obtain ⟨n1, n2, n3, n4, n5, n6, n7, n8, n9, n10, n11, n12, n13, n14, n15⟩ := fd
  dsimp only at hb hs hd
  subst hb hd
  have ne : f ≠ "self" := by simpa using nf
  have e := bind_go (name := n1) (qual := n2) (body := body) (scope := n5) (kV := n9) (doc := n10) (pm := n11) (cdv := n13) (ct := n14) (an := n12) hs [a, u] [] (by simp) (by simp) (by simp) (fun x hx => by
    have hx : x = "self" ∨ x = f := by simpa using hx
    rcases hx with rfl | rfl
    · simp [List.lookup]
    · have : (x == ("self" : Str)) = false := nf
      simp [List.lookup, this])
  refine BindsTo.of_eq (Eq.trans (show _ = bindArgs (fnOf n1 n2 n3 body n5 .none n9 n10 n11 n12 n13 n14) ⟨[a, u], []⟩ from rfl) (e.trans ?_))
  have : (f == ("self" : Str)) = false := nf
  simp [List.lookup, this]
theorem binds3 {fd : FuncData} {body : List Stmt} {f : Str} (hb : fd.body = .stmts body) (hs : simpleB fd.params ["self", f] = true) (hd : fd.defaults = .none) (nf : (f == ("self" : Str)) = false) (s : Shared) (a u : Value) : BindsTo s fd ⟨[a], [(f, u)]⟩ [("self", a), (f, u)] := by
  obtain ⟨n1, n2, n3, n4, n5, n6, n7, n8, n9, n10, n11, n12, n13, n14, n15⟩ := fd
  dsimp only at hb hs hd
  subst hb hd
  have ne : f ≠ "self" := by simpa using nf
  have e := bind_go (name := n1) (qual := n2) (body := body) (scope := n5) (kV := n9) (doc := n10) (pm := n11) (cdv := n13) (ct := n14) (an := n12) hs [a] [(f, u)] (by simp) (fun x hx => by
    simp only [List.mem_singleton] at hx
    subst hx
    have : (f == ("self" : Str)) = false := nf
    exact ⟨by simp, by simp [List.lookup, this]⟩) (by simp) (fun x hx => by
    have hx : x = "self" ∨ x = f := by simpa using hx
    rcases hx with rfl | rfl
    · simp [List.lookup]
    · have : (x == ("self" : Str)) = false := nf
      simp [List.lookup, this])
  refine BindsTo.of_eq (Eq.trans (show _ = bindArgs (fnOf n1 n2 n3 body n5 .none n9 n10 n11 n12 n13 n14) ⟨[a], [(f, u)]⟩ from rfl) (e.trans ?_))
  have : (f == ("self" : Str)) = false := nf
  simp [List.lookup, this]
theorem xcB_ok {P : Program} {K : Frag} {C : Addr} {g : Option Str} (h : xcB P K C g = true) : XcP P K C g := by
  cases g with
  | none =>
    simp only [xcB, Bool.and_eq_true, decide_eq_true_eq, Option.isNone_iff_eq_none] at h
    exact ⟨h.1.1.1.1, h.1.1.1.2, ⟨h.1.1.2, h.1.2⟩, h.2⟩
  | some f =>
    simp only [xcB, Bool.and_eq_true, decide_eq_true_eq, Bool.not_eq_true'] at h
    obtain ⟨⟨⟨⟨⟨⟨⟨⟨⟨⟨h1, h2⟩, h3⟩, h4⟩, h5⟩, h6⟩, h7⟩, h8⟩, h9⟩, h10⟩, h11⟩ := h
    unfold iniB at h1
    split at h1
    · rename_i fI ei
      simp only [Bool.and_eq_true, decide_eq_true_eq] at h1
      obtain ⟨h1, h12⟩ := h1
      unfold fdB at h1
      split at h1
      · rename_i oc od fd osl lk
        simp only [Bool.and_eq_true, decide_eq_true_eq, Bool.not_eq_true'] at h1
        obtain ⟨⟨⟨⟨⟨⟨⟨⟨⟨⟨⟨⟨⟨⟨a1, a2⟩, a3⟩, a4⟩, a5⟩, a6⟩, a7⟩, a8⟩, a9⟩, a10⟩, a11⟩, a12⟩, a13⟩, a14⟩, a15⟩ := h1
        split at a1
        · rename_i body hb
          obtain ⟨b1, b2⟩ := shapeB_ok a1
          have dn : fd.defaults = .none := by
            unfold nonB at a3
            split at a3
            · assumption
            · cases a3
          split at a15
          · rename_i cc cda ecl eco
            simp only [Bool.and_eq_true] at a15
            obtain ⟨c1, c2⟩ := a15
            split at c1
            · rename_i cl cld C' csl lcc
              obtain rfl : C' = C := of_decide_eq_true c1
              split at c2
              · rename_i ccl cdd vs ccs lcd
                split at c2
                · rename_i file tf ev
                  obtain ⟨ar, e1, e2⟩ : ∃ ar, (fd.params.posonlyargs ++ fd.params.args).head? = some ar ∧ ar.arg = "self" := by
                    have s2 := a2
                    simp only [simpleB, Bool.and_eq_true, List.isEmpty_iff, decide_eq_true_eq] at s2
                    obtain ⟨⟨⟨⟨q1, q2⟩, _⟩, _⟩, _⟩ := s2
                    rw [q1, List.nil_append]
                    cases hq : fd.params.args with
                    | nil => rw [hq] at q2; cases q2
                    | cons x r =>
                      rw [hq] at q2
                      simp only [List.map_cons, List.cons.injEq] at q2
                      exact ⟨x, rfl, q2.1⟩
                  have at_ : attC K C' = some f := by
                    unfold attC
                    rw [ei]
                    dsimp only
                    rw [lk]
                    dsimp only
                    rw [hb]
                    exact b2
                  refine ⟨⟨fI, oexB_ok h2, ei, h12, h4, h5, h6, h7, h8, h9, oc, ccl, cl, od, cdd, cld, osl, ccs, csl, fd, body, cda, cc, vs, file, tf, ar, lk, hb, b1, fun s a u => ⟨binds2 hb a2 dn h11 s a u, binds3 hb a2 dn h11 s a u⟩, fnK_of a4, a5, a6, lkB_ok a7, lkB_ok a8, lkB_ok a9, lkB_ok a10, fun x hx e => ?_, a12, a13, ecl, eco, a14, lcd, ev, c2, lcc, e1, e2, h10, h11⟩, xfB_ok h3, at_⟩
                  have := List.all_eq_true.mp a11 x hx
                  rw [e] at this
                  cases this
                · cases c2
              · cases c2
            · cases c1
          · cases a15
        · cases a1
      · cases h1
    · cases h1
end Mp

/-! All defs keep their promises. -/
namespace Mp
open PySem PySem.Spec PyProof.Rows L2

/-- a def: its name, parameters, names; its mini text -/
structure Df where
  nm : Str
  ps : List Str
  N : List Str
  mf : MF
def scopeB (N ps : List Str) (sc : Scope) : Bool := fnK sc && !sc.isCoroutine && !sc.isGenerator && decide N.Nodup && decide (N.take ps.length = ps) && ps.all (fun x => match sc.names.lookup x with
    | some .local => true
    | some .cell => true
    | _ => false) && sc.names.all (fun y => match y.2 with
    | .free => false
    | _ => true)
theorem scope_of {N ps : List Str} {sc : Scope} (h : scopeB N ps sc = true) : FnScope N ps sc := by
  simp only [scopeB, Bool.and_eq_true, Bool.not_eq_true', decide_eq_true_eq, List.all_eq_true] at h
  obtain ⟨⟨⟨⟨⟨⟨h1, h2⟩, h3⟩, h4⟩, h5⟩, h6⟩, h7⟩ := h
  refine ⟨fnK_of h1, h2, h3, h4, h5, fun x hx => ?_, fun y hy e => ?_⟩
  · have := h6 x hx
    split at this
    · left; assumption
    · right; assumption
    · cases this
  · have := h7 y hy
    rw [e] at this
    cases this
/-- the module's own exception classes (what an instance keeps), which catches which, its tuples, its texts -/
structure Tb where
  xs : List (Str × Option Str) := []
  em : List (Str × Str × Bool) := []
  kt : List (Str × List D) := []
  ss : List (Str × Str) := []
  is : List (Str × Ct × Bool) := []
  hn : List Str := []
def gxOf (Ds : List Df) (bi : List Str) (cs : List (Str × Int)) (T : Tb) (d : Df) : Gx := ⟨d.N, Ds.map fun d => (d.nm, d.ps), bi, (cs.map fun p => (p.1, .int p.2)) ++ T.ss.map fun p => (p.1, .str p.2), T.xs, T.em, T.kt, T.is, Ds.map (fun d => decide (d.nm ∈ T.hn)), false⟩
def chkD (Ds : List Df) (bi : List Str) (cs : List (Str × Int)) (T : Tb) (d : Df) (e : He.DefD) : Bool := decide (e.at_ = (d.nm, none)) && e.dfl.isEmpty && e.kwd.isEmpty && simpleB e.params d.ps && scopeB d.N d.ps e.scope && d.mf.slots == d.N.length && d.mf.ps == d.ps.length && cSs (gxOf Ds bi cs T d) d.mf.body (e.scope, fun _ => true) e.body && (!decide (d.nm ∈ T.hn) || cSs (hotG (gxOf Ds bi cs T d)) d.mf.body (e.scope, fun _ => true) e.body)
def chkDs (Ds : List Df) (bi : List Str) (cs : List (Str × Int)) (T : Tb) : List Df → List He.DefD → Bool
  | [], [] => true
  | d :: ds, e :: es => chkD Ds bi cs T d e && chkDs Ds bi cs T ds es
  | _, _ => false
theorem chkDs_get {Ds : List Df} {bi : List Str} {cs : List (Str × Int)} {T : Tb} : ∀ {ds : List Df} {es : List He.DefD}, chkDs Ds bi cs T ds es = true → ∀ {i : Nat} {d : Df}, ds[i]? = some d → ∃ e, es[i]? = some e ∧ chkD Ds bi cs T d e = true
  | [], [], _, i, d, h => by simp at h
  | [], _ :: _, h, _, _, _ => by cases h
  | _ :: _, [], h, _, _, _ => by cases h
  | d :: ds, e :: es, h, 0, x, hx => by
    simp only [chkDs, Bool.and_eq_true] at h
    simp at hx; subst hx
    exact ⟨e, rfl, h.1⟩
  | d :: ds, e :: es, h, i + 1, x, hx => by
    simp only [chkDs, Bool.and_eq_true] at h
    obtain ⟨z, h1, h2⟩ := chkDs_get h.2 (i := i) (by simpa using hx)
    exact ⟨z, by simpa using h1, h2⟩
/-- what stands behind the top -/
structure Wd (P : Program) (K : PySem.W.Frag) (mg : Str → Option Value) (Ds : List Df) (fn : List He.DefD) (bi : List Str) (cs : List (Str × Int)) (T : Tb) : Prop where
  chk : chkDs Ds bi cs T Ds fn = true
  fn : ∀ (i : Nat) e, fn[i]? = some e → ∃ fd, FunD K e.name e.qual e.params e.body e.scope (e.dvs K) (e.kws K) (He.fAd K e.at_) fd
  gl : ∀ (i : Nat) d, Ds[i]? = some d → mg d.nm = some (.ref (He.fAd K (d.nm, none)))
  bi : ∀ x ∈ bi, mg x = none
  cs : ∀ x i, cs.lookup x = some i → ∃ t, mg x = some (.int i t)
  ss : ∀ x z, T.ss.lookup x = some z → ∃ t, mg x = some (.str z t)
  xs : ∀ x g, T.xs.lookup x = some g → ∃ A, mg x = some (.ref A) ∧ XcP P K A g
  em : ∀ x y b, (x, y, b) ∈ T.em → ∃ A B, mg x = some (.ref A) ∧ mg y = some (.ref B) ∧ PySem.W.exmOne K (.ref A) (.ref B) = some b
  kt : ∀ x ds, T.kt.lookup x = some ds → ∃ a, mg x = some (.ref a) ∧ KTup K a ds
  sup : mg "super" = none
  sy : SysOk K
  is : ∀ x t b, (x, t, b) ∈ T.is → ∃ A v cv, mg x = some (.ref A) ∧ CtV mg t v cv ∧ ExcC K A ∧ PySem.W.kitOne K (.ref A) cv = some b
section
variable {P : Program} {w : World} {K : PySem.W.Frag} {mg : Str → Option Value} {base : Heap} {Ds : List Df} {fn : List He.DefD} {bi : List Str} {cs : List (Str × Int)} {T : Tb}
def mgK (K : PySem.W.Frag) (mg : Str → Option Value) : Mg := ⟨mg, fun a xs => SqL K (fun _ => none) a xs, attK K mg⟩
theorem cs_lookup {x : Str} {d : D} : ∀ {cs : List (Str × Int)} {ss : List (Str × Str)}, ((cs.map fun p => (p.1, D.int p.2)) ++ ss.map fun p => (p.1, D.str p.2)).lookup x = some d → (∃ i, cs.lookup x = some i ∧ d = .int i) ∨ ∃ z, ss.lookup x = some z ∧ d = .str z
  | [], [], h => by simp at h
  | [], (k, z) :: r, h => by
    simp only [List.map_nil, List.nil_append, List.map_cons] at h
    rw [List.lookup_cons] at h ⊢
    split at h
    · exact .inr ⟨z, rfl, by cases h; rfl⟩
    · rename_i e
      have := cs_lookup (cs := []) (ss := r) (by simpa using h)
      exact this
  | (k, i) :: r, ss, h => by
    rw [List.map_cons, List.cons_append, List.lookup_cons] at h
    rw [List.lookup_cons]
    split at h
    · rename_i e; rw [e]; exact .inl ⟨i, rfl, by cases h; rfl⟩
    · rename_i e; rw [e]; exact cs_lookup h
/-- a def called within an except suite: no raise gets out -/
theorem all_fngh (W : Wd P K mg Ds fn bi cs T) : ∀ (k f : Nat) (d : Df) (e : He.DefD) (fd : FuncData), Ds[f]? = some d → fn[f]? = some e → chkD Ds bi cs T d e = true → d.nm ∈ T.hn → FunD K e.name e.qual e.params e.body e.scope (e.dvs K) (e.kws K) (He.fAd K e.at_) fd →
    FnGH P w K mg base k (He.fAd K (d.nm, none)) fd d.ps (spF (mgK K mg) d.ps.length (callF (Ds.map (·.mf)) k f))
  | 0, f, d, e, fd, _, _, _, _, _ => ⟨fun vs H Q E h => h.1, fun A a outer s H args us vs Q _ _ _ _ _ _ h => by
      obtain ⟨_, R, c, ds, M, _, _, h⟩ := h
      rw [callF] at h
      exact h.elim⟩
  | k + 1, f, d, e, fd, hd, he, hc, hn, F => by
    simp only [chkD, Bool.and_eq_true, decide_eq_true_eq, List.isEmpty_iff, beq_iff_eq, Bool.or_eq_true, Bool.not_eq_true', decide_eq_false_iff_not] at hc
    obtain ⟨⟨⟨⟨⟨⟨⟨⟨h1, h2⟩, h3⟩, h4⟩, h5⟩, h6⟩, h7⟩, h8⟩, h9⟩ := hc
    have h9 := h9.resolve_left (fun z => z hn)
    obtain ⟨oc, od, dV, kV, doc, pm, an, cdv, ct, osl, rfl, lk, hcd, hD, hK⟩ := F.ex
    have S := scope_of h5
    rw [h1] at lk
    refine fngh_of (CX := L2.CX P w) lk hcd S (fun vs H Q E h => h.1) fun A a outer s H vs Q han room gd sp => ?_
    obtain ⟨hl, R, c, ds, M, m, rv, sp⟩ := sp
    have ok : Okx (hotG (gxOf Ds bi cs T d)) ⟨callF (Ds.map (·.mf)) k, k⟩ ⟨mgK K mg, fun cls dd _ H' => noE cls dd H'⟩ (hotX (cxOf (L2.CX P w) P w K mg base d.N e.qual e.scope (He.fAd K (d.nm, none)) cdv (coldA A) outer s H noE) a) (e.scope, fun _ => true) :=
      { N := rfl, sc := rfl, fn := fun _ _ => rfl, mg := rfl, nd := S.nd, calm := fun z => by cases z
        gd := gd, un := (by have h := room.un; have g : (coldA (A.deeper (envOfC e.qual e.scope s.heap.objs.size (He.fAd K (d.nm, none)) cdv))).units + 100 < cLine := by omega
                            exact g), bi := W.bi
        cs := fun x z hz _ => by
          rcases cs_lookup hz with ⟨i, e1, rfl⟩ | ⟨y, e1, rfl⟩
          · obtain ⟨t, e2⟩ := W.cs x i e1
            exact ⟨_, .int i, e2, ⟨t, rfl⟩, fun _ _ _ _ => by simp [Rp]⟩
          · obtain ⟨t, e2⟩ := W.ss x y e1
            exact ⟨_, .str y, e2, ⟨t, rfl⟩, fun _ _ _ _ => by simp [Rp]⟩
        xs := fun x g h => by
          obtain ⟨A, e1, e2⟩ := W.xs x g h
          exact ⟨A, e1, xcP_ok e2 rfl rfl⟩
        em := W.em
        kt := fun x ds h _ => W.kt x ds h
        sup := W.sup
        sy := W.sy
        is := W.is
        han := fun _ => ⟨a, rfl⟩
        qt := fun _ _ _ _ _ z => z
        room := fun z => by cases z
        tk := takes_none5
        fns := fun z => by cases z
        fnh := fun g x ps hg hh => by
          have hg : (Ds.map fun d => (d.nm, d.ps))[g]? = some (x, ps) := hg
          have hh : (Ds.map fun d => decide (d.nm ∈ T.hn)).getD g false = true := hh
          rw [List.getElem?_map] at hg
          cases hq : Ds[g]? with
          | none => rw [hq] at hg; cases hg
          | some d' =>
            rw [hq] at hg
            simp only [Option.map_some, Option.some.injEq, Prod.mk.injEq] at hg
            obtain ⟨rfl, rfl⟩ := hg
            have hn' : d'.nm ∈ T.hn := by
              rw [List.getD_eq_getElem?_getD, List.getElem?_map, hq] at hh
              simpa using hh
            obtain ⟨e', k1, k2⟩ := chkDs_get W.chk hq
            obtain ⟨fd', F'⟩ := W.fn g e' k1
            have G := all_fngh W k g d' e' fd' hq k1 k2 hn' F'
            simp only [chkD, Bool.and_eq_true, decide_eq_true_eq, List.isEmpty_iff, beq_iff_eq] at k2
            obtain ⟨⟨⟨⟨⟨⟨⟨⟨j1, j2⟩, j3⟩, j4⟩, j5⟩, j6⟩, j7⟩, j8⟩, j9⟩ := k2
            have S' := scope_of j5
            have kp := F'.kp
            rw [j1] at kp
            refine ⟨He.fAd K (d'.nm, none), fd', k, W.gl g d' hq, kp, room, G, fun n ks perm hs => ?_⟩
            obtain ⟨oc', od', dV', kV', doc', pm', an', cdv', ct', osl', rfl, lk', hcd', hD', hK'⟩ := F'.ex
            have dn : dV' = .none := by
              rcases hD' with ⟨_, z⟩ | ⟨z, _⟩
              · exact z
              · exact (z (by simp [He.DefD.dvs, j2])).elim
            subst dn
            exact kwb_of j4 (by rw [← S'.pre]; exact S'.nd.sublist (List.take_sublist _ _)) hs }
    refine ⟨tS ⟨mgK K mg, fun cls dd _ H' => noE cls dd H'⟩ (evSs ⟨callF (Ds.map (·.mf)) k, k⟩ d.mf.body), cSs_ok d.mf.body _ _ _ _ _ h9 ok ⟨fun z => (by cases z), rfl, rfl, rfl⟩, ?_⟩
    have lds : ds.length = d.ps.length := by rw [← rv.len]; exact hl
    rw [callF, List.getElem?_map, hd] at sp
    simp only [Option.map_some] at sp
    rw [if_pos (by rw [lds, h7])] at sp
    refine ⟨R, c, _, M, m, start_rp rv (n := d.mf.slots - d.mf.ps) (by rw [h6, h7, lds]), ?_⟩
    exact fin_ok m (fun _ _ _ _ z => z) sp
/-- every def, at every level of calls -/
theorem all_fng (W : Wd P K mg Ds fn bi cs T) : ∀ (k f : Nat) (d : Df) (e : He.DefD) (fd : FuncData), Ds[f]? = some d → fn[f]? = some e → chkD Ds bi cs T d e = true → FunD K e.name e.qual e.params e.body e.scope (e.dvs K) (e.kws K) (He.fAd K e.at_) fd →
    FnG P w K mg base (L2.CX P w) k (He.fAd K (d.nm, none)) fd d.ps (spF (mgK K mg) d.ps.length (callF (Ds.map (·.mf)) k f))
  | 0, f, d, e, fd, _, _, _, _ => ⟨fun vs H Q E h => h.1, fun A outer s H args us vs Q E _ _ _ _ _ h => by
      obtain ⟨_, R, c, ds, M, _, _, h⟩ := h
      rw [callF] at h
      exact h.elim⟩
  | k + 1, f, d, e, fd, hd, he, hc, F => by
    simp only [chkD, Bool.and_eq_true, decide_eq_true_eq, List.isEmpty_iff, beq_iff_eq] at hc
    obtain ⟨⟨⟨⟨⟨⟨⟨⟨h1, h2⟩, h3⟩, h4⟩, h5⟩, h6⟩, h7⟩, h8⟩, h9⟩ := hc
    obtain ⟨oc, od, dV, kV, doc, pm, an, cdv, ct, osl, rfl, lk, hcd, hD, hK⟩ := F.ex
    have S := scope_of h5
    rw [h1] at lk
    refine fng_of lk hcd S (fun vs H Q E h => h.1) fun A outer s H vs Q E room gd sp => ?_
    obtain ⟨hl, R, c, ds, M, m, rv, sp⟩ := sp
    have ok : Okx (gxOf Ds bi cs T d) ⟨callF (Ds.map (·.mf)) k, k⟩ ⟨mgK K mg, fun cls dd _ H' => E cls dd H'⟩ (cxOf (L2.CX P w) P w K mg base d.N e.qual e.scope (He.fAd K (d.nm, none)) cdv A outer s H E) (e.scope, fun _ => true) :=
      { N := rfl, sc := rfl, fn := fun _ _ => rfl, mg := rfl, nd := S.nd, calm := fun _ => rfl, gd := gd, un := by have := room.un; show (A.deeper _).units + 100 < cLine; omega, bi := W.bi
        cs := fun x z hz _ => by
          rcases cs_lookup hz with ⟨i, e1, rfl⟩ | ⟨y, e1, rfl⟩
          · obtain ⟨t, e2⟩ := W.cs x i e1
            exact ⟨_, .int i, e2, ⟨t, rfl⟩, fun _ _ _ _ => by simp [Rp]⟩
          · obtain ⟨t, e2⟩ := W.ss x y e1
            exact ⟨_, .str y, e2, ⟨t, rfl⟩, fun _ _ _ _ => by simp [Rp]⟩
        xs := fun x g h => by
          obtain ⟨A, e1, e2⟩ := W.xs x g h
          exact ⟨A, e1, xcP_ok e2 rfl rfl⟩
        em := W.em
        kt := fun x ds h _ => W.kt x ds h
        sup := W.sup
        sy := W.sy
        room := fun _ => room.mono (Nat.zero_le _)
        tk := takes_of (E := E) rfl rfl rfl rfl
        is := W.is
        han := fun z => by cases z
        qt := fun z => by cases z
        fnh := fun g x ps hg hh => by
          have hg : (Ds.map fun d => (d.nm, d.ps))[g]? = some (x, ps) := hg
          have hh : (Ds.map fun d => decide (d.nm ∈ T.hn)).getD g false = true := hh
          rw [List.getElem?_map] at hg
          cases hq : Ds[g]? with
          | none => rw [hq] at hg; cases hg
          | some d' =>
            rw [hq] at hg
            simp only [Option.map_some, Option.some.injEq, Prod.mk.injEq] at hg
            obtain ⟨rfl, rfl⟩ := hg
            have hn' : d'.nm ∈ T.hn := by
              rw [List.getD_eq_getElem?_getD, List.getElem?_map, hq] at hh
              simpa using hh
            obtain ⟨e', k1, k2⟩ := chkDs_get W.chk hq
            obtain ⟨fd', F'⟩ := W.fn g e' k1
            have G := all_fngh (P := P) (w := w) (base := base) W k g d' e' fd' hq k1 k2 hn' F'
            simp only [chkD, Bool.and_eq_true, decide_eq_true_eq, List.isEmpty_iff, beq_iff_eq] at k2
            obtain ⟨⟨⟨⟨⟨⟨⟨⟨j1, j2⟩, j3⟩, j4⟩, j5⟩, j6⟩, j7⟩, j8⟩, j9⟩ := k2
            have S' := scope_of j5
            have kp := F'.kp
            rw [j1] at kp
            refine ⟨He.fAd K (d'.nm, none), fd', k, W.gl g d' hq, kp, (by obtain ⟨r1, r2, r3⟩ := room; exact ⟨rfl, r2, r3⟩), G, fun n ks perm hs => ?_⟩
            obtain ⟨oc', od', dV', kV', doc', pm', an', cdv', ct', osl', rfl, lk', hcd', hD', hK'⟩ := F'.ex
            have dn : dV' = .none := by
              rcases hD' with ⟨_, z⟩ | ⟨z, _⟩
              · exact z
              · exact (z (by simp [He.DefD.dvs, j2])).elim
            subst dn
            exact kwb_of j4 (by rw [← S'.pre]; exact S'.nd.sublist (List.take_sublist _ _)) hs
        fns := fun _ g x ps hg => by
          have hg : (Ds.map fun d => (d.nm, d.ps))[g]? = some (x, ps) := hg
          rw [List.getElem?_map] at hg
          cases hq : Ds[g]? with
          | none => rw [hq] at hg; cases hg
          | some d' =>
            rw [hq] at hg
            simp only [Option.map_some, Option.some.injEq, Prod.mk.injEq] at hg
            obtain ⟨rfl, rfl⟩ := hg
            obtain ⟨e', k1, k2⟩ := chkDs_get W.chk hq
            obtain ⟨fd', F'⟩ := W.fn g e' k1
            have G := all_fng W k g d' e' fd' hq k1 k2 F'
            simp only [chkD, Bool.and_eq_true, decide_eq_true_eq, List.isEmpty_iff, beq_iff_eq] at k2
            obtain ⟨⟨⟨⟨⟨⟨⟨⟨j1, j2⟩, j3⟩, j4⟩, j5⟩, j6⟩, j7⟩, j8⟩, j9⟩ := k2
            have S' := scope_of j5
            have kp := F'.kp
            rw [j1] at kp
            refine ⟨He.fAd K (d'.nm, none), fd', k, W.gl g d' hq, kp, room, G, fun n ks perm hs => ?_⟩
            obtain ⟨oc', od', dV', kV', doc', pm', an', cdv', ct', osl', rfl, lk', hcd', hD', hK'⟩ := F'.ex
            have dn : dV' = .none := by
              rcases hD' with ⟨_, z⟩ | ⟨z, _⟩
              · exact z
              · exact (z (by simp [He.DefD.dvs, j2])).elim
            subst dn
            exact kwb_of j4 (by rw [← S'.pre]; exact S'.nd.sublist (List.take_sublist _ _)) hs }
    refine ⟨tS ⟨mgK K mg, fun cls dd _ H' => E cls dd H'⟩ (evSs ⟨callF (Ds.map (·.mf)) k, k⟩ d.mf.body), cSs_ok d.mf.body _ _ _ _ _ h8 ok ⟨fun _ => passes_of rfl, rfl, rfl, rfl⟩, ?_⟩
    have lds : ds.length = d.ps.length := by rw [← rv.len]; exact hl
    rw [callF, List.getElem?_map, hd] at sp
    simp only [Option.map_some] at sp
    rw [if_pos (by rw [lds, h7])] at sp
    refine ⟨R, c, _, M, m, start_rp rv (n := d.mf.slots - d.mf.ps) (by rw [h6, h7, lds]), ?_⟩
    exact fin_ok m (fun _ _ _ _ z => z) sp
end
end Mp

/-! A law's end. -/
namespace Mp
open PySem PySem.Spec PyProof.Rows L2

/-- the script alone is tracked, if it is not of the written part -/
def Hs (K : PySem.W.Frag) (a : Addr) (o : Obj) (xs : List V) : Hp := fun b => if b = a then (match K.lookup a with
  | some _ => none
  | none => some (.frz o (.lst xs))) else none
section
variable {K : PySem.W.Frag} {a b : Addr} {o : Obj} {xs : List V}
theorem Hs_ne (h : b ≠ a) : Hs K a o xs b = none := if_neg h
theorem Hs_in {u : Obj} (h : K.lookup a = some u) : Hs K a o xs b = none := by
  unfold Hs
  split
  · rw [h]
  · rfl
theorem Hs_at (h : K.lookup a = none) : Hs K a o xs a = some (.frz o (.lst xs)) := by
  unfold Hs
  rw [if_pos rfl, h]
theorem Hs_cases (b : Addr) : Hs K a o xs b = none ∨ (b = a ∧ K.lookup a = none ∧ Hs K a o xs b = some (.frz o (.lst xs))) := by
  by_cases e : b = a
  · subst e
    cases h : K.lookup b with
    | some u => exact .inl (Hs_in h)
    | none => exact .inr ⟨rfl, rfl, Hs_at h⟩
  · exact .inl (Hs_ne e)
end
theorem law_g {P : Program} {w : World} {K : PySem.W.Frag} {mg mb : Str → Option Value} {k : Nat} {fa a : Addr} {fd : FuncData} {x : Str} {sp : Sp} {s1 : Shared} {vs : List Value} {ns : List Int}
    (KX : K.In s1.heap) (gn : s1.heap.Ns mainGlobals mg) (gb : s1.heap.Ns builtinsNs mb) (gbb : ∀ x : Str, x ≠ "__name__" → mb x = bootBuiltins x) (lim : s1.heap.NoLimit) (gg : s1.gens = #[])
    (ha : s1.heap.get? a = some { cls := .type "list", data := .seq vs.toArray }) (hi : IntsAre vs ns) (hl : ns.length ≤ sizeLine) (room : Room k callerA)
    (F : ∀ base : Heap, K.In base → base.Ns mainGlobals mg → FnG P w K mg base (L2.CX P w) k fa fd [x] sp) (bind : ∀ (s : Shared) (u : Value), BindsTo s fd ⟨[u], []⟩ [(x, u)])
    (hsp : ∀ H : Hp, (∀ b, H b = none ∨ ∃ o xs, H b = some (.frz o (.lst xs))) → SqL K H a (ns.map V.int) → sp [.ref a] H (fun v _ => v = .bl true) fun _ _ _ => False) :
    codeAny (model P w) callerA (.call (.ref fa) ⟨[.ref a], []⟩) (fun r s' => r = .ok (.ret (.bool true)) ∧ OldK s1.heap s'.heap ∧ s'.os = s1.os ∧ AllBare s'.gens) s1 := by
  obtain ⟨oa, eoa⟩ : ∃ oa : Obj, oa = { cls := .type "list", data := .seq vs.toArray } := ⟨_, rfl⟩
  obtain ⟨H, eH⟩ : ∃ H, H = Hs K a oa (ns.map V.int) := ⟨_, rfl⟩
  rw [← eoa] at ha
  have rv := vals_ints hi
  have cas : ∀ b, H b = none ∨ (b = a ∧ K.lookup a = none ∧ H b = some (.frz oa (.lst (ns.map V.int)))) := fun b => by rw [eH]; exact Hs_cases b
  have stay : ∀ {b : Addr} {o : Obj}, s1.heap.get? b = some o → H b = none → (hidT s1.heap H).get? b = some o := fun e n => hidT_get e n
  have isDict : ∀ {b : Addr} {o : Obj} {es : Array DictEntry} {ep : Nat}, s1.heap.get? b = some o → o.data = .dict es ep → H b = none := fun {b o es ep} e d => by
    rcases cas b with z | ⟨rfl, _, _⟩
    · exact z
    · rw [ha] at e; cases e
      rw [eoa] at d; cases d
  have ns' : ∀ {b : Addr} {m : Str → Option Value}, s1.heap.Ns b m → (hidT s1.heap H).Ns b m := fun {b m} ⟨o, es, ep, e, d, r⟩ => ⟨o, es, ep, stay e (isDict e d), d, r⟩
  have inK : K.In (hidT s1.heap H) := fun b o e => stay (KX b o e) (by
    rcases cas b with z | ⟨rfl, z, _⟩
    · exact z
    · rw [z] at e; cases e)
  have hok : HOk P w H s1.heap := fun b u z => by
    rcases cas b with q | ⟨rfl, _, q⟩
    · rw [q] at z; cases z
    · rw [q] at z; cases z
      exact ⟨ha, by rw [List.length_map]; exact hl, vs, _, rv, by rw [ha, eoa]⟩
  have only : ∀ b, H b = none ∨ ∃ o xs, H b = some (.frz o (.lst xs)) := fun b => (cas b).elim .inl fun z => .inr ⟨_, _, z.2.2⟩
  have seq : SqL K H a (ns.map V.int) := by
    cases hk : K.lookup a with
    | none => rw [eH]; exact .inl (.inr ⟨oa, Hs_at hk⟩)
    | some o =>
      have e := KX a o hk
      rw [ha] at e; cases e
      rw [eoa] at hk
      exact .inr ⟨_, vs.toArray, _, hk, rfl, rfl, rfl, by rw [List.size_toArray, hi.length]; exact hl, by simpa using rv⟩
  have env0 : Env0 P w K mg (hidT s1.heap H) callerA [] s1 H :=
    ⟨rfl, ⟨inK, ns' gn, ⟨mb, ns' gb, gbb⟩, let ⟨mc, h1, h2⟩ := lim; ⟨mc, ns' h1, h2⟩⟩, fun b o e => of_hidT e, Nat.le_of_eq (hidT_size _ _), trivial, fun b hb => absurd (show b ∈ ([] : List Addr) from hb) (by simp), hok, .of_eq gg⟩
  refine codeAny_mono ((F _ inK (ns' gn)).run callerA [] s1 H ⟨[.ref a], []⟩ [.ref a] [.ref a] _ _ room rfl env0 (bind s1 (.ref a)) (.cons rfl .nil) (hsp H only seq)) fun r s' h => ?_
  cases r with
  | error e =>
    obtain ⟨_, _, _, _, _, _, _, _, _, _, _, _, z⟩ := (show L2.CX P w [] H s1 (fun _ _ _ => False) e s' from h)
    exact z.elim
  | ok fl =>
    cases fl with
    | next => exact False.elim h
    | brk => exact False.elim h
    | cont => exact False.elim h
    | ret u =>
      obtain ⟨v, H', os, bare, un, hok', rel, rfl⟩ := h
      obtain rfl : u = Value.bool true := rel
      refine ⟨rfl, OldK.of_keep fun b o e => ?_, os, bare⟩
      rcases cas b with q | ⟨rfl, _, q⟩
      · exact un.keep b o e q (fun z => absurd (show b ∈ ([] : List Addr) from z) (by simp)) (by simp)
      · have z2 := un.frzs b oa _ q
        obtain ⟨e2, _⟩ := hok' b _ z2
        rw [ha] at e; cases e
        exact e2
/-- a law's walk, from the head's facts and the evaluator -/
theorem walk_g {l : PySem.W.OpenLaw} {n k : Nat} {q : Program} {loose : List Str} {XP : (Str → Option Value) → Heap → Prop} {YP : World → Heap → Prop} {d : DefRec} {x : Str}
    (hn : l.most = some n) (hn2 : n ≤ sizeLine) (hdf : d.params.defaults = []) (room : Room k callerA)
    (F : ∀ (w : World) (mg : Str → Option Value) (fa : Addr) (h : Heap), YP w h → h.Ns mainGlobals mg → mg d.name = some (.ref fa) →
      ∃ (K : PySem.W.Frag) (fd : FuncData) (sp : Sp), K.In h ∧ (∀ (s : Shared) (u : Value), BindsTo s fd ⟨[u], []⟩ [(x, u)]) ∧
        (∀ (H : Hp) (a : Addr) (ns : List Int), ns.length ≤ n → (∀ b, H b = none ∨ ∃ o xs, H b = some (.frz o (.lst xs))) → SqL K H a (ns.map V.int) → sp [.ref a] H (fun v _ => v = .bl true) fun _ _ _ => False) ∧
        ∀ base : Heap, K.In base → base.Ns mainGlobals mg → FnG l.prog w K mg base (L2.CX l.prog w) k fa fd [x] sp) :
    PySem.W.WalkO q loose XP YP l.row.toRowW d [] (fun f vs => PySem.call f vs) := by
  refine Att.attach_call hn hdf fun w s₀ s1 mg mb fa o pm cd doc a vs ns G Y ho hd hcd hmg hobj hints hlen hg => ?_
  obtain ⟨K, fd, sp, KX, hb, hsp, hF⟩ := F w mg fa _ Y G.T.g hmg
  exact law_g KX G.T.g G.T.b G.T.builtins G.T.nolimit hg hobj hints (Nat.le_trans hlen hn2) room hF hb fun H hO hS => hsp H a ns hlen hO hS
/-! ### the head's facts, own exceptions among them -/
def dv? : D → Option He.Dv
  | .int i => some (.int i)
  | .str x => some (.str x)
  | .bl b => some (.bl b)
  | .non => some .non
  | _ => none
def dvs? : List D → Option (List He.Dv)
  | [] => some []
  | d :: ds => match dv? d, dvs? ds with
    | some v, some vs => some (v :: vs)
    | _, _ => none
theorem dvs_ok {K : PySem.W.Frag} {mg : Mg} {H : Hp} {U : Addr → Prop} {c : List Addr} : ∀ {ds : List D} {vs : List He.Dv}, dvs? ds = some vs → RpL mg H U c ds (vs.map (He.Dv.v K))
  | [], vs, h => by
    cases h
    exact RpL.nil
  | d :: ds, vs, h => by
    simp only [dvs?] at h
    split at h
    · rename_i v ws e1 e2
      cases h
      refine RpL.cons ?_ (dvs_ok e2)
      cases d <;> simp only [dv?, Option.some.injEq, reduceCtorEq] at e1 <;> (subst e1; simp [Rp, He.Dv.v])
    · cases h
def ktB (K : PySem.W.Frag) (x : Str) (ds : List D) : Bool := match dvs? ds with
  | some vs => He.tupB K x vs
  | none => false
def ctAt (K : PySem.W.Frag) : Ct → Value
  | .own y => .ref (He.ga K y)
  | .ty n => .type n
def isB1 (K : PySem.W.Frag) (p : Str × Ct × Bool) : Bool := (He.Fa.glo p.1).ok K && excB K (He.ga K p.1) && (match p.2.1 with
  | .own y => (He.Fa.glo y).ok K
  | .ty _ => true) && decide (PySem.W.kitOne K (.ref (He.ga K p.1)) (ctAt K p.2.1) = some p.2.2)
def sysB (K : PySem.W.Frag) : Bool := match K.lookup sysModules with
  | some ⟨.type n, _, _, _⟩ => decide (n = "dict")
  | _ => false
theorem sysB_ok {K : PySem.W.Frag} (h : sysB K = true) : SysOk K := by
  unfold sysB at h
  split at h
  · rename_i n _ _ _ e
    have := of_decide_eq_true h
    subst this
    exact ⟨_, e, rfl⟩
  · cases h
def exB (P : Program) (T : Tb) (K : PySem.W.Frag) : Bool :=
  T.xs.all (fun p => (He.Fa.glo p.1).ok K && xcB P K (He.ga K p.1) p.2) && T.em.all (fun p => (He.Fa.glo p.1).ok K && (He.Fa.glo p.2.1).ok K && (He.Fa.exm p.1 p.2.1 p.2.2).ok K) &&
    T.kt.all (fun p => (He.Fa.glo p.1).ok K && ktB K p.1 p.2) && T.ss.all (fun p => (He.Fa.str p.1 p.2).ok K) && (He.Fa.free "super").ok K && T.is.all (isB1 K) && sysB K
abbrev AlM : Type := He.AlD × Bool
def obsM (fa : List He.Fa) (fn : List He.DefD) (P : Program) (T : Tb) (K : PySem.W.Frag) : AlM := (He.obsD fa fn K, exB P T K)
def valM (fn : List He.DefD) : AlM := (He.valD fn, true)
def SaysM (fa : List He.Fa) (fn : List He.DefD) (P : Program) (T : Tb) (K : PySem.W.Frag) : Prop := obsM fa fn P T K = valM fn
/-- the addresses of the head's facts, level by level (no sieve at the wide levels): globals, what they name; of the classes their chains, methods, the methods' codes -/
def rfM (g : Addr → Option Obj) (as : List Addr) : List Addr := as.flatMap fun a => match g a with
  | some o => He.refsD o
  | none => []
def isCM (g : Addr → Option Obj) (a : Addr) : Bool := match g a with
  | some ⟨_, _, .cls _, _⟩ => true
  | _ => false
def lv3 (g : Addr → Option Obj) (c3 : List Addr) : List Addr := c3 ++ rfM g c3
def lv2 (g : Addr → Option Obj) (c2 : List Addr) : List Addr := c2 ++ lv3 g (rfM g c2).eraseDups
def lv1 (g : Addr → Option Obj) (l1 : List Addr) : List Addr := l1 ++ (rfM g l1 ++ lv2 g (rfM g (l1.filter (isCM g))).eraseDups)
def asM (g : Addr → Option Obj) (_ : Nat) : List Addr := PySem.cStatics :: sysModules :: mainGlobals :: lv1 g (rfM g [mainGlobals])
def obsMG (n : Nat) (fa : List He.Fa) (fn : List He.DefD) (P : Program) (T : Tb) (g : Addr → Option Obj) : AlM := obsM fa fn P T (He.frG g (asM g n))
def hookM (n : Nat) (fa : List He.Fa) (fn : List He.DefD) (P : Program) (T : Tb) : PySem.W.Hook where
  α := AlM
  obs := fun s => obsMG n fa fn P T s.heap.get?
  val := fun _ => valM fn
  says := fun _ h => ∃ K : PySem.W.Frag, K.In h ∧ SaysM fa fn P T K
  of := fun _ _ e => ⟨_, He.frG_in, e⟩
  keeps := fun _ _ _ ⟨K, hK, c⟩ k => ⟨K, PySem.W.Frag.In.keeps hK k, c⟩
theorem obsMG_eq {n : Nat} {fa : List He.Fa} {fn : List He.DefD} {P : Program} {T : Tb} {g : Addr → Option Obj} {s : Shared} (h : ∀ a, g a = s.heap.get? a) : obsMG n fa fn P T g = (hookM n fa fn P T).obs s := by
  have e : g = s.heap.get? := funext h
  rw [e] <;> rfl
/-- the same, by the mini text: `law` is its def number f -/
theorem walk_m {l : PySem.W.OpenLaw} {n k f : Nat} {q : Program} {loose : List Str} {XP : (Str → Option Value) → Heap → Prop} {YP : World → Heap → Prop} {d : DefRec} {x : Str} {Ds : List Df} {fn : List He.DefD} {fas : List He.Fa} {bi : List Str} {cs : List (Str × Int)} {T : Tb} {df : Df}
    (hn : l.most = some n) (hn2 : n ≤ sizeLine) (hdf : d.params.defaults = []) (room : Room k callerA)
    (hY : ∀ w h, YP w h → ∃ K : PySem.W.Frag, K.In h ∧ SaysM fas fn l.prog T K)
    (hfa : fas = (Ds.map fun d => He.Fa.glo d.nm) ++ (bi.map He.Fa.free) ++ cs.map fun p => He.Fa.int p.1 p.2)
    (hdx : Ds[f]? = some df) (hnm : df.nm = d.name) (hps : df.ps = [x]) (chk : chkDs Ds bi cs T Ds fn = true)
    (pure : ∀ ns : List Int, ns.length ≤ n → ∃ M, callF (Ds.map (·.mf)) k f [.scr ns] [] = .ok (.bl true) M) :
    PySem.W.WalkO q loose XP YP l.row.toRowW d [] (fun f vs => PySem.call f vs) := by
  refine walk_g (k := k) (x := x) hn hn2 hdf room fun w mg fa h y G hmg => ?_
  obtain ⟨K, KX, S0⟩ := hY w h y
  have S : He.SaysD fas fn K := congrArg (fun z : AlM => z.1) S0
  have ex : exB l.prog T K = true := congrArg (fun z : AlM => z.2) S0
  simp only [exB, Bool.and_eq_true, List.all_eq_true] at ex
  obtain ⟨⟨⟨⟨⟨⟨x1, x2⟩, x3⟩, x4⟩, x5⟩, x6⟩, x7⟩ := ex
  have fact : ∀ z ∈ fas, z.ok K = true := fun z hz => by
    obtain ⟨i, e⟩ := List.mem_iff_getElem?.mp hz
    exact S.fact i e
  have W : Wd l.prog K mg Ds fn bi cs T :=
    { chk := chk, fn := fun i e he => S.def_ i he
      gl := fun i d hd => by
        have := He.glo_ok KX G (fact (.glo d.nm) (by rw [hfa]; simp only [List.mem_append, List.mem_map]; exact .inl (.inl ⟨d, List.mem_of_getElem? hd, rfl⟩)))
        exact this
      bi := fun x hx => He.free_ok KX G (fact (.free x) (by rw [hfa]; simp only [List.mem_append, List.mem_map]; exact .inl (.inr ⟨x, hx, rfl⟩)))
      cs := fun x i hx => He.int_ok KX G (fact (.int x i) (by rw [hfa]; simp only [List.mem_append, List.mem_map]; exact .inr ⟨(x, i), PySem.mem_of_lookup hx, rfl⟩))
      ss := fun x z hx => He.str_ok KX G (x4 (x, z) (PySem.mem_of_lookup hx))
      xs := fun x g hx => by
        have := x1 (x, g) (PySem.mem_of_lookup hx)
        exact ⟨_, He.glo_ok KX G this.1, xcB_ok this.2⟩
      em := fun x y b hx => by
        obtain ⟨⟨h1, h2⟩, h3⟩ := x2 (x, y, b) hx
        exact ⟨_, _, He.glo_ok KX G h1, He.glo_ok KX G h2, He.exm_ok h3⟩
      kt := fun x ds hx => by
        obtain ⟨h1, h2⟩ := x3 (x, ds) (PySem.mem_of_lookup hx)
        unfold ktB at h2
        split at h2
        · rename_i vs e
          exact ⟨_, He.glo_ok KX G h1, _, fun H => He.tupB_ok h2 H, fun _ _ _ _ => dvs_ok e⟩
        · cases h2
      sup := He.free_ok KX G x5
      sy := sysB_ok x7
      is := fun x t b hx => by
        have h := x6 (x, t, b) hx
        simp only [isB1, Bool.and_eq_true, decide_eq_true_eq] at h
        obtain ⟨⟨⟨h1, h2⟩, h3⟩, h4⟩ := h
        cases t with
        | own y => exact ⟨_, .ref _, _, He.glo_ok KX G h1, ⟨_, He.glo_ok KX G h3, rfl, rfl⟩, excB_ok h2, h4⟩
        | ty n => exact ⟨_, .ty n, _, He.glo_ok KX G h1, ⟨rfl, rfl⟩, excB_ok h2, h4⟩ }
  obtain ⟨e, k1, k2⟩ := chkDs_get chk hdx
  obtain ⟨fd, FD⟩ := W.fn f e k1
  have same : fa = He.fAd K (df.nm, none) := by
    have h1 := W.gl f df hdx
    rw [hnm, hmg] at h1
    cases h1
    rw [hnm]
  have kb : ∀ (s : Shared) (u : Value), BindsTo s fd ⟨[u], []⟩ [(x, u)] := fun s u => by
    have k2' := k2
    simp only [chkD, Bool.and_eq_true, decide_eq_true_eq, List.isEmpty_iff, beq_iff_eq] at k2'
    obtain ⟨⟨⟨⟨⟨⟨⟨⟨j1, j2⟩, j3⟩, j4⟩, j5⟩, j6⟩, j7⟩, j8⟩, j9⟩ := k2'
    obtain ⟨oc', od', dV', kV', doc', pm', an', cdv', ct', osl', rfl, lk', hcd', hD', hK'⟩ := FD.ex
    have dn : dV' = .none := by
      rcases hD' with ⟨_, z⟩ | ⟨z, _⟩
      · exact z
      · exact (z (by simp [He.DefD.dvs, j2])).elim
    subst dn
    rw [hps] at j4
    exact binds_of (n := 1) (ks := []) (perm := []) j4 (by simp) (by simp [kwShape]) s [u] [] rfl rfl
  refine ⟨K, fd, spF (mgK K mg) df.ps.length (callF (Ds.map (·.mf)) k f), KX, kb, fun H a ns hl only seq => ?_, fun base KB GB => ?_⟩
  · refine ⟨by rw [hps]; rfl, fun _ => False, [], [.scr ns], [], ?_, ?_, ?_⟩
    · exact ⟨rfl, fun n m a l => absurd (live_lt l) (by simp), fun n a l => absurd (live_lt l) (by simp), fun a h => h.elim, fun n d e => by simp at e, fun n d e => by simp at e⟩
    · refine RpL.cons ?_ RpL.nil
      simp only [Rp]
      refine ⟨a, rfl, ?_⟩
      rcases seq with z | z
      · refine .inl ⟨z, fun q => ?_⟩
        rcases q with q | ⟨n, l, _⟩
        · exact q
        · exact absurd (live_lt l) (by simp)
      · exact .inr (.inr z)
    · obtain ⟨M, e⟩ := pure ns hl
      rw [e]
      intro v H' c' _ r
      simp only [rlD, Rp] at r
      exact r
  · rw [same, ← hps]
    exact all_fng W k f df e fd hdx k1 k2 FD
end Mp

/-! Plain lemmas about the evaluator. -/
namespace Mp
open PySem

theorem call_eq {P : List MF} {k f : Nat} {F : MF} {ds : List D} {M : Cs} (h : P[f]? = some F) (hl : ds.length = F.ps) :
    callF P (k + 1) f ds M = finF F.keep M.length (evSs ⟨callF P k, k⟩ F.body (ds.map some ++ List.replicate (F.slots - F.ps) none) M) := by
  rw [callF, h]
  simp only
  rw [if_pos hl]
theorem fin_rt {d : D} {M : Cs} (h : d.free 0 = true) : finF false M.length (.rt d M) = .ok d M := by
  have : d.free M.length = true := D.free_mono (Nat.zero_le _) d h
  simp [finF, this]
@[simp] theorem rd_int (M : Cs) (i : Int) : rd M (.int i) = some (.int i) := id rfl
@[simp] theorem rd_bl (M : Cs) (i : Bool) : rd M (.bl i) = some (.bl i) := id rfl
@[simp] theorem rd_non (M : Cs) : rd M .non = some .non := id rfl
@[simp] theorem rd_tup (M : Cs) (i : List D) : rd M (.tup i) = some (.tup i) := id rfl
@[simp] theorem rd_lst (M : Cs) (i : List D) : rd M (.lst i) = some (.lst i) := id rfl
@[simp] theorem rd_str (M : Cs) (i : Str) : rd M (.str i) = some (.str i) := id rfl
@[simp] theorem rd_dct (M : Cs) (t : Bool) (i j : List D) : rd M (.dct t i j) = some (.dct t i j) := id rfl
@[simp] theorem rd_scr (M : Cs) (i : List Int) : rd M (.scr i) = some (.scr i) := id rfl
@[simp] theorem SR_ok {α : Type} (σ : En) (a : α) (M : Cs) (g : α → Cs → SR) : SR.of σ (.ok a M) g = g a M := id rfl
theorem lcGo_pure {ws : List Nat} {step : D → Cs → Res (List D)} {f : D → List D} {M : Cs} : ∀ {ds acc : List D}, (∀ d ∈ ds, step d M = .ok (f d) M) → acc.length + (ds.flatMap f).length ≤ sizeLine → lcGo ws step ds acc M = .ok (acc ++ ds.flatMap f) M
  | [], acc, _, _ => by rw [lcGo]; simp
  | d :: ds, acc, h, hl => by
    rw [List.flatMap_cons, List.length_append] at hl
    rw [lcGo, h d List.mem_cons_self]
    simp only
    rw [if_pos (by simp [same]; omega), lcGo_pure (fun x hx => h x (List.mem_cons_of_mem _ hx)) (by rw [List.length_append]; omega)]
    simp

/-! ### what may be compared -/
/-- depth at most n, nothing but ints, bools, texts, None, tuples, lists -/
def lvl : Nat → D → Bool
  | _, .non => true
  | _, .bl _ => true
  | _, .int _ => true
  | _, .str x => PyData.strOk x
  | n + 1, .tup xs => xs.all (lvl n)
  | n + 1, .lst xs => xs.all (lvl n)
  | _, _ => false
theorem lvl_ok : ∀ (n : Nat) (d : D), lvl n d = true → d.py.canLay0 = true ∧ d.py.depth ≤ n + 1
  | _, .non, _ => by simp [D.py, PyData.canLay0, PyData.depth]
  | _, .bl _, _ => by simp [D.py, PyData.canLay0, PyData.depth]
  | _, .int _, _ => by simp [D.py, PyData.canLay0, PyData.depth]
  | n, .str x, h => by
    have : PyData.strOk x = true := by cases n <;> simpa [lvl] using h
    simp [D.py, PyData.canLay0, PyData.depth, this]
  | 0, .tup _, h => by simp [lvl] at h
  | 0, .lst _, h => by simp [lvl] at h
  | n + 1, .tup xs, h => by
    have key : ∀ xs : List D, xs.all (lvl n) = true → PyData.canLayAll0 (pys xs) = true ∧ PyData.depthAll (pys xs) ≤ n + 1 := fun xs => by
      induction xs with
      | nil => intro _; simp [pys, PyData.canLayAll0, PyData.depthAll]
      | cons x xs ih =>
        intro h
        simp only [List.all_cons, Bool.and_eq_true] at h
        obtain ⟨a, b⟩ := lvl_ok n x h.1
        obtain ⟨c, d⟩ := ih h.2
        simp only [pys, PyData.canLayAll0, PyData.depthAll, a, c, Bool.and_true, true_and]
        omega
    obtain ⟨a, b⟩ := key xs (by simpa [lvl] using h)
    simp only [D.py, PyData.canLay0, PyData.depth]
    exact ⟨a, by omega⟩
  | n + 1, .lst xs, h => by
    have key : ∀ xs : List D, xs.all (lvl n) = true → PyData.canLayAll0 (pys xs) = true ∧ PyData.depthAll (pys xs) ≤ n + 1 := fun xs => by
      induction xs with
      | nil => intro _; simp [pys, PyData.canLayAll0, PyData.depthAll]
      | cons x xs ih =>
        intro h
        simp only [List.all_cons, Bool.and_eq_true] at h
        obtain ⟨a, b⟩ := lvl_ok n x h.1
        obtain ⟨c, d⟩ := ih h.2
        simp only [pys, PyData.canLayAll0, PyData.depthAll, a, c, Bool.and_true, true_and]
        omega
    obtain ⟨a, b⟩ := key xs (by simpa [lvl] using h)
    simp only [D.py, PyData.canLay0, PyData.depth]
    exact ⟨a, by omega⟩
  | 0, .dct _ _ _, h => by simp [lvl] at h
  | 0, .cell _, h => by simp [lvl] at h
  | 0, .fn _, h => by simp [lvl] at h
  | 0, .exc _ _, h => by simp [lvl] at h
  | 0, .scr _, h => by simp [lvl] at h
  | _ + 1, .dct _ _ _, h => by simp [lvl] at h
  | _ + 1, .cell _, h => by simp [lvl] at h
  | _ + 1, .fn _, h => by simp [lvl] at h
  | _ + 1, .exc _ _, h => by simp [lvl] at h
  | _ + 1, .scr _, h => by simp [lvl] at h
theorem sh_lvl {n : Nat} {d : D} (h : lvl n d = true) (hn : n ≤ 60) : sh d = true := by
  obtain ⟨a, b⟩ := lvl_ok n d h
  simp only [sh, SeqAt.shaped, a, Bool.true_and, decide_eq_true_eq]
  omega
@[simp] theorem sh_int (i : Int) : sh (.int i) = true := sh_lvl (n := 0) rfl (by omega)
@[simp] theorem sh_bl (i : Bool) : sh (.bl i) = true := sh_lvl (n := 0) rfl (by omega)
theorem sh_str {x : Str} (h : PyData.strOk x = true) : sh (.str x) = true := sh_lvl (n := 0) (by simpa [lvl] using h) (by omega)
@[simp] theorem sh_non : sh .non = true := sh_lvl (n := 0) rfl (by omega)
/-- no bools -/
def clean : Nat → D → Bool
  | _, .non => true
  | _, .int _ => true
  | _, .str x => PyData.strOk x
  | n + 1, .tup xs => xs.all (clean n)
  | n + 1, .lst xs => xs.all (clean n)
  | _, _ => false
theorem eqD_self : ∀ (n : Nat) (a : D), lvl n a = true → eqD a a = true := by
  intro n
  induction n with
  | zero =>
    intro a h
    cases a <;> simp [lvl] at h <;> simp [eqD, D.py, PyData.eqv]
  | succ n ih =>
    have key : ∀ xs : List D, xs.all (lvl n) = true → PyData.eqvAll (pys xs) (pys xs) = true := fun xs => by
      induction xs with
      | nil => intro _; simp [pys, PyData.eqvAll]
      | cons x xs ih2 =>
        intro h
        simp only [List.all_cons, Bool.and_eq_true] at h
        have h1 : PyData.eqv x.py x.py = true := ih x h.1
        simp [pys, PyData.eqvAll, ih2 h.2, h1]
    intro a h
    cases a <;> simp only [lvl, Bool.false_eq_true] at h <;> simp [eqD, D.py, PyData.eqv] <;> exact key _ h
theorem eqD_clean : ∀ (n : Nat) (a b : D), clean n a = true → clean n b = true → eqD a b = true → a = b := by
  intro n
  induction n with
  | zero =>
    intro a b ha hb e
    cases a <;> simp [clean] at ha <;> cases b <;> simp [clean] at hb <;> simp [eqD, D.py, PyData.eqv] at e ⊢ <;> exact e
  | succ n ih =>
    have key : ∀ xs ys : List D, xs.all (clean n) = true → ys.all (clean n) = true → PyData.eqvAll (pys xs) (pys ys) = true → xs = ys := fun xs => by
      induction xs with
      | nil =>
        intro ys _ _ e
        cases ys with
        | nil => rfl
        | cons => simp [pys, PyData.eqvAll] at e
      | cons x xs ih2 =>
        intro ys h1 h2 e
        cases ys with
        | nil => simp [pys, PyData.eqvAll] at e
        | cons y ys =>
          simp only [List.all_cons, Bool.and_eq_true] at h1 h2
          simp only [pys, PyData.eqvAll, Bool.and_eq_true] at e
          rw [ih x y h1.1 h2.1 e.1, ih2 ys h1.2 h2.2 e.2]
    intro a b ha hb e
    cases a <;> simp only [clean, Bool.false_eq_true] at ha <;> cases b <;> simp only [clean, Bool.false_eq_true] at hb <;> simp [eqD, D.py, PyData.eqv] at e ⊢ <;> first | exact e | exact key _ _ ha hb e
theorem clean_lvl : ∀ (n : Nat) (a : D), clean n a = true → lvl n a = true := by
  intro n
  induction n with
  | zero => intro a h; cases a <;> simp [clean] at h <;> simp [lvl, h]
  | succ n ih =>
    intro a h
    cases a <;> simp only [clean, Bool.false_eq_true] at h <;> simp only [lvl]
    all_goals first
      | exact h
      | (rw [List.all_eq_true] at h ⊢; exact fun x hx => ih x (h x hx))
theorem eqD_dec {n : Nat} {a b : D} (ha : clean n a = true) (hb : clean n b = true) : eqD a b = decide (a = b) := by
  by_cases e : a = b
  · subst e; rw [eqD_self n a (clean_lvl n a ha)]; simp
  · cases h : eqD a b with
    | false => simp [e]
    | true => exact (e (eqD_clean n a b ha hb h)).elim
@[simp] theorem eqD_int (i j : Int) : eqD (.int i) (.int j) = decide (i = j) := by
  rw [eqD_dec (n := 0) rfl rfl]; simp

/-! ### loops -/
theorem forGo_ind {ws : List Nat} {step : D → En → Cs → SR} {I : List D → En → Cs → Prop} (h : ∀ d ds σ M, I (d :: ds) σ M → ∃ σ' M', (step d σ M = .nx σ' M' ∨ step d σ M = .ct σ' M') ∧ same ws M M' = true ∧ I ds σ' M') :
    ∀ (ds : List D) (σ : En) (M : Cs), I ds σ M → ∃ σ' M', forGo ws step ds σ M = .nx σ' M' ∧ I [] σ' M'
  | [], σ, M, i => ⟨σ, M, rfl, i⟩
  | d :: ds, σ, M, i => by
    obtain ⟨σ1, M1, e, s, i1⟩ := h d ds σ M i
    obtain ⟨σ2, M2, e2, i2⟩ := forGo_ind h ds σ1 M1 i1
    refine ⟨σ2, M2, ?_, i2⟩
    rw [forGo]
    rcases e with e | e <;> rw [e] <;> simp only <;> rw [if_pos s, e2]
theorem same_self (ws : List Nat) (M : Cs) : same ws M M = true := by simp [same]
theorem mulI (i j : Int) (h : (-big < i ∧ i < big) ∨ (-big < j ∧ j < big)) : binD .Mult (.int i) (.int j) = some (.int (i * j)) := by
  have : (((-big < i && decide (i < big)) || (-big < j && decide (j < big)))) = true := by
    simpa using h
  simp only [binD]
  rw [if_pos this]
@[simp] theorem addI (i j : Int) : binD .Add (.int i) (.int j) = some (.int (i + j)) := id rfl
@[simp] theorem subI (i j : Int) : binD .Sub (.int i) (.int j) = some (.int (i - j)) := id rfl
theorem modI (i j : Int) (h : 0 < j) : binD .Mod (.int i) (.int j) = some (.int (i % j)) := by simp [binD, h]
theorem fdivI (i j : Int) (h : 0 < j) (h2 : j < 1073741824) : binD .FloorDiv (.int i) (.int j) = some (.int (i / j)) := by simp [binD, h, h2]
end Mp

/-! The evaluator's equations, for simp. -/
namespace Mp
open PySem
@[simp] theorem evE_var (C : Cl) i σ M : evE C (ME.var i) σ M = ((match σ[i]? with
    | some (some d) => .ok d M
    | _ => .bad) : Res D) := by
  rw [evE] <;> first | rfl | (cases evS C s σ M <;> rfl)
@[simp] theorem evE_con (C : Cl) d u0 M : evE C (ME.con d) u0 M = (.ok d M : Res D) := by
  rw [evE] <;> first | rfl | (cases evS C s σ M <;> rfl)
@[simp] theorem evE_gl (C : Cl) w0 d u0 M : evE C (ME.gl w0 d) u0 M = (.ok d M : Res D) := by
  rw [evE] <;> first | rfl | (cases evS C s σ M <;> rfl)
@[simp] theorem evE_fn (C : Cl) x u0 M : evE C (ME.fn x) u0 M = (.ok (.fn x) M : Res D) := by
  rw [evE] <;> first | rfl | (cases evS C s σ M <;> rfl)
def kt_evE_bin_1 (C : Cl) (o : Operator) (b : ME) (σ : En) (x : D) (M1 : Cs) := ((evE C b σ M1).bind fun y M2 => opt ((rd M2 x).bind fun x' => (rd M2 y).bind fun y' => binD o x' y') M2 : Res D)
def kt_evE_bin_2 (C : Cl) (o : Operator) (x : D) (y : D) (M2 : Cs) := (opt ((rd M2 x).bind fun x' => (rd M2 y).bind fun y' => binD o x' y') M2 : Res D)
@[simp] theorem kt_evE_bin_2_eq (C : Cl) (o : Operator) (x : D) (y : D) (M2 : Cs) : kt_evE_bin_2 C o x y M2 = (opt ((rd M2 x).bind fun x' => (rd M2 y).bind fun y' => binD o x' y') M2 : Res D) := by first | (rw [kt_evE_bin_2]; done) | rfl
@[simp] theorem kt_evE_bin_1_eq (C : Cl) (o : Operator) (b : ME) (σ : En) (x : D) (M1 : Cs) : kt_evE_bin_1 C o b σ x M1 = ((evE C b σ M1).bind (kt_evE_bin_2 C o x) : Res D) := by first | (rw [kt_evE_bin_1]; done) | rfl
@[simp] theorem evE_bin (C : Cl) o a b σ M : evE C (ME.bin o a b) σ M = ((evE C a σ M).bind (kt_evE_bin_1 C o b σ) : Res D) := by
  rw [evE] <;> first | rfl | (cases evS C s σ M <;> rfl)
def kt_evE_neg_1 (C : Cl) (x : D) (M1 : Cs) := ((match x with
    | .int i => .ok (.int (-i)) M1
    | _ => .bad) : Res D)
@[simp] theorem kt_evE_neg_1_eq (C : Cl) (x : D) (M1 : Cs) : kt_evE_neg_1 C x M1 = ((match x with
    | .int i => .ok (.int (-i)) M1
    | _ => .bad) : Res D) := by first | (rw [kt_evE_neg_1]; done) | rfl
@[simp] theorem evE_neg (C : Cl) a σ M : evE C (ME.neg a) σ M = ((evE C a σ M).bind (kt_evE_neg_1 C) : Res D) := by
  rw [evE] <;> first | rfl | (cases evS C s σ M <;> rfl)
def kt_evE_not_1 (C : Cl) (b : Bool) (M1 : Cs) := (.ok (.bl (!b)) M1 : Res D)
@[simp] theorem kt_evE_not_1_eq (C : Cl) (b : Bool) (M1 : Cs) : kt_evE_not_1 C b M1 = (.ok (.bl (!b)) M1 : Res D) := by first | (rw [kt_evE_not_1]; done) | rfl
@[simp] theorem evE_not (C : Cl) a σ M : evE C (ME.not a) σ M = ((evB C a σ M).bind (kt_evE_not_1 C) : Res D) := by
  rw [evE] <;> first | rfl | (cases evS C s σ M <;> rfl)
def kt_evE_and_1 (C : Cl) (b : ME) (σ : En) (x : D) (M1 : Cs) := ((match (rd M1 x).bind truthD with
    | some true => evE C b σ M1
    | some false => .ok x M1
    | none => .bad) : Res D)
@[simp] theorem kt_evE_and_1_eq (C : Cl) (b : ME) (σ : En) (x : D) (M1 : Cs) : kt_evE_and_1 C b σ x M1 = ((match (rd M1 x).bind truthD with
    | some true => evE C b σ M1
    | some false => .ok x M1
    | none => .bad) : Res D) := by first | (rw [kt_evE_and_1]; done) | rfl
@[simp] theorem evE_and (C : Cl) a b σ M : evE C (ME.and a b) σ M = ((evE C a σ M).bind (kt_evE_and_1 C b σ) : Res D) := by
  rw [evE] <;> first | rfl | (cases evS C s σ M <;> rfl)
def kt_evE_or_1 (C : Cl) (b : ME) (σ : En) (x : D) (M1 : Cs) := ((match (rd M1 x).bind truthD with
    | some true => .ok x M1
    | some false => evE C b σ M1
    | none => .bad) : Res D)
@[simp] theorem kt_evE_or_1_eq (C : Cl) (b : ME) (σ : En) (x : D) (M1 : Cs) : kt_evE_or_1 C b σ x M1 = ((match (rd M1 x).bind truthD with
    | some true => .ok x M1
    | some false => evE C b σ M1
    | none => .bad) : Res D) := by first | (rw [kt_evE_or_1]; done) | rfl
@[simp] theorem evE_or (C : Cl) a b σ M : evE C (ME.or a b) σ M = ((evE C a σ M).bind (kt_evE_or_1 C b σ) : Res D) := by
  rw [evE] <;> first | rfl | (cases evS C s σ M <;> rfl)
def kt_evE_cmp_1 (C : Cl) (o : CmpOp) (b : ME) (σ : En) (x : D) (M1 : Cs) := ((evE C b σ M1).bind fun y M2 => opt ((rd M2 x).bind fun x' => (rd M2 y).bind fun y' => (cmpD o x' y').map .bl) M2 : Res D)
def kt_evE_cmp_2 (C : Cl) (o : CmpOp) (x : D) (y : D) (M2 : Cs) := (opt ((rd M2 x).bind fun x' => (rd M2 y).bind fun y' => (cmpD o x' y').map .bl) M2 : Res D)
@[simp] theorem kt_evE_cmp_2_eq (C : Cl) (o : CmpOp) (x : D) (y : D) (M2 : Cs) : kt_evE_cmp_2 C o x y M2 = (opt ((rd M2 x).bind fun x' => (rd M2 y).bind fun y' => (cmpD o x' y').map .bl) M2 : Res D) := by first | (rw [kt_evE_cmp_2]; done) | rfl
@[simp] theorem kt_evE_cmp_1_eq (C : Cl) (o : CmpOp) (b : ME) (σ : En) (x : D) (M1 : Cs) : kt_evE_cmp_1 C o b σ x M1 = ((evE C b σ M1).bind (kt_evE_cmp_2 C o x) : Res D) := by first | (rw [kt_evE_cmp_1]; done) | rfl
@[simp] theorem evE_cmp (C : Cl) o a b σ M : evE C (ME.cmp o a b) σ M = ((evE C a σ M).bind (kt_evE_cmp_1 C o b σ) : Res D) := by
  rw [evE] <;> first | rfl | (cases evS C s σ M <;> rfl)
def kt_evE_chain_1 (C : Cl) (o : CmpOp) (p : CmpOp) (b : ME) (c : ME) (σ : En) (x : D) (M1 : Cs) := ((evE C b σ M1).bind fun y M2 =>
    (match (rd M2 x).bind fun x' => (rd M2 y).bind fun y' => cmpD o x' y' with
    | some true => (evE C c σ M2).bind fun z M3 => opt ((rd M3 y).bind fun y' => (rd M3 z).bind fun z' => (cmpD p y' z').map .bl) M3
    | some false => .ok (.bl false) M2
    | none => .bad) : Res D)
def kt_evE_chain_2 (C : Cl) (o : CmpOp) (p : CmpOp) (c : ME) (σ : En) (x : D) (y : D) (M2 : Cs) := ((match (rd M2 x).bind fun x' => (rd M2 y).bind fun y' => cmpD o x' y' with
    | some true => (evE C c σ M2).bind fun z M3 => opt ((rd M3 y).bind fun y' => (rd M3 z).bind fun z' => (cmpD p y' z').map .bl) M3
    | some false => .ok (.bl false) M2
    | none => .bad) : Res D)
@[simp] theorem kt_evE_chain_2_eq (C : Cl) (o : CmpOp) (p : CmpOp) (c : ME) (σ : En) (x : D) (y : D) (M2 : Cs) : kt_evE_chain_2 C o p c σ x y M2 = ((match (rd M2 x).bind fun x' => (rd M2 y).bind fun y' => cmpD o x' y' with
    | some true => (evE C c σ M2).bind fun z M3 => opt ((rd M3 y).bind fun y' => (rd M3 z).bind fun z' => (cmpD p y' z').map .bl) M3
    | some false => .ok (.bl false) M2
    | none => .bad) : Res D) := by first | (rw [kt_evE_chain_2]; done) | rfl
@[simp] theorem kt_evE_chain_1_eq (C : Cl) (o : CmpOp) (p : CmpOp) (b : ME) (c : ME) (σ : En) (x : D) (M1 : Cs) : kt_evE_chain_1 C o p b c σ x M1 = ((evE C b σ M1).bind (kt_evE_chain_2 C o p c σ x) : Res D) := by first | (rw [kt_evE_chain_1]; done) | rfl
@[simp] theorem evE_chain (C : Cl) o p a b c σ M : evE C (ME.chain o p a b c) σ M = ((evE C a σ M).bind (kt_evE_chain_1 C o p b c σ) : Res D) := by
  rw [evE] <;> first | rfl | (cases evS C s σ M <;> rfl)
def kt_evE_ite_1 (C : Cl) (a : ME) (b : ME) (σ : En) (k : Bool) (M1 : Cs) := (if k = true then evE C a σ M1 else evE C b σ M1 : Res D)
@[simp] theorem kt_evE_ite_1_eq (C : Cl) (a : ME) (b : ME) (σ : En) (k : Bool) (M1 : Cs) : kt_evE_ite_1 C a b σ k M1 = (if k = true then evE C a σ M1 else evE C b σ M1 : Res D) := by first | (rw [kt_evE_ite_1]; done) | rfl
@[simp] theorem evE_ite (C : Cl) c a b σ M : evE C (ME.ite c a b) σ M = ((evB C c σ M).bind (kt_evE_ite_1 C a b σ) : Res D) := by
  rw [evE] <;> first | rfl | (cases evS C s σ M <;> rfl)
def kt_evE_idx_1 (C : Cl) (i : ME) (σ : En) (x : D) (M1 : Cs) := ((evE C i σ M1).bind fun y M2 => opt ((rd M2 x).bind fun x' => (rd M2 y).bind fun y' => idxD x' y') M2 : Res D)
def kt_evE_idx_2 (C : Cl) (x : D) (y : D) (M2 : Cs) := (opt ((rd M2 x).bind fun x' => (rd M2 y).bind fun y' => idxD x' y') M2 : Res D)
@[simp] theorem kt_evE_idx_2_eq (C : Cl) (x : D) (y : D) (M2 : Cs) : kt_evE_idx_2 C x y M2 = (opt ((rd M2 x).bind fun x' => (rd M2 y).bind fun y' => idxD x' y') M2 : Res D) := by first | (rw [kt_evE_idx_2]; done) | rfl
@[simp] theorem kt_evE_idx_1_eq (C : Cl) (i : ME) (σ : En) (x : D) (M1 : Cs) : kt_evE_idx_1 C i σ x M1 = ((evE C i σ M1).bind (kt_evE_idx_2 C x) : Res D) := by first | (rw [kt_evE_idx_1]; done) | rfl
@[simp] theorem evE_idx (C : Cl) a i σ M : evE C (ME.idx a i) σ M = ((evE C a σ M).bind (kt_evE_idx_1 C i σ) : Res D) := by
  rw [evE] <;> first | rfl | (cases evS C s σ M <;> rfl)
def kt_evE_slc_1 (C : Cl) (lo : MO) (hi : MO) (σ : En) (x : D) (M1 : Cs) := ((evO C lo σ M1).bind fun l M3 => (evO C hi σ M3).bind fun u M5 => opt ((rd M5 x).bind fun x' => slcD x' (ptD l) (ptD u) .non) M5 : Res D)
def kt_evE_slc_2 (C : Cl) (hi : MO) (σ : En) (x : D) (l : Option Int) (M3 : Cs) := ((evO C hi σ M3).bind fun u M5 => opt ((rd M5 x).bind fun x' => slcD x' (ptD l) (ptD u) .non) M5 : Res D)
def kt_evE_slc_3 (C : Cl) (x : D) (l : Option Int) (u : Option Int) (M5 : Cs) := (opt ((rd M5 x).bind fun x' => slcD x' (ptD l) (ptD u) .non) M5 : Res D)
@[simp] theorem kt_evE_slc_3_eq (C : Cl) (x : D) (l : Option Int) (u : Option Int) (M5 : Cs) : kt_evE_slc_3 C x l u M5 = (opt ((rd M5 x).bind fun x' => slcD x' (ptD l) (ptD u) .non) M5 : Res D) := by first | (rw [kt_evE_slc_3]; done) | rfl
@[simp] theorem kt_evE_slc_2_eq (C : Cl) (hi : MO) (σ : En) (x : D) (l : Option Int) (M3 : Cs) : kt_evE_slc_2 C hi σ x l M3 = ((evO C hi σ M3).bind (kt_evE_slc_3 C x l) : Res D) := by first | (rw [kt_evE_slc_2]; done) | rfl
@[simp] theorem kt_evE_slc_1_eq (C : Cl) (lo : MO) (hi : MO) (σ : En) (x : D) (M1 : Cs) : kt_evE_slc_1 C lo hi σ x M1 = ((evO C lo σ M1).bind (kt_evE_slc_2 C hi σ x) : Res D) := by first | (rw [kt_evE_slc_1]; done) | rfl
@[simp] theorem evE_slc (C : Cl) a lo hi σ M : evE C (ME.slc a lo hi) σ M = ((evE C a σ M).bind (kt_evE_slc_1 C lo hi σ) : Res D) := by
  rw [evE] <;> first | rfl | (cases evS C s σ M <;> rfl)
def kt_evE_tup_1 (C : Cl) (xs : List D) (M1 : Cs) := (if xs.length ≤ sizeLine then .ok (.tup xs) M1 else .bad : Res D)
@[simp] theorem kt_evE_tup_1_eq (C : Cl) (xs : List D) (M1 : Cs) : kt_evE_tup_1 C xs M1 = (if xs.length ≤ sizeLine then .ok (.tup xs) M1 else .bad : Res D) := by first | (rw [kt_evE_tup_1]; done) | rfl
@[simp] theorem evE_tup (C : Cl) es σ M : evE C (ME.tup es) σ M = ((evEs C es σ M).bind (kt_evE_tup_1 C) : Res D) := by
  rw [evE] <;> first | rfl | (cases evS C s σ M <;> rfl)
def kt_evE_lst_1 (C : Cl) (xs : List D) (M1 : Cs) := (if xs.length ≤ sizeLine then .ok (.lst xs) M1 else .bad : Res D)
@[simp] theorem kt_evE_lst_1_eq (C : Cl) (xs : List D) (M1 : Cs) : kt_evE_lst_1 C xs M1 = (if xs.length ≤ sizeLine then .ok (.lst xs) M1 else .bad : Res D) := by first | (rw [kt_evE_lst_1]; done) | rfl
@[simp] theorem evE_lst (C : Cl) es σ M : evE C (ME.lst es) σ M = ((evEs C es σ M).bind (kt_evE_lst_1 C) : Res D) := by
  rw [evE] <;> first | rfl | (cases evS C s σ M <;> rfl)
def kt_evE_dsp_1 (C : Cl) (t : Bool) (ps : List D × List D) (M1 : Cs) := (if ps.1.all (isKey t) && decide (ps.1.length ≤ 15) then .ok (.dct t (putsD ps.1 ps.2 [] []).1 (putsD ps.1 ps.2 [] []).2) M1 else .bad : Res D)
@[simp] theorem kt_evE_dsp_1_eq (C : Cl) (t : Bool) (ps : List D × List D) (M1 : Cs) : kt_evE_dsp_1 C t ps M1 = (if ps.1.all (isKey t) && decide (ps.1.length ≤ 15) then .ok (.dct t (putsD ps.1 ps.2 [] []).1 (putsD ps.1 ps.2 [] []).2) M1 else .bad : Res D) := by first | (rw [kt_evE_dsp_1]; done) | rfl
@[simp] theorem evE_dsp (C : Cl) t ps σ M : evE C (ME.dsp t ps) σ M = ((evPs C ps σ M).bind (kt_evE_dsp_1 C t) : Res D) := by
  rw [evE] <;> first | rfl | (cases evS C s σ M <;> rfl)
def kt_evE_lc_1 (C : Cl) (own : List Nat) (e : ME) (t : MT) (c : MC) (σ : En) (M : Cs) (ds : List D × List Nat) (M1 : Cs) := ((lcGo ds.2 (fun d M => (evT C t d (wip σ own) M).bind fun σ1 M2 => (evC C c σ1 M2).bind fun b M3 => if b = true then (evE C e σ1 M3).bind fun x M4 => .ok [x] M4 else .ok [] M3) ds.1 [] M1).bind fun xs M2 => .ok (.lst xs) M2 : Res D)
def kt_evE_lc_2 (C : Cl) (own : List Nat) (e : ME) (t : MT) (c : MC) (σ : En) (d : D) (M : Cs) := ((evT C t d (wip σ own) M).bind fun σ1 M2 => (evC C c σ1 M2).bind fun b M3 => if b = true then (evE C e σ1 M3).bind fun x M4 => .ok [x] M4 else .ok [] M3 : Res (List D))
def kt_evE_lc_3 (C : Cl) (e : ME) (c : MC) (σ1 : En) (M2 : Cs) := ((evC C c σ1 M2).bind fun b M3 => if b = true then (evE C e σ1 M3).bind fun x M4 => .ok [x] M4 else .ok [] M3 : Res (List D))
def kt_evE_lc_4 (C : Cl) (e : ME) (σ1 : En) (b : Bool) (M3 : Cs) := (if b = true then (evE C e σ1 M3).bind fun x M4 => .ok [x] M4 else .ok [] M3 : Res (List D))
def kt_evE_lc_5 (C : Cl) (x : D) (M4 : Cs) := (.ok [x] M4 : Res (List D))
@[simp] theorem kt_evE_lc_5_eq (C : Cl) (x : D) (M4 : Cs) : kt_evE_lc_5 C x M4 = (.ok [x] M4 : Res (List D)) := by first | (rw [kt_evE_lc_5]; done) | rfl
@[simp] theorem kt_evE_lc_4_eq (C : Cl) (e : ME) (σ1 : En) (b : Bool) (M3 : Cs) : kt_evE_lc_4 C e σ1 b M3 = (if b = true then (evE C e σ1 M3).bind (kt_evE_lc_5 C) else .ok [] M3 : Res (List D)) := by first | (rw [kt_evE_lc_4]; done) | rfl
@[simp] theorem kt_evE_lc_3_eq (C : Cl) (e : ME) (c : MC) (σ1 : En) (M2 : Cs) : kt_evE_lc_3 C e c σ1 M2 = ((evC C c σ1 M2).bind (kt_evE_lc_4 C e σ1) : Res (List D)) := by first | (rw [kt_evE_lc_3]; done) | rfl
@[simp] theorem kt_evE_lc_2_eq (C : Cl) (own : List Nat) (e : ME) (t : MT) (c : MC) (σ : En) (d : D) (M : Cs) : kt_evE_lc_2 C own e t c σ d M = ((evT C t d (wip σ own) M).bind (kt_evE_lc_3 C e c) : Res (List D)) := by first | (rw [kt_evE_lc_2]; done) | rfl
def kt_evE_lc_6 (C : Cl) (xs : List D) (M2 : Cs) := (.ok (.lst xs) M2 : Res D)
@[simp] theorem kt_evE_lc_6_eq (C : Cl) (xs : List D) (M2 : Cs) : kt_evE_lc_6 C xs M2 = (.ok (.lst xs) M2 : Res D) := by first | (rw [kt_evE_lc_6]; done) | rfl
@[simp] theorem kt_evE_lc_1_eq (C : Cl) (own : List Nat) (e : ME) (t : MT) (c : MC) (σ : En) (M : Cs) (ds : List D × List Nat) (M1 : Cs) : kt_evE_lc_1 C own e t c σ M ds M1 = ((lcGo ds.2 (kt_evE_lc_2 C own e t c σ) ds.1 [] M1).bind (kt_evE_lc_6 C) : Res D) := by first | (rw [kt_evE_lc_1]; done) | rfl
@[simp] theorem evE_lc (C : Cl) own e t it c σ M : evE C (ME.lc own e t it c) σ M = ((evI C it σ M).bind (kt_evE_lc_1 C own e t c σ M) : Res D) := by
  rw [evE] <;> first | rfl | (cases evS C s σ M <;> rfl)
def kt_evE_lc2_1 (C : Cl) (own : List Nat) (own1 : List Nat) (e : ME) (t : MT) (c : MC) (t1 : MT) (it1 : MI) (c1 : MC) (σ : En) (M : Cs) (ds : List D × List Nat) (M1 : Cs) := ((lcGo ds.2 (fun d M => (evT C t d (wip σ own) M).bind fun σ1 M2 => (evC C c σ1 M2).bind fun b M3 => if b = true then
      (evI C it1 σ1 M3).bind fun ds1 M4 => lcGo ds1.2 (fun d1 M => (evT C t1 d1 (wip σ1 own1) M).bind fun σ2 M5 => (evC C c1 σ2 M5).bind fun b1 M6 => if b1 = true then (evE C e σ2 M6).bind fun x M7 => .ok [x] M7 else .ok [] M6) ds1.1 [] M4 else .ok [] M3) ds.1 [] M1).bind fun xs M2 => .ok (.lst xs) M2 : Res D)
def kt_evE_lc2_2 (C : Cl) (own : List Nat) (own1 : List Nat) (e : ME) (t : MT) (c : MC) (t1 : MT) (it1 : MI) (c1 : MC) (σ : En) (d : D) (M : Cs) := ((evT C t d (wip σ own) M).bind fun σ1 M2 => (evC C c σ1 M2).bind fun b M3 => if b = true then
      (evI C it1 σ1 M3).bind fun ds1 M4 => lcGo ds1.2 (fun d1 M => (evT C t1 d1 (wip σ1 own1) M).bind fun σ2 M5 => (evC C c1 σ2 M5).bind fun b1 M6 => if b1 = true then (evE C e σ2 M6).bind fun x M7 => .ok [x] M7 else .ok [] M6) ds1.1 [] M4 else .ok [] M3 : Res (List D))
def kt_evE_lc2_3 (C : Cl) (own1 : List Nat) (e : ME) (c : MC) (t1 : MT) (it1 : MI) (c1 : MC) (M : Cs) (σ1 : En) (M2 : Cs) := ((evC C c σ1 M2).bind fun b M3 => if b = true then
      (evI C it1 σ1 M3).bind fun ds1 M4 => lcGo ds1.2 (fun d1 M => (evT C t1 d1 (wip σ1 own1) M).bind fun σ2 M5 => (evC C c1 σ2 M5).bind fun b1 M6 => if b1 = true then (evE C e σ2 M6).bind fun x M7 => .ok [x] M7 else .ok [] M6) ds1.1 [] M4 else .ok [] M3 : Res (List D))
def kt_evE_lc2_4 (C : Cl) (own1 : List Nat) (e : ME) (t1 : MT) (it1 : MI) (c1 : MC) (M : Cs) (σ1 : En) (b : Bool) (M3 : Cs) := (if b = true then
      (evI C it1 σ1 M3).bind fun ds1 M4 => lcGo ds1.2 (fun d1 M => (evT C t1 d1 (wip σ1 own1) M).bind fun σ2 M5 => (evC C c1 σ2 M5).bind fun b1 M6 => if b1 = true then (evE C e σ2 M6).bind fun x M7 => .ok [x] M7 else .ok [] M6) ds1.1 [] M4 else .ok [] M3 : Res (List D))
def kt_evE_lc2_5 (C : Cl) (own1 : List Nat) (e : ME) (t1 : MT) (c1 : MC) (M : Cs) (σ1 : En) (ds1 : List D × List Nat) (M4 : Cs) := (lcGo ds1.2 (fun d1 M => (evT C t1 d1 (wip σ1 own1) M).bind fun σ2 M5 => (evC C c1 σ2 M5).bind fun b1 M6 => if b1 = true then (evE C e σ2 M6).bind fun x M7 => .ok [x] M7 else .ok [] M6) ds1.1 [] M4 : Res (List D))
def kt_evE_lc2_6 (C : Cl) (own1 : List Nat) (e : ME) (t1 : MT) (c1 : MC) (σ1 : En) (d1 : D) (M : Cs) := ((evT C t1 d1 (wip σ1 own1) M).bind fun σ2 M5 => (evC C c1 σ2 M5).bind fun b1 M6 => if b1 = true then (evE C e σ2 M6).bind fun x M7 => .ok [x] M7 else .ok [] M6 : Res (List D))
def kt_evE_lc2_7 (C : Cl) (e : ME) (c1 : MC) (σ2 : En) (M5 : Cs) := ((evC C c1 σ2 M5).bind fun b1 M6 => if b1 = true then (evE C e σ2 M6).bind fun x M7 => .ok [x] M7 else .ok [] M6 : Res (List D))
def kt_evE_lc2_8 (C : Cl) (e : ME) (σ2 : En) (b1 : Bool) (M6 : Cs) := (if b1 = true then (evE C e σ2 M6).bind fun x M7 => .ok [x] M7 else .ok [] M6 : Res (List D))
def kt_evE_lc2_9 (C : Cl) (x : D) (M7 : Cs) := (.ok [x] M7 : Res (List D))
@[simp] theorem kt_evE_lc2_9_eq (C : Cl) (x : D) (M7 : Cs) : kt_evE_lc2_9 C x M7 = (.ok [x] M7 : Res (List D)) := by first | (rw [kt_evE_lc2_9]; done) | rfl
@[simp] theorem kt_evE_lc2_8_eq (C : Cl) (e : ME) (σ2 : En) (b1 : Bool) (M6 : Cs) : kt_evE_lc2_8 C e σ2 b1 M6 = (if b1 = true then (evE C e σ2 M6).bind (kt_evE_lc2_9 C) else .ok [] M6 : Res (List D)) := by first | (rw [kt_evE_lc2_8]; done) | rfl
@[simp] theorem kt_evE_lc2_7_eq (C : Cl) (e : ME) (c1 : MC) (σ2 : En) (M5 : Cs) : kt_evE_lc2_7 C e c1 σ2 M5 = ((evC C c1 σ2 M5).bind (kt_evE_lc2_8 C e σ2) : Res (List D)) := by first | (rw [kt_evE_lc2_7]; done) | rfl
@[simp] theorem kt_evE_lc2_6_eq (C : Cl) (own1 : List Nat) (e : ME) (t1 : MT) (c1 : MC) (σ1 : En) (d1 : D) (M : Cs) : kt_evE_lc2_6 C own1 e t1 c1 σ1 d1 M = ((evT C t1 d1 (wip σ1 own1) M).bind (kt_evE_lc2_7 C e c1) : Res (List D)) := by first | (rw [kt_evE_lc2_6]; done) | rfl
@[simp] theorem kt_evE_lc2_5_eq (C : Cl) (own1 : List Nat) (e : ME) (t1 : MT) (c1 : MC) (M : Cs) (σ1 : En) (ds1 : List D × List Nat) (M4 : Cs) : kt_evE_lc2_5 C own1 e t1 c1 M σ1 ds1 M4 = (lcGo ds1.2 (kt_evE_lc2_6 C own1 e t1 c1 σ1) ds1.1 [] M4 : Res (List D)) := by first | (rw [kt_evE_lc2_5]; done) | rfl
@[simp] theorem kt_evE_lc2_4_eq (C : Cl) (own1 : List Nat) (e : ME) (t1 : MT) (it1 : MI) (c1 : MC) (M : Cs) (σ1 : En) (b : Bool) (M3 : Cs) : kt_evE_lc2_4 C own1 e t1 it1 c1 M σ1 b M3 = (if b = true then (evI C it1 σ1 M3).bind (kt_evE_lc2_5 C own1 e t1 c1 M σ1) else .ok [] M3 : Res (List D)) := by first | (rw [kt_evE_lc2_4]; done) | rfl
@[simp] theorem kt_evE_lc2_3_eq (C : Cl) (own1 : List Nat) (e : ME) (c : MC) (t1 : MT) (it1 : MI) (c1 : MC) (M : Cs) (σ1 : En) (M2 : Cs) : kt_evE_lc2_3 C own1 e c t1 it1 c1 M σ1 M2 = ((evC C c σ1 M2).bind (kt_evE_lc2_4 C own1 e t1 it1 c1 M σ1) : Res (List D)) := by first | (rw [kt_evE_lc2_3]; done) | rfl
@[simp] theorem kt_evE_lc2_2_eq (C : Cl) (own : List Nat) (own1 : List Nat) (e : ME) (t : MT) (c : MC) (t1 : MT) (it1 : MI) (c1 : MC) (σ : En) (d : D) (M : Cs) : kt_evE_lc2_2 C own own1 e t c t1 it1 c1 σ d M = ((evT C t d (wip σ own) M).bind (kt_evE_lc2_3 C own1 e c t1 it1 c1 M) : Res (List D)) := by first | (rw [kt_evE_lc2_2]; done) | rfl
def kt_evE_lc2_10 (C : Cl) (xs : List D) (M2 : Cs) := (.ok (.lst xs) M2 : Res D)
@[simp] theorem kt_evE_lc2_10_eq (C : Cl) (xs : List D) (M2 : Cs) : kt_evE_lc2_10 C xs M2 = (.ok (.lst xs) M2 : Res D) := by first | (rw [kt_evE_lc2_10]; done) | rfl
@[simp] theorem kt_evE_lc2_1_eq (C : Cl) (own : List Nat) (own1 : List Nat) (e : ME) (t : MT) (c : MC) (t1 : MT) (it1 : MI) (c1 : MC) (σ : En) (M : Cs) (ds : List D × List Nat) (M1 : Cs) : kt_evE_lc2_1 C own own1 e t c t1 it1 c1 σ M ds M1 = ((lcGo ds.2 (kt_evE_lc2_2 C own own1 e t c t1 it1 c1 σ) ds.1 [] M1).bind (kt_evE_lc2_10 C) : Res D) := by first | (rw [kt_evE_lc2_1]; done) | rfl
@[simp] theorem evE_lc2 (C : Cl) own own1 e t it c t1 it1 c1 σ M : evE C (ME.lc2 own own1 e t it c t1 it1 c1) σ M = ((evI C it σ M).bind (kt_evE_lc2_1 C own own1 e t c t1 it1 c1 σ M) : Res D) := by
  rw [evE] <;> first | rfl | (cases evS C s σ M <;> rfl)
def kt_evE_dc_1 (C : Cl) (b : Bool) (own : List Nat) (k : ME) (v : ME) (t : MT) (c : MC) (σ : En) (M : Cs) (ds : List D × List Nat) (M1 : Cs) := ((dcGo b ds.2 (fun d M => (evT C t d (wip σ own) M).bind fun σ1 M2 => (evC C c σ1 M2).bind fun q M3 => if q = true then (evE C k σ1 M3).bind fun x M4 => (evE C v σ1 M4).bind fun y M5 => .ok (some (x, y)) M5 else .ok none M3) ds.1 [] [] M1).bind fun p M2 => .ok (.dct b p.1 p.2) M2 : Res D)
def kt_evE_dc_2 (C : Cl) (own : List Nat) (k : ME) (v : ME) (t : MT) (c : MC) (σ : En) (d : D) (M : Cs) := ((evT C t d (wip σ own) M).bind fun σ1 M2 => (evC C c σ1 M2).bind fun q M3 => if q = true then (evE C k σ1 M3).bind fun x M4 => (evE C v σ1 M4).bind fun y M5 => .ok (some (x, y)) M5 else .ok none M3 : Res (Option (D × D)))
def kt_evE_dc_3 (C : Cl) (k : ME) (v : ME) (c : MC) (σ1 : En) (M2 : Cs) := ((evC C c σ1 M2).bind fun q M3 => if q = true then (evE C k σ1 M3).bind fun x M4 => (evE C v σ1 M4).bind fun y M5 => .ok (some (x, y)) M5 else .ok none M3 : Res (Option (D × D)))
def kt_evE_dc_4 (C : Cl) (k : ME) (v : ME) (σ1 : En) (q : Bool) (M3 : Cs) := (if q = true then (evE C k σ1 M3).bind fun x M4 => (evE C v σ1 M4).bind fun y M5 => .ok (some (x, y)) M5 else .ok none M3 : Res (Option (D × D)))
def kt_evE_dc_5 (C : Cl) (v : ME) (σ1 : En) (x : D) (M4 : Cs) := ((evE C v σ1 M4).bind fun y M5 => .ok (some (x, y)) M5 : Res (Option (D × D)))
def kt_evE_dc_6 (C : Cl) (x : D) (y : D) (M5 : Cs) := (.ok (some (x, y)) M5 : Res (Option (D × D)))
@[simp] theorem kt_evE_dc_6_eq (C : Cl) (x : D) (y : D) (M5 : Cs) : kt_evE_dc_6 C x y M5 = (.ok (some (x, y)) M5 : Res (Option (D × D))) := by first | (rw [kt_evE_dc_6]; done) | rfl
@[simp] theorem kt_evE_dc_5_eq (C : Cl) (v : ME) (σ1 : En) (x : D) (M4 : Cs) : kt_evE_dc_5 C v σ1 x M4 = ((evE C v σ1 M4).bind (kt_evE_dc_6 C x) : Res (Option (D × D))) := by first | (rw [kt_evE_dc_5]; done) | rfl
@[simp] theorem kt_evE_dc_4_eq (C : Cl) (k : ME) (v : ME) (σ1 : En) (q : Bool) (M3 : Cs) : kt_evE_dc_4 C k v σ1 q M3 = (if q = true then (evE C k σ1 M3).bind (kt_evE_dc_5 C v σ1) else .ok none M3 : Res (Option (D × D))) := by first | (rw [kt_evE_dc_4]; done) | rfl
@[simp] theorem kt_evE_dc_3_eq (C : Cl) (k : ME) (v : ME) (c : MC) (σ1 : En) (M2 : Cs) : kt_evE_dc_3 C k v c σ1 M2 = ((evC C c σ1 M2).bind (kt_evE_dc_4 C k v σ1) : Res (Option (D × D))) := by first | (rw [kt_evE_dc_3]; done) | rfl
@[simp] theorem kt_evE_dc_2_eq (C : Cl) (own : List Nat) (k : ME) (v : ME) (t : MT) (c : MC) (σ : En) (d : D) (M : Cs) : kt_evE_dc_2 C own k v t c σ d M = ((evT C t d (wip σ own) M).bind (kt_evE_dc_3 C k v c) : Res (Option (D × D))) := by first | (rw [kt_evE_dc_2]; done) | rfl
def kt_evE_dc_7 (C : Cl) (b : Bool) (p : List D × List D) (M2 : Cs) := (.ok (.dct b p.1 p.2) M2 : Res D)
@[simp] theorem kt_evE_dc_7_eq (C : Cl) (b : Bool) (p : List D × List D) (M2 : Cs) : kt_evE_dc_7 C b p M2 = (.ok (.dct b p.1 p.2) M2 : Res D) := by first | (rw [kt_evE_dc_7]; done) | rfl
@[simp] theorem kt_evE_dc_1_eq (C : Cl) (b : Bool) (own : List Nat) (k : ME) (v : ME) (t : MT) (c : MC) (σ : En) (M : Cs) (ds : List D × List Nat) (M1 : Cs) : kt_evE_dc_1 C b own k v t c σ M ds M1 = ((dcGo b ds.2 (kt_evE_dc_2 C own k v t c σ) ds.1 [] [] M1).bind (kt_evE_dc_7 C b) : Res D) := by first | (rw [kt_evE_dc_1]; done) | rfl
@[simp] theorem evE_dc (C : Cl) b own k v t it c σ M : evE C (ME.dc b own k v t it c) σ M = ((evI C it σ M).bind (kt_evE_dc_1 C b own k v t c σ M) : Res D) := by
  rw [evE] <;> first | rfl | (cases evS C s σ M <;> rfl)
def kt_evE_call_1 (C : Cl) (f : Nat) (ks : MEs) (perm : List Nat) (σ : En) (xs : List D) (M1 : Cs) := ((evEs C ks σ M1).bind fun ys M2 => C.call f (permD perm (xs ++ ys)) M2 : Res D)
def kt_evE_call_2 (C : Cl) (f : Nat) (perm : List Nat) (xs : List D) (ys : List D) (M2 : Cs) := (C.call f (permD perm (xs ++ ys)) M2 : Res D)
@[simp] theorem kt_evE_call_2_eq (C : Cl) (f : Nat) (perm : List Nat) (xs : List D) (ys : List D) (M2 : Cs) : kt_evE_call_2 C f perm xs ys M2 = (C.call f (permD perm (xs ++ ys)) M2 : Res D) := by first | (rw [kt_evE_call_2]; done) | rfl
@[simp] theorem kt_evE_call_1_eq (C : Cl) (f : Nat) (ks : MEs) (perm : List Nat) (σ : En) (xs : List D) (M1 : Cs) : kt_evE_call_1 C f ks perm σ xs M1 = ((evEs C ks σ M1).bind (kt_evE_call_2 C f perm xs) : Res D) := by first | (rw [kt_evE_call_1]; done) | rfl
@[simp] theorem evE_call (C : Cl) f es ks perm σ M : evE C (ME.call f es ks perm) σ M = ((evEs C es σ M).bind (kt_evE_call_1 C f ks perm σ) : Res D) := by
  rw [evE] <;> first | rfl | (cases evS C s σ M <;> rfl)
def kt_evE_blt_1 (C : Cl) (b : Bf) (xs : List D) (M1 : Cs) := (opt ((rds M1 xs).bind (bltD b)) M1 : Res D)
@[simp] theorem kt_evE_blt_1_eq (C : Cl) (b : Bf) (xs : List D) (M1 : Cs) : kt_evE_blt_1 C b xs M1 = (opt ((rds M1 xs).bind (bltD b)) M1 : Res D) := by first | (rw [kt_evE_blt_1]; done) | rfl
@[simp] theorem evE_blt (C : Cl) b es σ M : evE C (ME.blt b es) σ M = ((evEs C es σ M).bind (kt_evE_blt_1 C b) : Res D) := by
  rw [evE] <;> first | rfl | (cases evS C s σ M <;> rfl)
def kt_evE_lrng_1 (C : Cl) (b : ME) (σ : En) (x : D) (M1 : Cs) := ((evE C b σ M1).bind fun y M2 => opt ((rngD x y).bind fun xs => if xs.length ≤ sizeLine then some (.lst xs) else none) M2 : Res D)
def kt_evE_lrng_2 (C : Cl) (x : D) (y : D) (M2 : Cs) := (opt ((rngD x y).bind fun xs => if xs.length ≤ sizeLine then some (.lst xs) else none) M2 : Res D)
@[simp] theorem kt_evE_lrng_2_eq (C : Cl) (x : D) (y : D) (M2 : Cs) : kt_evE_lrng_2 C x y M2 = (opt ((rngD x y).bind fun xs => if xs.length ≤ sizeLine then some (.lst xs) else none) M2 : Res D) := by first | (rw [kt_evE_lrng_2]; done) | rfl
@[simp] theorem kt_evE_lrng_1_eq (C : Cl) (b : ME) (σ : En) (x : D) (M1 : Cs) : kt_evE_lrng_1 C b σ x M1 = ((evE C b σ M1).bind (kt_evE_lrng_2 C x) : Res D) := by first | (rw [kt_evE_lrng_1]; done) | rfl
@[simp] theorem evE_lrng (C : Cl) a b σ M : evE C (ME.lrng a b) σ M = ((evE C a σ M).bind (kt_evE_lrng_1 C b σ) : Res D) := by
  rw [evE] <;> first | rfl | (cases evS C s σ M <;> rfl)
def kt_evE_isa_1 (C : Cl) (t : Ty) (x : D) (M1 : Cs) := (opt ((rd M1 x).bind fun x' => (isaD x' t).map .bl) M1 : Res D)
@[simp] theorem kt_evE_isa_1_eq (C : Cl) (t : Ty) (x : D) (M1 : Cs) : kt_evE_isa_1 C t x M1 = (opt ((rd M1 x).bind fun x' => (isaD x' t).map .bl) M1 : Res D) := by first | (rw [kt_evE_isa_1]; done) | rfl
@[simp] theorem evE_isa (C : Cl) e t σ M : evE C (ME.isa e t) σ M = ((evE C e σ M).bind (kt_evE_isa_1 C t) : Res D) := by
  rw [evE] <;> first | rfl | (cases evS C s σ M <;> rfl)
def kt_evE_met_1 (C : Cl) (m : Mf) (es : MEs) (σ : En) (x : D) (M1 : Cs) := (if okM m (rd M1 x) then (evEs C es σ M1).bind fun xs M2 => opt ((rd M2 x).bind fun x' => (rds M2 xs).bind (metD m x')) M2 else .bad : Res D)
@[simp] theorem kt_evE_met_1_eq (C : Cl) (m : Mf) (es : MEs) (σ : En) (x : D) (M1 : Cs) : kt_evE_met_1 C m es σ x M1 = (if okM m (rd M1 x) then (evEs C es σ M1).bind fun xs M2 => opt ((rd M2 x).bind fun x' => (rds M2 xs).bind (metD m x')) M2 else .bad : Res D) := by first | (rw [kt_evE_met_1]; done) | rfl
@[simp] theorem evE_met (C : Cl) m o es σ M : evE C (ME.met m o es) σ M = ((evE C o σ M).bind (kt_evE_met_1 C m es σ) : Res D) := by
  rw [evE] <;> first | rfl | (cases evS C s σ M <;> rfl)
def kt_evE_mut_1 (C : Cl) (m : Mu) (es : MEs) (σ : En) (x : D) (M1 : Cs) := (if okL (rd M1 x) then (evEs C es σ M1).bind fun xs M2 => (match x with
    | .cell n => if frees 0 xs then (match (rd M2 x).bind fun x' => mutD m x' xs with
      | some (y, v) => .ok v (M2.set n (some y))
      | none => .bad) else .bad
    | _ => .bad) else .bad : Res D)
@[simp] theorem kt_evE_mut_1_eq (C : Cl) (m : Mu) (es : MEs) (σ : En) (x : D) (M1 : Cs) : kt_evE_mut_1 C m es σ x M1 = (if okL (rd M1 x) then (evEs C es σ M1).bind fun xs M2 => (match x with
    | .cell n => if frees 0 xs then (match (rd M2 x).bind fun x' => mutD m x' xs with
      | some (y, v) => .ok v (M2.set n (some y))
      | none => .bad) else .bad
    | _ => .bad) else .bad : Res D) := by first | (rw [kt_evE_mut_1]; done) | rfl
@[simp] theorem evE_mut (C : Cl) m o es σ M : evE C (ME.mut m o es) σ M = ((evE C o σ M).bind (kt_evE_mut_1 C m es σ) : Res D) := by
  rw [evE] <;> first | rfl | (cases evS C s σ M <;> rfl)
def kt_evE_new_1 (C : Cl) (x : D) (M1 : Cs) := ((match x with
    | .lst xs => if frees 0 xs then .ok (.cell M1.length) (M1 ++ [some (.lst xs)]) else .bad
    | .dct t ks vs => if frees 0 ks && frees 0 vs then .ok (.cell M1.length) (M1 ++ [some (.dct t ks vs)]) else .bad
    | _ => .bad) : Res D)
@[simp] theorem kt_evE_new_1_eq (C : Cl) (x : D) (M1 : Cs) : kt_evE_new_1 C x M1 = ((match x with
    | .lst xs => if frees 0 xs then .ok (.cell M1.length) (M1 ++ [some (.lst xs)]) else .bad
    | .dct t ks vs => if frees 0 ks && frees 0 vs then .ok (.cell M1.length) (M1 ++ [some (.dct t ks vs)]) else .bad
    | _ => .bad) : Res D) := by first | (rw [kt_evE_new_1]; done) | rfl
@[simp] theorem evE_new (C : Cl) e σ M : evE C (ME.new e) σ M = ((evE C e σ M).bind (kt_evE_new_1 C) : Res D) := by
  rw [evE] <;> first | rfl | (cases evS C s σ M <;> rfl)
def kt_evE_frz_1 (C : Cl) (x : D) (M1 : Cs) := ((match x with
    | .cell n => (match rd M1 x with
      | some d => .ok d (M1.set n none)
      | none => .bad)
    | _ => .ok x M1) : Res D)
@[simp] theorem kt_evE_frz_1_eq (C : Cl) (x : D) (M1 : Cs) : kt_evE_frz_1 C x M1 = ((match x with
    | .cell n => (match rd M1 x with
      | some d => .ok d (M1.set n none)
      | none => .bad)
    | _ => .ok x M1) : Res D) := by first | (rw [kt_evE_frz_1]; done) | rfl
@[simp] theorem evE_frz (C : Cl) e σ M : evE C (ME.frz e) σ M = ((evE C e σ M).bind (kt_evE_frz_1 C) : Res D) := by
  rw [evE] <;> first | rfl | (cases evS C s σ M <;> rfl)
def kt_evE_rev_1 (C : Cl) (x : D) (M1 : Cs) := (opt ((rd M1 x).bind revD) M1 : Res D)
@[simp] theorem kt_evE_rev_1_eq (C : Cl) (x : D) (M1 : Cs) : kt_evE_rev_1 C x M1 = (opt ((rd M1 x).bind revD) M1 : Res D) := by first | (rw [kt_evE_rev_1]; done) | rfl
@[simp] theorem evE_rev (C : Cl) a σ M : evE C (ME.rev a) σ M = ((evE C a σ M).bind (kt_evE_rev_1 C) : Res D) := by
  rw [evE] <;> first | rfl | (cases evS C s σ M <;> rfl)
def kt_evE_dput_1 (C : Cl) (k : ME) (v : ME) (σ : En) (x : D) (M1 : Cs) := ((evE C k σ M1).bind fun y M2 => (evE C v σ M2).bind fun z M3 => opt (dputD x y z) M3 : Res D)
def kt_evE_dput_2 (C : Cl) (v : ME) (σ : En) (x : D) (y : D) (M2 : Cs) := ((evE C v σ M2).bind fun z M3 => opt (dputD x y z) M3 : Res D)
def kt_evE_dput_3 (C : Cl) (x : D) (y : D) (z : D) (M3 : Cs) := (opt (dputD x y z) M3 : Res D)
@[simp] theorem kt_evE_dput_3_eq (C : Cl) (x : D) (y : D) (z : D) (M3 : Cs) : kt_evE_dput_3 C x y z M3 = (opt (dputD x y z) M3 : Res D) := by first | (rw [kt_evE_dput_3]; done) | rfl
@[simp] theorem kt_evE_dput_2_eq (C : Cl) (v : ME) (σ : En) (x : D) (y : D) (M2 : Cs) : kt_evE_dput_2 C v σ x y M2 = ((evE C v σ M2).bind (kt_evE_dput_3 C x y) : Res D) := by first | (rw [kt_evE_dput_2]; done) | rfl
@[simp] theorem kt_evE_dput_1_eq (C : Cl) (k : ME) (v : ME) (σ : En) (x : D) (M1 : Cs) : kt_evE_dput_1 C k v σ x M1 = ((evE C k σ M1).bind (kt_evE_dput_2 C v σ x) : Res D) := by first | (rw [kt_evE_dput_1]; done) | rfl
@[simp] theorem evE_dput (C : Cl) a k v σ M : evE C (ME.dput a k v) σ M = ((evE C a σ M).bind (kt_evE_dput_1 C k v σ) : Res D) := by
  rw [evE] <;> first | rfl | (cases evS C s σ M <;> rfl)
@[simp] theorem evE_dvals (C : Cl) i j σ M : evE C (ME.dvals i j) σ M = (opt (if j < σ.length then dvalsD (σ[i]?) else none) M : Res D) := by
  rw [evE] <;> first | rfl | (cases evS C s σ M <;> rfl)
def kt_evE_sset_1 (C : Cl) (x : D) (M1 : Cs) := (opt ((rd M1 x).bind ssetD) M1 : Res D)
@[simp] theorem kt_evE_sset_1_eq (C : Cl) (x : D) (M1 : Cs) : kt_evE_sset_1 C x M1 = (opt ((rd M1 x).bind ssetD) M1 : Res D) := by first | (rw [kt_evE_sset_1]; done) | rfl
@[simp] theorem evE_sset (C : Cl) a σ M : evE C (ME.sset a) σ M = ((evE C a σ M).bind (kt_evE_sset_1 C) : Res D) := by
  rw [evE] <;> first | rfl | (cases evS C s σ M <;> rfl)
def kt_evE_dzip_1 (C : Cl) (t : Bool) (b : ME) (σ : En) (x : D) (M1 : Cs) := ((evE C b σ M1).bind fun y M2 => opt (dzipD t x y) M2 : Res D)
def kt_evE_dzip_2 (C : Cl) (t : Bool) (x : D) (y : D) (M2 : Cs) := (opt (dzipD t x y) M2 : Res D)
@[simp] theorem kt_evE_dzip_2_eq (C : Cl) (t : Bool) (x : D) (y : D) (M2 : Cs) : kt_evE_dzip_2 C t x y M2 = (opt (dzipD t x y) M2 : Res D) := by first | (rw [kt_evE_dzip_2]; done) | rfl
@[simp] theorem kt_evE_dzip_1_eq (C : Cl) (t : Bool) (b : ME) (σ : En) (x : D) (M1 : Cs) : kt_evE_dzip_1 C t b σ x M1 = ((evE C b σ M1).bind (kt_evE_dzip_2 C t x) : Res D) := by first | (rw [kt_evE_dzip_1]; done) | rfl
@[simp] theorem evE_dzip (C : Cl) t a b σ M : evE C (ME.dzip t a b) σ M = ((evE C a σ M).bind (kt_evE_dzip_1 C t b σ) : Res D) := by
  rw [evE] <;> first | rfl | (cases evS C s σ M <;> rfl)
def kt_evB_not_1 (C : Cl) (b : Bool) (M1 : Cs) := (.ok (!b) M1 : Res Bool)
@[simp] theorem kt_evB_not_1_eq (C : Cl) (b : Bool) (M1 : Cs) : kt_evB_not_1 C b M1 = (.ok (!b) M1 : Res Bool) := by first | (rw [kt_evB_not_1]; done) | rfl
@[simp] theorem evB_not (C : Cl) a σ M : evB C (MB.not a) σ M = ((evB C a σ M).bind (kt_evB_not_1 C) : Res Bool) := by
  rw [evB] <;> first | rfl | (cases evS C s σ M <;> rfl)
def kt_evB_and_1 (C : Cl) (b : MB) (σ : En) (k : Bool) (M1 : Cs) := (if k = true then evB C b σ M1 else .ok false M1 : Res Bool)
@[simp] theorem kt_evB_and_1_eq (C : Cl) (b : MB) (σ : En) (k : Bool) (M1 : Cs) : kt_evB_and_1 C b σ k M1 = (if k = true then evB C b σ M1 else .ok false M1 : Res Bool) := by first | (rw [kt_evB_and_1]; done) | rfl
@[simp] theorem evB_and (C : Cl) a b σ M : evB C (MB.and a b) σ M = ((evB C a σ M).bind (kt_evB_and_1 C b σ) : Res Bool) := by
  rw [evB] <;> first | rfl | (cases evS C s σ M <;> rfl)
def kt_evB_or_1 (C : Cl) (b : MB) (σ : En) (k : Bool) (M1 : Cs) := (if k = true then .ok true M1 else evB C b σ M1 : Res Bool)
@[simp] theorem kt_evB_or_1_eq (C : Cl) (b : MB) (σ : En) (k : Bool) (M1 : Cs) : kt_evB_or_1 C b σ k M1 = (if k = true then .ok true M1 else evB C b σ M1 : Res Bool) := by first | (rw [kt_evB_or_1]; done) | rfl
@[simp] theorem evB_or (C : Cl) a b σ M : evB C (MB.or a b) σ M = ((evB C a σ M).bind (kt_evB_or_1 C b σ) : Res Bool) := by
  rw [evB] <;> first | rfl | (cases evS C s σ M <;> rfl)
def kt_evB_tru_1 (C : Cl) (x : D) (M1 : Cs) := (opt ((rd M1 x).bind truthD) M1 : Res Bool)
@[simp] theorem kt_evB_tru_1_eq (C : Cl) (x : D) (M1 : Cs) : kt_evB_tru_1 C x M1 = (opt ((rd M1 x).bind truthD) M1 : Res Bool) := by first | (rw [kt_evB_tru_1]; done) | rfl
@[simp] theorem evB_tru (C : Cl) e σ M : evB C (MB.tru e) σ M = ((evE C e σ M).bind (kt_evB_tru_1 C) : Res Bool) := by
  rw [evB] <;> first | rfl | (cases evS C s σ M <;> rfl)
@[simp] theorem evEs_nil (C : Cl) u0 M : evEs C (MEs.nil) u0 M = (.ok [] M : Res (List D)) := by
  rw [evEs] <;> first | rfl | (cases evS C s σ M <;> rfl)
def kt_evEs_cons_1 (C : Cl) (r : MEs) (σ : En) (x : D) (M1 : Cs) := ((evEs C r σ M1).bind fun xs M2 => .ok (x :: xs) M2 : Res (List D))
def kt_evEs_cons_2 (C : Cl) (x : D) (xs : List D) (M2 : Cs) := (.ok (x :: xs) M2 : Res (List D))
@[simp] theorem kt_evEs_cons_2_eq (C : Cl) (x : D) (xs : List D) (M2 : Cs) : kt_evEs_cons_2 C x xs M2 = (.ok (x :: xs) M2 : Res (List D)) := by first | (rw [kt_evEs_cons_2]; done) | rfl
@[simp] theorem kt_evEs_cons_1_eq (C : Cl) (r : MEs) (σ : En) (x : D) (M1 : Cs) : kt_evEs_cons_1 C r σ x M1 = ((evEs C r σ M1).bind (kt_evEs_cons_2 C x) : Res (List D)) := by first | (rw [kt_evEs_cons_1]; done) | rfl
@[simp] theorem evEs_cons (C : Cl) e r σ M : evEs C (MEs.cons e r) σ M = ((evE C e σ M).bind (kt_evEs_cons_1 C r σ) : Res (List D)) := by
  rw [evEs] <;> first | rfl | (cases evS C s σ M <;> rfl)
def kt_evEs_star_1 (C : Cl) (r : MEs) (σ : En) (x : D) (M1 : Cs) := ((match rd M1 x with
    | some (.tup ys) => (evEs C r σ M1).bind fun xs M2 => .ok (ys ++ xs) M2
    | some (.lst ys) => (evEs C r σ M1).bind fun xs M2 => .ok (ys ++ xs) M2
    | _ => .bad) : Res (List D))
@[simp] theorem kt_evEs_star_1_eq (C : Cl) (r : MEs) (σ : En) (x : D) (M1 : Cs) : kt_evEs_star_1 C r σ x M1 = ((match rd M1 x with
    | some (.tup ys) => (evEs C r σ M1).bind fun xs M2 => .ok (ys ++ xs) M2
    | some (.lst ys) => (evEs C r σ M1).bind fun xs M2 => .ok (ys ++ xs) M2
    | _ => .bad) : Res (List D)) := by first | (rw [kt_evEs_star_1]; done) | rfl
@[simp] theorem evEs_star (C : Cl) e r σ M : evEs C (MEs.star e r) σ M = ((evE C e σ M).bind (kt_evEs_star_1 C r σ) : Res (List D)) := by
  rw [evEs] <;> first | rfl | (cases evS C s σ M <;> rfl)
@[simp] theorem evPs_nil (C : Cl) u0 M : evPs C (MPs.nil) u0 M = (.ok ([], []) M : Res (List D × List D)) := by
  rw [evPs] <;> first | rfl | (cases evS C s σ M <;> rfl)
def kt_evPs_cons_1 (C : Cl) (v : ME) (r : MPs) (σ : En) (x : D) (M1 : Cs) := ((evE C v σ M1).bind fun y M2 => (evPs C r σ M2).bind fun p M3 => .ok (x :: p.1, y :: p.2) M3 : Res (List D × List D))
def kt_evPs_cons_2 (C : Cl) (r : MPs) (σ : En) (x : D) (y : D) (M2 : Cs) := ((evPs C r σ M2).bind fun p M3 => .ok (x :: p.1, y :: p.2) M3 : Res (List D × List D))
def kt_evPs_cons_3 (C : Cl) (x : D) (y : D) (p : List D × List D) (M3 : Cs) := (.ok (x :: p.1, y :: p.2) M3 : Res (List D × List D))
@[simp] theorem kt_evPs_cons_3_eq (C : Cl) (x : D) (y : D) (p : List D × List D) (M3 : Cs) : kt_evPs_cons_3 C x y p M3 = (.ok (x :: p.1, y :: p.2) M3 : Res (List D × List D)) := by first | (rw [kt_evPs_cons_3]; done) | rfl
@[simp] theorem kt_evPs_cons_2_eq (C : Cl) (r : MPs) (σ : En) (x : D) (y : D) (M2 : Cs) : kt_evPs_cons_2 C r σ x y M2 = ((evPs C r σ M2).bind (kt_evPs_cons_3 C x y) : Res (List D × List D)) := by first | (rw [kt_evPs_cons_2]; done) | rfl
@[simp] theorem kt_evPs_cons_1_eq (C : Cl) (v : ME) (r : MPs) (σ : En) (x : D) (M1 : Cs) : kt_evPs_cons_1 C v r σ x M1 = ((evE C v σ M1).bind (kt_evPs_cons_2 C r σ x) : Res (List D × List D)) := by first | (rw [kt_evPs_cons_1]; done) | rfl
@[simp] theorem evPs_cons (C : Cl) k v r σ M : evPs C (MPs.cons k v r) σ M = ((evE C k σ M).bind (kt_evPs_cons_1 C v r σ) : Res (List D × List D)) := by
  rw [evPs] <;> first | rfl | (cases evS C s σ M <;> rfl)
@[simp] theorem evO_nil (C : Cl) u0 M : evO C (MO.nil) u0 M = (.ok none M : Res (Option Int)) := by
  rw [evO] <;> first | rfl | (cases evS C s σ M <;> rfl)
def kt_evO_one_1 (C : Cl) (x : D) (M1 : Cs) := (opt (intD? x) M1 : Res (Option Int))
@[simp] theorem kt_evO_one_1_eq (C : Cl) (x : D) (M1 : Cs) : kt_evO_one_1 C x M1 = (opt (intD? x) M1 : Res (Option Int)) := by first | (rw [kt_evO_one_1]; done) | rfl
@[simp] theorem evO_one (C : Cl) e σ M : evO C (MO.one e) σ M = ((evE C e σ M).bind (kt_evO_one_1 C) : Res (Option Int)) := by
  rw [evO] <;> first | rfl | (cases evS C s σ M <;> rfl)
@[simp] theorem evC_nil (C : Cl) u0 M : evC C (MC.nil) u0 M = (.ok true M : Res Bool) := by
  rw [evC] <;> first | rfl | (cases evS C s σ M <;> rfl)
@[simp] theorem evC_one (C : Cl) b σ M : evC C (MC.one b) σ M = (evB C b σ M : Res Bool) := by
  rw [evC] <;> first | rfl | (cases evS C s σ M <;> rfl)
def kt_evI_seq_1 (C : Cl) (x : D) (M1 : Cs) := (opt ((itemsD M1 x).map fun xs => (xs, watch x)) M1 : Res (List D × List Nat))
@[simp] theorem kt_evI_seq_1_eq (C : Cl) (x : D) (M1 : Cs) : kt_evI_seq_1 C x M1 = (opt ((itemsD M1 x).map fun xs => (xs, watch x)) M1 : Res (List D × List Nat)) := by first | (rw [kt_evI_seq_1]; done) | rfl
@[simp] theorem evI_seq (C : Cl) e σ M : evI C (MI.seq e) σ M = ((evE C e σ M).bind (kt_evI_seq_1 C) : Res (List D × List Nat)) := by
  rw [evI] <;> first | rfl | (cases evS C s σ M <;> rfl)
def kt_evI_rng_1 (C : Cl) (b : ME) (σ : En) (x : D) (M1 : Cs) := ((evE C b σ M1).bind fun y M2 => opt ((rngD x y).map fun xs => (xs, [])) M2 : Res (List D × List Nat))
def kt_evI_rng_2 (C : Cl) (x : D) (y : D) (M2 : Cs) := (opt ((rngD x y).map fun xs => (xs, [])) M2 : Res (List D × List Nat))
@[simp] theorem kt_evI_rng_2_eq (C : Cl) (x : D) (y : D) (M2 : Cs) : kt_evI_rng_2 C x y M2 = (opt ((rngD x y).map fun xs => (xs, [])) M2 : Res (List D × List Nat)) := by first | (rw [kt_evI_rng_2]; done) | rfl
@[simp] theorem kt_evI_rng_1_eq (C : Cl) (b : ME) (σ : En) (x : D) (M1 : Cs) : kt_evI_rng_1 C b σ x M1 = ((evE C b σ M1).bind (kt_evI_rng_2 C x) : Res (List D × List Nat)) := by first | (rw [kt_evI_rng_1]; done) | rfl
@[simp] theorem evI_rng (C : Cl) a b σ M : evI C (MI.rng a b) σ M = ((evE C a σ M).bind (kt_evI_rng_1 C b σ) : Res (List D × List Nat)) := by
  rw [evI] <;> first | rfl | (cases evS C s σ M <;> rfl)
def kt_evI_enm_1 (C : Cl) (x : D) (M1 : Cs) := (opt ((itemsD M1 x).map fun xs => (enumD xs, watch x)) M1 : Res (List D × List Nat))
@[simp] theorem kt_evI_enm_1_eq (C : Cl) (x : D) (M1 : Cs) : kt_evI_enm_1 C x M1 = (opt ((itemsD M1 x).map fun xs => (enumD xs, watch x)) M1 : Res (List D × List Nat)) := by first | (rw [kt_evI_enm_1]; done) | rfl
@[simp] theorem evI_enm (C : Cl) e σ M : evI C (MI.enm e) σ M = ((evE C e σ M).bind (kt_evI_enm_1 C) : Res (List D × List Nat)) := by
  rw [evI] <;> first | rfl | (cases evS C s σ M <;> rfl)
def kt_evI_zip_1 (C : Cl) (b : ME) (σ : En) (x : D) (M1 : Cs) := ((evE C b σ M1).bind fun y M2 => opt ((itemsD M2 x).bind fun xs => if bothD (rd M2 x) (rd M2 y) then (itemsD M2 y).map fun ys => (zipD xs ys, watch x ++ watch y) else none) M2 : Res (List D × List Nat))
def kt_evI_zip_2 (C : Cl) (x : D) (y : D) (M2 : Cs) := (opt ((itemsD M2 x).bind fun xs => if bothD (rd M2 x) (rd M2 y) then (itemsD M2 y).map fun ys => (zipD xs ys, watch x ++ watch y) else none) M2 : Res (List D × List Nat))
@[simp] theorem kt_evI_zip_2_eq (C : Cl) (x : D) (y : D) (M2 : Cs) : kt_evI_zip_2 C x y M2 = (opt ((itemsD M2 x).bind fun xs => if bothD (rd M2 x) (rd M2 y) then (itemsD M2 y).map fun ys => (zipD xs ys, watch x ++ watch y) else none) M2 : Res (List D × List Nat)) := by first | (rw [kt_evI_zip_2]; done) | rfl
@[simp] theorem kt_evI_zip_1_eq (C : Cl) (b : ME) (σ : En) (x : D) (M1 : Cs) : kt_evI_zip_1 C b σ x M1 = ((evE C b σ M1).bind (kt_evI_zip_2 C x) : Res (List D × List Nat)) := by first | (rw [kt_evI_zip_1]; done) | rfl
@[simp] theorem evI_zip (C : Cl) a b σ M : evI C (MI.zip a b) σ M = ((evE C a σ M).bind (kt_evI_zip_1 C b σ) : Res (List D × List Nat)) := by
  rw [evI] <;> first | rfl | (cases evS C s σ M <;> rfl)
def kt_evI_rdn_1 (C : Cl) (x : D) (M1 : Cs) := (opt ((rdnD x).map fun xs => (xs, [])) M1 : Res (List D × List Nat))
@[simp] theorem kt_evI_rdn_1_eq (C : Cl) (x : D) (M1 : Cs) : kt_evI_rdn_1 C x M1 = (opt ((rdnD x).map fun xs => (xs, [])) M1 : Res (List D × List Nat)) := by first | (rw [kt_evI_rdn_1]; done) | rfl
@[simp] theorem evI_rdn (C : Cl) a σ M : evI C (MI.rdn a) σ M = ((evE C a σ M).bind (kt_evI_rdn_1 C) : Res (List D × List Nat)) := by
  rw [evI] <;> first | rfl | (cases evS C s σ M <;> rfl)
def kt_evI_vals_1 (C : Cl) (x : D) (M1 : Cs) := (opt ((valsD M1 x).map fun xs => (xs, watch x)) M1 : Res (List D × List Nat))
@[simp] theorem kt_evI_vals_1_eq (C : Cl) (x : D) (M1 : Cs) : kt_evI_vals_1 C x M1 = (opt ((valsD M1 x).map fun xs => (xs, watch x)) M1 : Res (List D × List Nat)) := by first | (rw [kt_evI_vals_1]; done) | rfl
@[simp] theorem evI_vals (C : Cl) e σ M : evI C (MI.vals e) σ M = ((evE C e σ M).bind (kt_evI_vals_1 C) : Res (List D × List Nat)) := by
  rw [evI] <;> first | rfl | (cases evS C s σ M <;> rfl)
@[simp] theorem evT_nm (C : Cl) i d σ M : evT C (MT.nm i) d σ M = (.ok (σ.set i (some d)) M : Res En) := by
  rw [evT] <;> first | rfl | (cases evS C s σ M <;> rfl)
@[simp] theorem evT_tp (C : Cl) ts d σ M : evT C (MT.tp ts) d σ M = ((match tupD d with
    | some xs => evTs C ts xs σ M
    | none => .bad) : Res En) := by
  rw [evT] <;> first | rfl | (cases evS C s σ M <;> rfl)
@[simp] theorem evT_sub (C : Cl) o i d σ M : evT C (MT.sub o i) d σ M = ((match evE C o σ M with
    | .ok x M1 => (match evE C i σ M1 with
      | .ok y M2 => (match x with
        | .cell n => if y.free 0 && d.free 0 then (match (rd M2 x).bind fun x' => setD x' y d with
          | some z => .ok σ (M2.set n (some z))
          | none => .bad) else .bad
        | _ => .bad)
      | _ => .bad)
    | _ => .bad) : Res En) := by
  rw [evT] <;> first | rfl | (cases evS C s σ M <;> rfl)
@[simp] theorem evTs_nil (C : Cl) ds σ M : evTs C (MTs.nil) ds σ M = (if ds.isEmpty then .ok σ M else .bad : Res En) := by
  rw [evTs] <;> first | rfl | (cases evS C s σ M <;> rfl)
@[simp] theorem evTs_cons (C : Cl) t r ds σ M : evTs C (MTs.cons t r) ds σ M = ((match consD ds with
    | some p => (evT C t p.1 σ M).bind fun σ1 M1 => evTs C r p.2 σ1 M1
    | none => .bad) : Res En) := by
  rw [evTs] <;> first | rfl | (cases evS C s σ M <;> rfl)
def kt_evS_asg_1 (C : Cl) (t : MT) (σ : En) (d : D) (M1 : Cs) := (SR.of σ (evT C t d σ M1) fun σ1 M2 => .nx σ1 M2 : SR)
def kt_evS_asg_2 (C : Cl) (σ1 : En) (M2 : Cs) := (.nx σ1 M2 : SR)
@[simp] theorem kt_evS_asg_2_eq (C : Cl) (σ1 : En) (M2 : Cs) : kt_evS_asg_2 C σ1 M2 = (.nx σ1 M2 : SR) := by first | (rw [kt_evS_asg_2]; done) | rfl
@[simp] theorem kt_evS_asg_1_eq (C : Cl) (t : MT) (σ : En) (d : D) (M1 : Cs) : kt_evS_asg_1 C t σ d M1 = (SR.of σ (evT C t d σ M1) (kt_evS_asg_2 C) : SR) := by first | (rw [kt_evS_asg_1]; done) | rfl
@[simp] theorem evS_asg (C : Cl) t e σ M : evS C (MS.asg t e) σ M = (SR.of σ (evE C e σ M) (kt_evS_asg_1 C t σ) : SR) := by
  rw [evS] <;> first | rfl | (cases evS C s σ M <;> rfl)
def kt_evS_exp_1 (C : Cl) (σ : En) (w_0 : D) (M1 : Cs) := (.nx σ M1 : SR)
@[simp] theorem kt_evS_exp_1_eq (C : Cl) (σ : En) (w_0 : D) (M1 : Cs) : kt_evS_exp_1 C σ w_0 M1 = (.nx σ M1 : SR) := by first | (rw [kt_evS_exp_1]; done) | rfl
@[simp] theorem evS_exp (C : Cl) e σ M : evS C (MS.exp e) σ M = (SR.of σ (evE C e σ M) (kt_evS_exp_1 C σ) : SR) := by
  rw [evS] <;> first | rfl | (cases evS C s σ M <;> rfl)
def kt_evS_ret_1 (C : Cl) (d : D) (M1 : Cs) := (.rt d M1 : SR)
@[simp] theorem kt_evS_ret_1_eq (C : Cl) (d : D) (M1 : Cs) : kt_evS_ret_1 C d M1 = (.rt d M1 : SR) := by first | (rw [kt_evS_ret_1]; done) | rfl
@[simp] theorem evS_ret (C : Cl) e σ M : evS C (MS.ret e) σ M = (SR.of σ (evE C e σ M) (kt_evS_ret_1 C) : SR) := by
  rw [evS] <;> first | rfl | (cases evS C s σ M <;> rfl)
def kt_evS_ite_1 (C : Cl) (a : MSs) (b : MSs) (σ : En) (k : Bool) (M1 : Cs) := (if k = true then evSs C a σ M1 else evSs C b σ M1 : SR)
@[simp] theorem kt_evS_ite_1_eq (C : Cl) (a : MSs) (b : MSs) (σ : En) (k : Bool) (M1 : Cs) : kt_evS_ite_1 C a b σ k M1 = (if k = true then evSs C a σ M1 else evSs C b σ M1 : SR) := by first | (rw [kt_evS_ite_1]; done) | rfl
@[simp] theorem evS_ite (C : Cl) c a b σ M : evS C (MS.ite c a b) σ M = (SR.of σ (evB C c σ M) (kt_evS_ite_1 C a b σ) : SR) := by
  rw [evS] <;> first | rfl | (cases evS C s σ M <;> rfl)
def kt_evS_for_1 (C : Cl) (t : MT) (b : MSs) (σ : En) (M : Cs) (ds : List D × List Nat) (M1 : Cs) := (forGo ds.2 (fun d σ M => SR.of σ (evT C t d σ M) fun σ1 M2 => evSs C b σ1 M2) ds.1 σ M1 : SR)
def kt_evS_for_2 (C : Cl) (t : MT) (b : MSs) (d : D) (σ : En) (M : Cs) := (SR.of σ (evT C t d σ M) fun σ1 M2 => evSs C b σ1 M2 : SR)
def kt_evS_for_3 (C : Cl) (b : MSs) (σ1 : En) (M2 : Cs) := (evSs C b σ1 M2 : SR)
@[simp] theorem kt_evS_for_3_eq (C : Cl) (b : MSs) (σ1 : En) (M2 : Cs) : kt_evS_for_3 C b σ1 M2 = (evSs C b σ1 M2 : SR) := by first | (rw [kt_evS_for_3]; done) | rfl
@[simp] theorem kt_evS_for_2_eq (C : Cl) (t : MT) (b : MSs) (d : D) (σ : En) (M : Cs) : kt_evS_for_2 C t b d σ M = (SR.of σ (evT C t d σ M) (kt_evS_for_3 C b) : SR) := by first | (rw [kt_evS_for_2]; done) | rfl
@[simp] theorem kt_evS_for_1_eq (C : Cl) (t : MT) (b : MSs) (σ : En) (M : Cs) (ds : List D × List Nat) (M1 : Cs) : kt_evS_for_1 C t b σ M ds M1 = (forGo ds.2 (kt_evS_for_2 C t b) ds.1 σ M1 : SR) := by first | (rw [kt_evS_for_1]; done) | rfl
@[simp] theorem evS_for (C : Cl) t it b σ M : evS C (MS.for_ t it b) σ M = (SR.of σ (evI C it σ M) (kt_evS_for_1 C t b σ M) : SR) := by
  rw [evS] <;> first | rfl | (cases evS C s σ M <;> rfl)
@[simp] theorem evS_whl (C : Cl) c b σ M : evS C (MS.whl c b) σ M = (whlGo (evB C c) (evSs C b) C.fuel σ M : SR) := by
  rw [evS] <;> first | rfl | (cases evS C s σ M <;> rfl)
def kt_evS_rse_1 (C : Cl) (c : Str) (σ : En) (xs : List D) (M1 : Cs) := (.ex (.exc c xs) σ M1 : SR)
@[simp] theorem kt_evS_rse_1_eq (C : Cl) (c : Str) (σ : En) (xs : List D) (M1 : Cs) : kt_evS_rse_1 C c σ xs M1 = (.ex (.exc c xs) σ M1 : SR) := by first | (rw [kt_evS_rse_1]; done) | rfl
@[simp] theorem evS_rse (C : Cl) c es σ M : evS C (MS.rse c es) σ M = (SR.of σ (evEs C es σ M) (kt_evS_rse_1 C c σ) : SR) := by
  rw [evS] <;> first | rfl | (cases evS C s σ M <;> rfl)
@[simp] theorem evS_brk (C : Cl) σ M : evS C (MS.brk) σ M = (.br σ M : SR) := by
  rw [evS] <;> first | rfl | (cases evS C s σ M <;> rfl)
@[simp] theorem evS_cnt (C : Cl) σ M : evS C (MS.cnt) σ M = (.ct σ M : SR) := by
  rw [evS] <;> first | rfl | (cases evS C s σ M <;> rfl)
@[simp] theorem evS_pss (C : Cl) σ M : evS C (MS.pss) σ M = (.nx σ M : SR) := by
  rw [evS] <;> first | rfl | (cases evS C s σ M <;> rfl)
@[simp] theorem evS_nev (C : Cl) u0 u1 : evS C (MS.nev) u0 u1 = (.bad : SR) := by
  rw [evS] <;> first | rfl | (cases evS C s σ M <;> rfl)
@[simp] theorem evSs_nil (C : Cl) σ M : evSs C (MSs.nil) σ M = (.nx σ M : SR) := by
  rw [evSs] <;> first | rfl | (cases evS C s σ M <;> rfl)
def seqS (C : Cl) (r : MSs) : SR → SR
  | .nx σ1 M1 => evSs C r σ1 M1
  | x => x
@[simp] theorem seqS_nx (C : Cl) (r : MSs) (σ : En) (M : Cs) : seqS C r (.nx σ M) = evSs C r σ M := by rw [seqS]
@[simp] theorem seqS_rt (C : Cl) (r : MSs) (a : D) (b : Cs) : seqS C r (.rt a b) = .rt a b := id rfl
@[simp] theorem seqS_br (C : Cl) (r : MSs) (a : En) (b : Cs) : seqS C r (.br a b) = .br a b := id rfl
@[simp] theorem seqS_ct (C : Cl) (r : MSs) (a : En) (b : Cs) : seqS C r (.ct a b) = .ct a b := id rfl
@[simp] theorem seqS_ex (C : Cl) (r : MSs) (a : D) (b : En) (c : Cs) : seqS C r (.ex a b c) = .ex a b c := id rfl
@[simp] theorem seqS_bad (C : Cl) (r : MSs) : seqS C r .bad = .bad := id rfl
@[simp] theorem evSs_cons (C : Cl) s r σ M : evSs C (MSs.cons s r) σ M = (seqS C r (evS C s σ M) : SR) := by
  rw [evSs] <;> first | rfl | (cases evS C s σ M <;> rfl)
@[simp] theorem rds_nil (M : Cs) : rds M [] = some [] := id rfl
@[simp] theorem rds_cons (M : Cs) (d : D) (ds : List D) : rds M (d :: ds) = ((rd M d).bind fun x => (rds M ds).map (x :: ·)) := by
  rw [rds]
  cases rd M d <;> cases rds M ds <;> rfl
theorem rd_at {M : Cs} {n : Nat} {d : D} (h : rd M (.cell n) = some d) : M[n]? = some (some d) := by
  rw [rd] at h
  split at h <;> simp_all
theorem rd_lt {M : Cs} {n : Nat} {d : D} (h : rd M (.cell n) = some d) : n < M.length := (List.getElem?_eq_some_iff.mp (rd_at h)).1
theorem rd_set (M : Cs) (n : Nat) (d : D) (h : n < M.length) : rd (M.set n (some d)) (.cell n) = some d := by
  simp [rd, h]
theorem rd_set_ne (M : Cs) (n m : Nat) (d : Option D) (h : n ≠ m) : rd (M.set n d) (.cell m) = rd M (.cell m) := by
  simp [rd, h]
@[simp] theorem fin_rt_int (i : Int) (M : Cs) (n : Nat) : finF false n (.rt (.int i) M) = .ok (.int i) (M.take n) := id rfl
@[simp] theorem fin_rt_bl (i : Bool) (M : Cs) (n : Nat) : finF false n (.rt (.bl i) M) = .ok (.bl i) (M.take n) := id rfl
@[simp] theorem fin_rt_keep (d : D) (M : Cs) (n : Nat) : finF true n (.rt d M) = .ok d M := id rfl
@[simp] theorem fin_rt_free (d : D) (M : Cs) (n : Nat) (h : d.free 0 = true) : finF false n (.rt d M) = .ok d (M.take n) := by
  have : d.free n = true := D.free_mono (Nat.zero_le _) d h
  simp [finF, this]
@[simp] theorem truthD_bl (b : Bool) : truthD (.bl b) = some b := id rfl
@[simp] theorem truthD_int (b : Int) : truthD (.int b) = some (b != 0) := id rfl
@[simp] theorem intD_int (b : Int) : intD [.int b] = some (.int b) := id rfl
@[simp] theorem cmp_gt (i j : Int) : cmpD .Gt (.int i) (.int j) = some (decide (j < i)) := id rfl
@[simp] theorem cmp_lt (i j : Int) : cmpD .Lt (.int i) (.int j) = some (decide (i < j)) := id rfl
@[simp] theorem cmp_ge (i j : Int) : cmpD .GtE (.int i) (.int j) = some (decide (j ≤ i)) := id rfl
@[simp] theorem cmp_le (i j : Int) : cmpD .LtE (.int i) (.int j) = some (decide (i ≤ j)) := id rfl
@[simp] theorem cmp_eq_int (i j : Int) : cmpD .Eq (.int i) (.int j) = some (decide (i = j)) := by simp [cmpD]
@[simp] theorem cmp_ne_int (i j : Int) : cmpD .NotEq (.int i) (.int j) = some (!decide (i = j)) := by simp [cmpD]
@[simp] theorem idx_tup (xs : List D) (i : Int) : idxD (.tup xs) (.int i) = L2.atI xs i := id rfl
@[simp] theorem idx_lst (xs : List D) (i : Int) : idxD (.lst xs) (.int i) = L2.atI xs i := id rfl
@[simp] theorem tupD_tup (xs : List D) : tupD (.tup xs) = some xs := id rfl
@[simp] theorem tupD_lst (xs : List D) : tupD (.lst xs) = some xs := id rfl
@[simp] theorem consD_cons (x : D) (xs : List D) : consD (x :: xs) = some (x, xs) := id rfl
@[simp] theorem blv_len (xs : List D) : bltD .len xs = lenD xs := id rfl
@[simp] theorem blv_int (xs : List D) : bltD .int xs = intD xs := id rfl
@[simp] theorem blv_abs (xs : List D) : bltD .abs xs = absD xs := id rfl
@[simp] theorem blv_max (xs : List D) : bltD .max xs = maxD xs := id rfl
@[simp] theorem blv_min (xs : List D) : bltD .min xs = minD xs := id rfl
@[simp] theorem blv_all (xs : List D) : bltD .all xs = allD xs := id rfl
@[simp] theorem blv_any (xs : List D) : bltD .any xs = anyD xs := id rfl
@[simp] theorem blv_sorted (xs : List D) : bltD .sorted xs = sortedD xs := id rfl
@[simp] theorem blv_list (xs : List D) : bltD .list xs = listD xs := id rfl
@[simp] theorem blv_tuple (xs : List D) : bltD .tuple xs = tupleD xs := id rfl
@[simp] theorem blv_repr (xs : List D) : bltD .repr xs = reprD xs := id rfl
@[simp] theorem blv_divmod (xs : List D) : bltD .divmod xs = divmodD xs := id rfl
@[simp] theorem len_tup (xs : List D) : lenD [.tup xs] = some (.int xs.length) := id rfl
@[simp] theorem len_lst (xs : List D) : lenD [.lst xs] = some (.int xs.length) := id rfl
@[simp] theorem len_scr (xs : List Int) : lenD [.scr xs] = some (.int xs.length) := id rfl
@[simp] theorem free_int (n : Nat) (i : Int) : D.free n (.int i) = true := id rfl
@[simp] theorem free_bl (n : Nat) (i : Bool) : D.free n (.bl i) = true := id rfl
@[simp] theorem free_non (n : Nat) : D.free n .non = true := id rfl
@[simp] theorem permD_nil (xs : List D) : permD [] xs = xs := id rfl
end Mp

/-! Loops and list comprehensions as folds and maps. -/
namespace Mp
open PySem
theorem forGo_fold {α β : Type} {ws : List Nat} {step : D → En → Cs → SR} {M : Cs} (g : α → D) (R : β → En → Prop) (f : β → α → β) :
    ∀ (xs : List α) (b : β) (σ : En), (∀ a ∈ xs, ∀ b σ, R b σ → ∃ σ', step (g a) σ M = .nx σ' M ∧ R (f b a) σ') → R b σ → ∃ σ', forGo ws step (xs.map g) σ M = .nx σ' M ∧ R (xs.foldl f b) σ'
  | [], b, σ, _, r => ⟨σ, rfl, r⟩
  | x :: xs, b, σ, h, r => by
    obtain ⟨σ1, e1, r1⟩ := h x List.mem_cons_self b σ r
    obtain ⟨σ2, e2, r2⟩ := forGo_fold g R f xs (f b x) σ1 (fun a ha => h a (List.mem_cons_of_mem _ ha)) r1
    refine ⟨σ2, ?_, r2⟩
    rw [List.map_cons, forGo, e1]
    simp only
    rw [if_pos (same_self _ _), e2]
/-- 0, 1, .. (named, so that the kernel need not look into it) -/
def intsD (n : Nat) : List D := (List.range n).map fun i : Nat => .int (i : Int)
/-- counting loops -/
theorem forGo_cnt {ws : List Nat} {step : D → En → Cs → SR} {M : Cs} (g : Nat → D) (R : Nat → En → Prop) (n : Nat) (h : ∀ i, i < n → ∀ σ, R i σ → ∃ σ', step (g i) σ M = .nx σ' M ∧ R (i + 1) σ') :
    ∀ (m j : Nat) (σ : En), j + m = n → R j σ → ∃ σ', forGo ws step ((List.range' j m).map g) σ M = .nx σ' M ∧ R n σ'
  | 0, j, σ, e, r => ⟨σ, rfl, by rw [← e]; exact r⟩
  | m + 1, j, σ, e, r => by
    obtain ⟨σ1, e1, r1⟩ := h j (by omega) σ r
    obtain ⟨σ2, e2, r2⟩ := forGo_cnt g R n h m (j + 1) σ1 (by omega) r1
    refine ⟨σ2, ?_, r2⟩
    rw [List.range'_succ, List.map_cons, forGo, e1]
    simp only
    rw [if_pos (same_self _ _), e2]
theorem forGo_range {ws : List Nat} {step : D → En → Cs → SR} {M : Cs} (g : Nat → D) (R : Nat → En → Prop) (n : Nat) (σ : En) (h : ∀ i, i < n → ∀ σ, R i σ → ∃ σ', step (g i) σ M = .nx σ' M ∧ R (i + 1) σ') (h0 : R 0 σ) :
    ∃ σ', forGo ws step ((List.range n).map g) σ M = .nx σ' M ∧ R n σ' := by
  rw [List.range_eq_range']
  exact forGo_cnt g R n h n 0 σ (by omega) h0
theorem forGo_ints {ws : List Nat} {step : D → En → Cs → SR} {M : Cs} (R : Nat → En → Prop) (n : Nat) (σ : En) (h : ∀ i : Nat, i < n → ∀ σ, R i σ → ∃ σ', step (.int (i : Int)) σ M = .nx σ' M ∧ R (i + 1) σ') (h0 : R 0 σ) :
    ∃ σ', forGo ws step (intsD n) σ M = .nx σ' M ∧ R n σ' := forGo_range (fun i : Nat => .int (i : Int)) R n σ h h0
/-- a list comprehension whose steps change nothing -/
theorem lcGo_map {α : Type} {ws : List Nat} {step : D → Cs → Res (List D)} {M : Cs} (g : α → D) (f : α → List D) (xs : List α) (h : ∀ a ∈ xs, step (g a) M = .ok (f a) M) (hl : (xs.flatMap f).length ≤ sizeLine) :
    lcGo ws step (xs.map g) [] M = .ok (xs.flatMap f) M := by
  have key : ∀ (xs : List α) (acc : List D), (∀ a ∈ xs, step (g a) M = .ok (f a) M) → acc.length + (xs.flatMap f).length ≤ sizeLine → lcGo ws step (xs.map g) acc M = .ok (acc ++ xs.flatMap f) M := fun xs => by
    induction xs with
    | nil => intro acc _ _; rw [List.map_nil, lcGo]; simp
    | cons x xs ih =>
      intro acc h hl
      rw [List.flatMap_cons, List.length_append] at hl
      rw [List.map_cons, lcGo, h x List.mem_cons_self]
      simp only
      rw [if_pos (by simp [same]; omega), ih _ (fun a ha => h a (List.mem_cons_of_mem _ ha)) (by rw [List.length_append]; omega)]
      simp
  have := key xs [] h (by simpa using hl)
  simpa using this
@[simp] theorem wip_nil (σ : En) : wip σ [] = σ := id rfl
@[simp] theorem wip_cons (σ : En) (v : Nat) (vs : List Nat) : wip σ (v :: vs) = (wip σ vs).set v none := id rfl
@[simp] theorem same_me (ws : List Nat) (M : Cs) : same ws M M = true := by simp [same]
/-- a row of ints -/
def T (xs : List Int) : D := .tup (xs.map .int)
@[simp] theorem rd_T (M : Cs) (xs : List Int) : rd M (T xs) = some (T xs) := id rfl
theorem rng0 (n : Nat) (h : n < 2 ^ 62) : rngD (.int 0) (.int n) = some (intsD n) := by
  have h2 : (n : Int) < 2 ^ 62 := by exact_mod_cast h
  have h1 : (-(2 ^ 62) : Int) ≤ n := by omega
  simp only [rngD]
  rw [if_pos (by simp only [Bool.and_eq_true, decide_eq_true_eq]; omega)]
  simp [intsD]
theorem rng1 (n : Int) (h : -(2 ^ 62) ≤ n) (h2 : n < 2 ^ 62) : rngD (.int 0) (.int n) = some (intsD n.toNat) := by
  simp only [rngD]
  rw [if_pos (by simp only [Bool.and_eq_true, decide_eq_true_eq]; omega)]
  simp [intsD]
@[simp] theorem small3 : (3 ≤ sizeLine) = True := by simp [sizeLine]
@[simp] theorem small2 : (2 ≤ sizeLine) = True := by simp [sizeLine]
@[simp] theorem small1 : (1 ≤ sizeLine) = True := by simp [sizeLine]
@[simp] theorem small0 : (0 ≤ sizeLine) = True := by simp
theorem small {n : Nat} (h : n ≤ 16777216) : n ≤ sizeLine := h
@[simp] theorem itemsD_lst (M : Cs) (xs : List D) : itemsD M (.lst xs) = some xs := id rfl
@[simp] theorem itemsD_tup (M : Cs) (xs : List D) : itemsD M (.tup xs) = some xs := id rfl
end Mp

/-! Rows of ints, pairs, comparisons, sums, sorting: for simp. -/
namespace Mp
open PySem
theorem flat3 {α β : Type} (xs : List α) (f : α → List β) (k : Nat) (h : ∀ a ∈ xs, (f a).length = k) : (xs.flatMap f).length = xs.length * k := by
  induction xs with
  | nil => simp
  | cons x xs ih =>
    rw [List.flatMap_cons, List.length_append, ih (fun a ha => h a (List.mem_cons_of_mem _ ha)), h x List.mem_cons_self, List.length_cons, Nat.add_mul]
    omega
@[simp] theorem clean_int (n : Nat) (i : Int) : clean n (.int i) = true := by cases n <;> simp [clean]
@[simp] theorem clean_non (n : Nat) : clean n .non = true := by cases n <;> simp [clean]
@[simp] theorem clean_tup (n : Nat) (xs : List D) : clean (n + 1) (.tup xs) = xs.all (clean n) := by simp [clean]
@[simp] theorem clean_lst (n : Nat) (xs : List D) : clean (n + 1) (.lst xs) = xs.all (clean n) := by simp [clean]
@[simp] theorem clean_T (n : Nat) (xs : List Int) : clean (n + 1) (T xs) = true := by simp [T]
theorem T_inj {xs ys : List Int} : T xs = T ys ↔ xs = ys := by
  constructor
  · intro h
    simp only [T, D.tup.injEq] at h
    exact (List.map_inj_right (fun a b e => by simpa using e)).mp h
  · rintro rfl; rfl
@[simp] theorem T_eq (xs ys : List Int) : (T xs = T ys) = (xs = ys) := propext T_inj
@[simp] theorem sh_T (xs : List Int) : sh (T xs) = true := sh_lvl (n := 1) (clean_lvl 1 _ (clean_T 0 xs)) (by omega)
theorem sh_clean {n : Nat} {d : D} (h : clean n d = true) (hn : n ≤ 60) : sh d = true := sh_lvl (clean_lvl n d h) hn
@[simp] theorem cmp_eq_T (a b : List Int) : cmpD .Eq (T a) (T b) = some (decide (a = b)) := by
  simp [cmpD, eqD_dec (clean_T 0 a) (clean_T 0 b)]
@[simp] theorem cmp_ne_T (a b : List Int) : cmpD .NotEq (T a) (T b) = some (!decide (a = b)) := by
  simp [cmpD, eqD_dec (clean_T 0 a) (clean_T 0 b)]
theorem cmp_eq_c (n : Nat) {a b : D} (ha : clean n a = true) (hb : clean n b = true) (hn : n ≤ 60) : cmpD .Eq a b = some (decide (a = b)) := by
  simp [cmpD, eqD_dec ha hb, sh_clean ha hn, sh_clean hb hn]
theorem cmp_ne_c (n : Nat) {a b : D} (ha : clean n a = true) (hb : clean n b = true) (hn : n ≤ 60) : cmpD .NotEq a b = some (!decide (a = b)) := by
  simp [cmpD, eqD_dec ha hb, sh_clean ha hn, sh_clean hb hn]
theorem memD_c (n : Nat) {x : D} {xs : List D} (hx : clean n x = true) (h : xs.all (clean n) = true) : memD x xs = decide (x ∈ xs) := by
  rw [memD, Bool.eq_iff_iff]
  simp only [List.any_eq_true, decide_eq_true_eq]
  rw [List.all_eq_true] at h
  constructor
  · rintro ⟨y, hy, e⟩
    rw [eqD_dec (h y hy) hx] at e
    simp only [decide_eq_true_eq] at e
    exact e ▸ hy
  · intro hm
    exact ⟨x, hm, by rw [eqD_dec hx hx]; simp⟩
theorem cmp_in_tup (n : Nat) {x : D} {xs : List D} (hx : clean n x = true) (h : xs.all (clean n) = true) (hn : n ≤ 50) : cmpD .In x (.tup xs) = some (decide (x ∈ xs)) := by
  have h1 : clean (n + 1) (.tup xs) = true := by simpa [clean] using h
  simp [cmpD, sh_clean hx (by omega), sh_clean h1 (by omega), memD_c n hx h]
theorem cmp_in_lst (n : Nat) {x : D} {xs : List D} (hx : clean n x = true) (h : xs.all (clean n) = true) (hn : n ≤ 50) : cmpD .In x (.lst xs) = some (decide (x ∈ xs)) := by
  have h1 : clean (n + 1) (.lst xs) = true := by simpa [clean] using h
  simp [cmpD, sh_clean hx (by omega), sh_clean h1 (by omega), memD_c n hx h]
theorem cmp_ni_tup (n : Nat) {x : D} {xs : List D} (hx : clean n x = true) (h : xs.all (clean n) = true) (hn : n ≤ 50) : cmpD .NotIn x (.tup xs) = some (!decide (x ∈ xs)) := by
  have h1 : clean (n + 1) (.tup xs) = true := by simpa [clean] using h
  simp [cmpD, sh_clean hx (by omega), sh_clean h1 (by omega), memD_c n hx h]
theorem cmp_ni_lst (n : Nat) {x : D} {xs : List D} (hx : clean n x = true) (h : xs.all (clean n) = true) (hn : n ≤ 50) : cmpD .NotIn x (.lst xs) = some (!decide (x ∈ xs)) := by
  have h1 : clean (n + 1) (.lst xs) = true := by simpa [clean] using h
  simp [cmpD, sh_clean hx (by omega), sh_clean h1 (by omega), memD_c n hx h]
@[simp] theorem memI (x : Int) (xs : List Int) : (D.int x ∈ xs.map D.int) = (x ∈ xs) := by simp
@[simp] theorem cmp_in_T (x : Int) (xs : List Int) : cmpD .In (.int x) (T xs) = some (decide (x ∈ xs)) := by
  rw [T, cmp_in_tup 0 (by simp) (by simp) (by omega)]; simp
@[simp] theorem cmp_ni_T (x : Int) (xs : List Int) : cmpD .NotIn (.int x) (T xs) = some (!decide (x ∈ xs)) := by
  rw [T, cmp_ni_tup 0 (by simp) (by simp) (by omega)]; simp
@[simp] theorem cmp_in_L (x : Int) (xs : List Int) : cmpD .In (.int x) (.lst (xs.map .int)) = some (decide (x ∈ xs)) := by
  rw [cmp_in_lst 0 (by simp) (by simp) (by omega)]; simp
@[simp] theorem cmp_in_2 (x a b : Int) : cmpD .In (.int x) (.tup [.int a, .int b]) = some (decide (x = a ∨ x = b)) := by
  rw [cmp_in_tup 0 (by simp) (by simp) (by omega)]; simp
@[simp] theorem cmp_ni_2 (x a b : Int) : cmpD .NotIn (.int x) (.tup [.int a, .int b]) = some (!decide (x = a ∨ x = b)) := by
  rw [cmp_ni_tup 0 (by simp) (by simp) (by omega)]; simp
@[simp] theorem itemsD_T (M : Cs) (xs : List Int) : itemsD M (T xs) = some (xs.map .int) := id rfl
@[simp] theorem len_T (xs : List Int) : lenD [T xs] = some (.int xs.length) := by simp [T, lenD]
@[simp] theorem isa_T (xs : List Int) : isaD (T xs) .tuple = some true := id rfl
@[simp] theorem idx_T (xs : List Int) (i : Int) : idxD (T xs) (.int i) = (L2.atI xs i).map .int := by
  simp only [T, idxD, L2.atI, List.length_map]
  cases L2.ixN xs.length i <;> simp
@[simp] theorem atI0 {α : Type} (x : α) (xs : List α) : L2.atI (x :: xs) 0 = some x := by
  simp [L2.atI, L2.ixN]
@[simp] theorem atI1 {α : Type} (x y : α) (xs : List α) : L2.atI (x :: y :: xs) 1 = some y := by
  have h : (1 : Int) < ↑xs.length + 1 + 1 := by omega
  simp [L2.atI, L2.ixN, h]
@[simp] theorem atI2 {α : Type} (x y z : α) (xs : List α) : L2.atI (x :: y :: z :: xs) 2 = some z := by
  have h : (2 : Int) < ↑xs.length + 1 + 1 + 1 := by omega
  simp [L2.atI, L2.ixN, h]
theorem atI_nat {α : Type} (xs : List α) (i : Nat) (h : i < xs.length) : L2.atI xs (i : Int) = xs[i]? := by
  simp [L2.atI, L2.ixN, h]
theorem atI_get {α : Type} (xs : List α) (i : Nat) (h : i < xs.length) : L2.atI xs (i : Int) = some (xs[i]'h) := by
  rw [atI_nat xs i h, List.getElem?_eq_getElem h]
@[simp] theorem free_T (n : Nat) (xs : List Int) : D.free n (T xs) = true := by
  simp only [T, D.free]
  induction xs with
  | nil => simp [frees]
  | cons x xs ih => simp [frees, ih]
theorem frees_map {α : Type} (n : Nat) (f : α → D) (xs : List α) (h : ∀ a ∈ xs, (f a).free n = true) : frees n (xs.map f) = true := by
  induction xs with
  | nil => simp [frees]
  | cons x xs ih =>
    simp only [List.map_cons, frees, Bool.and_eq_true]
    exact ⟨h x List.mem_cons_self, ih fun a ha => h a (List.mem_cons_of_mem _ ha)⟩
@[simp] theorem frees_all {α : Type} (n : Nat) (f : α → D) (xs : List α) : frees n (xs.map f) = xs.all fun a => (f a).free n := by
  induction xs with
  | nil => simp [frees]
  | cons x xs ih => simp [frees, ih]
@[simp] theorem frees_nil (n : Nat) : frees n [] = true := by simp [frees]
@[simp] theorem frees_cons (n : Nat) (x : D) (xs : List D) : frees n (x :: xs) = (x.free n && frees n xs) := by simp [frees]
@[simp] theorem free_tup (n : Nat) (xs : List D) : D.free n (.tup xs) = frees n xs := by simp [D.free]
@[simp] theorem free_lst (n : Nat) (xs : List D) : D.free n (.lst xs) = frees n xs := by simp [D.free]
@[simp] theorem free_str (n : Nat) (x : Str) : D.free n (.str x) = true := by simp [D.free]
@[simp] theorem truthD_lst (xs : List D) : truthD (.lst xs) = some (!xs.isEmpty) := id rfl
@[simp] theorem truthD_tup (xs : List D) : truthD (.tup xs) = some (!xs.isEmpty) := id rfl
/-! ### sums of bools -/
theorem bls_map {α : Type} (p : α → Bool) (xs : List α) : bls? (xs.map fun a => .bl (p a)) = some (xs.map p) := by
  induction xs with
  | nil => rfl
  | cons x xs ih => simp [bls?, ih]
@[simp] theorem all_map {α : Type} (p : α → Bool) (xs : List α) : allD [.lst (xs.map fun a => .bl (p a))] = some (.bl (xs.all p)) := by
  rw [allD, bls_map]; simp [List.all_map, Function.comp_def]
@[simp] theorem any_map {α : Type} (p : α → Bool) (xs : List α) : anyD [.lst (xs.map fun a => .bl (p a))] = some (.bl (xs.any p)) := by
  rw [anyD, bls_map]; simp [List.any_map, Function.comp_def]
@[simp] theorem all_two (a b : Bool) : allD [.lst [.bl a, .bl b]] = some (.bl (a && b)) := by simp [allD, bls?]
@[simp] theorem any_two (a b : Bool) : anyD [.lst [.bl a, .bl b]] = some (.bl (a || b)) := by simp [anyD, bls?]
/-- a loop, what it has come to told by the part that is behind -/
theorem forGo_split {α : Type} {ws : List Nat} {step : D → En → Cs → SR} {M : Cs} (g : α → D) (xs : List α) (R : List α → En → Prop) (σ : En) (h : ∀ don a todo σ, xs = don ++ a :: todo → R don σ → ∃ σ', step (g a) σ M = .nx σ' M ∧ R (don ++ [a]) σ') (h0 : R [] σ) :
    ∃ σ', forGo ws step (xs.map g) σ M = .nx σ' M ∧ R xs σ' := by
  have key : ∀ (todo don : List α) (σ : En), xs = don ++ todo → R don σ → ∃ σ', forGo ws step (todo.map g) σ M = .nx σ' M ∧ R xs σ' := fun todo => by
    induction todo with
    | nil =>
      intro don σ e r
      rw [List.append_nil] at e
      exact ⟨σ, rfl, e ▸ r⟩
    | cons a todo ih =>
      intro don σ e r
      obtain ⟨σ1, e1, r1⟩ := h don a todo σ e r
      obtain ⟨σ2, e2, r2⟩ := ih (don ++ [a]) σ1 (by simp [e]) r1
      refine ⟨σ2, ?_, r2⟩
      rw [List.map_cons, forGo, e1]
      simp only
      rw [if_pos (same_self _ _), e2]
  exact key xs [] σ rfl h0
@[simp] theorem rd_sg (M : Cs) (a : D) : rd (M ++ [some a]) (.cell M.length) = some a := by simp [rd]
@[simp] theorem set_sg (M : Cs) (a b : Option D) : (M ++ [a]).set M.length b = M ++ [b] := by simp
/-! ### a loop over a row that is told -/
def fgK (ws : List Nat) (step : D → En → Cs → SR) (ds : List D) (M : Cs) : SR → SR
  | .nx σ1 M1 => if same ws M M1 then forGo ws step ds σ1 M1 else .bad
  | .ct σ1 M1 => if same ws M M1 then forGo ws step ds σ1 M1 else .bad
  | .br σ1 M1 => .nx σ1 M1
  | r => r
theorem forGo_c (ws : List Nat) (step : D → En → Cs → SR) (d : D) (ds : List D) (σ : En) (M : Cs) : forGo ws step (d :: ds) σ M = fgK ws step ds M (step d σ M) := by
  rw [forGo]
  cases step d σ M <;> exact id rfl
theorem forGo_n (ws : List Nat) (step : D → En → Cs → SR) (σ : En) (M : Cs) : forGo ws step [] σ M = .nx σ M := by rw [forGo]
@[simp] theorem fgK_nx (ws : List Nat) (step : D → En → Cs → SR) (ds : List D) (M M1 : Cs) (σ1 : En) (h : same ws M M1 = true) : fgK ws step ds M (.nx σ1 M1) = forGo ws step ds σ1 M1 := by
  rw [fgK, if_pos h]
@[simp] theorem fgK_ct (ws : List Nat) (step : D → En → Cs → SR) (ds : List D) (M M1 : Cs) (σ1 : En) (h : same ws M M1 = true) : fgK ws step ds M (.ct σ1 M1) = forGo ws step ds σ1 M1 := by
  rw [fgK, if_pos h]
@[simp] theorem fgK_br (ws : List Nat) (step : D → En → Cs → SR) (ds : List D) (M M1 : Cs) (σ1 : En) : fgK ws step ds M (.br σ1 M1) = .nx σ1 M1 := by rw [fgK]
@[simp] theorem fgK_rt (ws : List Nat) (step : D → En → Cs → SR) (ds : List D) (M M1 : Cs) (d : D) : fgK ws step ds M (.rt d M1) = .rt d M1 := id rfl
@[simp] theorem fgK_ex (ws : List Nat) (step : D → En → Cs → SR) (ds : List D) (M M1 : Cs) (d : D) (σ1 : En) : fgK ws step ds M (.ex d σ1 M1) = .ex d σ1 M1 := id rfl
@[simp] theorem cmp_is_non (a : D) : cmpD .Is a .non = some (isNonD a) := by cases a <;> exact id rfl
@[simp] theorem cmp_isnot_non (a : D) : cmpD .IsNot a .non = some (!isNonD a) := by cases a <;> exact id rfl
@[simp] theorem isNonD_non : isNonD .non = true := id rfl
@[simp] theorem isNonD_int (i : Int) : isNonD (.int i) = false := id rfl
@[simp] theorem isNonD_bl (i : Bool) : isNonD (.bl i) = false := id rfl
@[simp] theorem isNonD_T (i : List Int) : isNonD (T i) = false := id rfl
@[simp] theorem isNonD_tup (i : List D) : isNonD (.tup i) = false := id rfl
@[simp] theorem isNonD_lst (i : List D) : isNonD (.lst i) = false := id rfl
@[simp] theorem isNonD_str (i : Str) : isNonD (.str i) = false := id rfl
@[simp] theorem watch_tup (xs : List D) : watch (.tup xs) = [] := id rfl
@[simp] theorem watch_lst (xs : List D) : watch (.lst xs) = [] := id rfl
@[simp] theorem watch_T (xs : List Int) : watch (T xs) = [] := id rfl
@[simp] theorem okL_lst (xs : List D) : okL (some (.lst xs)) = true := id rfl
@[simp] theorem lt0 : (0 < sizeLine) = True := by simp [sizeLine]
@[simp] theorem lt1 : (1 < sizeLine) = True := by simp [sizeLine]
@[simp] theorem lt2 : (2 < sizeLine) = True := by simp [sizeLine]
@[simp] theorem lt3 : (3 < sizeLine) = True := by simp [sizeLine]
@[simp] theorem le4 : (4 ≤ sizeLine) = True := by simp [sizeLine]
@[simp] theorem le5 : (5 ≤ sizeLine) = True := by simp [sizeLine]
@[simp] theorem le6 : (6 ≤ sizeLine) = True := by simp [sizeLine]
@[simp] theorem le7 : (7 ≤ sizeLine) = True := by simp [sizeLine]
@[simp] theorem le8 : (8 ≤ sizeLine) = True := by simp [sizeLine]
@[simp] theorem mut_append (xs : List D) (y : D) (h : xs.length < sizeLine) : mutD .append (.lst xs) [y] = some (.lst (xs ++ [y]), .non) := by
  rw [mutD, appendD, if_pos h]
@[simp] theorem mut_pop (x : D) (ys : List D) : mutD .pop x ys = popD x ys := id rfl
/-- a comprehension over a row that is told -/
def lcK (ws : List Nat) (step : D → Cs → Res (List D)) (ds acc : List D) (M : Cs) : Res (List D) → Res (List D)
  | .ok xs M1 => if acc.length + xs.length ≤ sizeLine && same ws M M1 then lcGo ws step ds (acc ++ xs) M1 else .bad
  | _ => .bad
theorem lcGo_c (ws : List Nat) (step : D → Cs → Res (List D)) (d : D) (ds acc : List D) (M : Cs) : lcGo ws step (d :: ds) acc M = lcK ws step ds acc M (step d M) := by
  rw [lcGo]
  cases step d M <;> exact id rfl
theorem lcGo_n (ws : List Nat) (step : D → Cs → Res (List D)) (acc : List D) (M : Cs) : lcGo ws step [] acc M = .ok acc M := by rw [lcGo]
@[simp] theorem lcK_ok (ws : List Nat) (step : D → Cs → Res (List D)) (ds acc xs : List D) (M M1 : Cs) (h : acc.length + xs.length ≤ sizeLine) (h2 : same ws M M1 = true) : lcK ws step ds acc M (.ok xs M1) = lcGo ws step ds (acc ++ xs) M1 := by
  rw [lcK, if_pos (by simp [h, h2])]
/-! ### list comprehensions with one value a turn -/
theorem lcGo_one {α : Type} {ws : List Nat} {step : D → Cs → Res (List D)} {M : Cs} (g : α → D) (f : α → D) (xs : List α) (h : ∀ a ∈ xs, step (g a) M = .ok [f a] M) (hl : xs.length ≤ sizeLine) :
    lcGo ws step (xs.map g) [] M = .ok (xs.map f) M := by
  rw [lcGo_map g (fun a => [f a]) xs h (by rw [flat3 _ _ 1 (fun _ _ => rfl)]; omega)]
  congr 1
  clear h hl
  induction xs with
  | nil => rfl
  | cons x xs ih => rw [List.flatMap_cons, ih]; rfl
theorem lcGo_if {α : Type} {ws : List Nat} {step : D → Cs → Res (List D)} {M : Cs} (g : α → D) (p : α → Bool) (f : α → D) (xs : List α) (h : ∀ a ∈ xs, step (g a) M = .ok (if p a = true then [f a] else []) M) (hl : xs.length ≤ sizeLine) :
    lcGo ws step (xs.map g) [] M = .ok ((xs.filter p).map f) M := by
  have e : (xs.flatMap fun a => if p a = true then [f a] else []) = (xs.filter p).map f := by
    clear h hl
    induction xs with
    | nil => rfl
    | cons x xs ih =>
      rw [List.flatMap_cons, ih]
      cases hx : p x <;> simp [List.filter_cons, hx]
  rw [lcGo_map g (fun a => if p a = true then [f a] else []) xs h, e]
  rw [e, List.length_map]
  exact Nat.le_trans (List.length_filter_le _ _) hl
/-- a comprehension whose steps change cells, each step giving the same -/
theorem lcGo_any {α : Type} {step : D → Cs → Res (List D)} (g : α → D) (v : D) (xs : List α) (M : Cs) (h : ∀ a ∈ xs, ∀ M, ∃ M', step (g a) M = .ok [v] M') (hl : xs.length ≤ sizeLine) :
    ∃ M', lcGo [] step (xs.map g) [] M = .ok (xs.map fun _ => v) M' := by
  have key : ∀ (xs : List α) (acc : List D) (M : Cs), (∀ a ∈ xs, ∀ M, ∃ M', step (g a) M = .ok [v] M') → acc.length + xs.length ≤ sizeLine → ∃ M', lcGo [] step (xs.map g) acc M = .ok (acc ++ xs.map fun _ => v) M' := fun xs => by
    induction xs with
    | nil => intro acc M _ _; exact ⟨M, by rw [List.map_nil, lcGo]; simp⟩
    | cons x xs ih =>
      intro acc M h hl
      simp only [List.length_cons] at hl
      obtain ⟨M1, e1⟩ := h x List.mem_cons_self M
      obtain ⟨M2, e2⟩ := ih (acc ++ [v]) M1 (fun a ha => h a (List.mem_cons_of_mem _ ha)) (by simp; omega)
      refine ⟨M2, ?_⟩
      rw [List.map_cons, lcGo, e1]
      simp only
      rw [if_pos (by simp; omega), e2]
      simp
  obtain ⟨M', e⟩ := key xs [] M h (by simpa using hl)
  exact ⟨M', by simpa using e⟩
@[simp] theorem permD_one (x : D) : permD [0] [x] = [x] := id rfl
theorem mul_lst2 (x : D) : binD .Mult (.lst [x]) (.int 2) = some (.lst [x, x]) := by simp [binD, sizeLine, List.replicate]
/-! ### sorting rows -/
theorem pys_map {α : Type} (f : α → D) (xs : List α) : pys (xs.map f) = xs.map fun a => (f a).py := by
  induction xs with
  | nil => simp [pys]
  | cons x xs ih => simp [pys, ih]
theorem py_T (xs : List Int) : (T xs).py = .tuple (xs.map .int) := by
  rw [T, D.py, pys_map]
  simp [D.py]
theorem ltD_T (a b : List Int) : W.dataLt (T a).py (T b).py = decide (a < b) := by
  rw [py_T, py_T, W.dataLt_tuple]
  exact W.dataLt_ints a b
theorem alikeAll_ints : ∀ xs ys : List Int, W.alikeAll (xs.map .int) (ys.map .int) = true
  | [], _ => by simp [W.alikeAll]
  | _ :: _, [] => by simp [W.alikeAll]
  | x :: xs, y :: ys => by
    simp only [List.map_cons, W.alikeAll, W.alike, Bool.true_and]
    exact alikeAll_ints xs ys
theorem alike_T (a b : List Int) : W.alike (T a).py (T b).py = true := by
  rw [py_T, py_T, W.alike]
  exact alikeAll_ints a b
@[simp] theorem cmp_lt_T (a b : List Int) : cmpD .Lt (T a) (T b) = some (decide (a < b)) := by
  have h1 := sh_T a
  have h2 := sh_T b
  have h3 := alike_T a b
  have h4 := ltD_T a b
  simp only [T] at *
  simp [cmpD, h1, h2, h3, h4]
/-- rows, sorted -/
def sortR (xs : List (List Int)) : List (List Int) := xs.mergeSort fun a b => decide (a ≤ b)
theorem sortD_Ts (xs : List (List Int)) : sortD (xs.map T) = (sortR xs).map T := by
  rw [sortD, sortR, List.map_mergeSort (s := W.dataLe false D.py)]
  intro a _ b _
  rw [W.dataLe_eq]
  simp only [cond_false, ltD_T]
  by_cases h : b < a
  · have : ¬ a ≤ b := fun r => List.not_lt.mpr r h
    simp [h, this]
  · have : a ≤ b := List.not_lt.mp h
    simp [h, this]
@[simp] theorem sorted_Ts (xs : List (List Int)) (h : xs.length ≤ sizeLine) : sortedD [.lst (xs.map T)] = some (.lst ((sortR xs).map T)) := by
  have : sortOk (xs.map T) = true := by
    simp only [sortOk, datOk, shs, alikes, List.all_map, Bool.and_eq_true, List.all_eq_true, decide_eq_true_eq, List.length_map, Function.comp_apply]
    refine ⟨⟨fun _ _ => sh_T _, fun a _ b _ => alike_T a b, fun _ _ => rfl⟩, h⟩
  rw [sortedD, if_pos this, sortD_Ts]
theorem sortR_perm (xs : List (List Int)) : (sortR xs).Perm xs := List.mergeSort_perm _ _
theorem sortR_le (xs : List (List Int)) : (sortR xs).Pairwise (· ≤ ·) := by
  have := List.pairwise_mergeSort (le := fun a b : List Int => decide (a ≤ b)) (fun a b c h1 h2 => by simp at *; exact List.le_trans h1 h2) (fun a b => by simp; exact List.le_total a b) xs
  simpa [sortR] using this
theorem sortR_len (xs : List (List Int)) : (sortR xs).length = xs.length := (sortR_perm xs).length_eq
theorem sortR_lt {xs : List (List Int)} (h : xs.Nodup) : (sortR xs).Pairwise (· < ·) := by
  have h1 := sortR_le xs
  have h2 : (sortR xs).Nodup := (sortR_perm xs).nodup_iff.mpr h
  refine (List.Pairwise.and h1 h2).imp ?_
  rintro a b ⟨h, n⟩
  rcases List.le_iff_lt_or_eq.mp h with h | h
  · exact h
  · exact (n h).elim
/-! ### the greatest of a list of ints -/
def mostI : List Int → Int
  | [] => 0
  | x :: xs => xs.foldl (fun a y => if a < y then y else a) x
theorem ltD_int (a b : Int) : ltD (.int a) (.int b) = decide (a < b) := by
  simp only [ltD, D.py]
  exact W.dataLt_int a b
theorem mostD_ints (x : Int) (xs : List Int) : mostD (.int x) (xs.map .int) = .int (mostI (x :: xs)) := by
  have key : ∀ (xs : List Int) (x : Int), (xs.map D.int).foldl (fun a y => if ltD a y then y else a) (.int x) = .int (xs.foldl (fun a y => if a < y then y else a) x) := fun xs => by
    induction xs with
    | nil => intro x; rfl
    | cons y ys ih =>
      intro x
      simp only [List.map_cons, List.foldl_cons, ltD_int, decide_eq_true_eq]
      by_cases h : x < y
      · rw [if_pos h, if_pos h, ih]
      · rw [if_neg h, if_neg h, ih]
  exact key xs x
theorem mostI_ge : ∀ (xs : List Int) (y : Int), y ∈ xs → y ≤ mostI xs := by
  have key : ∀ (xs : List Int) (x : Int), x ≤ xs.foldl (fun a y => if a < y then y else a) x ∧ ∀ y ∈ xs, y ≤ xs.foldl (fun a y => if a < y then y else a) x := fun xs => by
    induction xs with
    | nil => intro x; simp
    | cons z zs ih =>
      intro x
      obtain ⟨h1, h2⟩ := ih (if x < z then z else x)
      simp only [List.foldl_cons]
      refine ⟨?_, fun y hy => ?_⟩
      · have : x ≤ if x < z then z else x := by split <;> omega
        omega
      · rw [List.mem_cons] at hy
        rcases hy with rfl | hy
        · have : y ≤ if x < y then y else x := by split <;> omega
          omega
        · exact h2 y hy
  intro xs y hy
  cases xs with
  | nil => simp at hy
  | cons x xs =>
    rw [List.mem_cons] at hy
    rcases hy with rfl | hy
    · exact (key xs y).1
    · exact (key xs x).2 y hy
theorem mostI_mem : ∀ (xs : List Int), xs ≠ [] → mostI xs ∈ xs := by
  have key : ∀ (xs : List Int) (x : Int), xs.foldl (fun a y => if a < y then y else a) x ∈ x :: xs := fun xs => by
    induction xs with
    | nil => intro x; simp
    | cons z zs ih =>
      intro x
      simp only [List.foldl_cons]
      by_cases h : x < z
      · have := ih z
        rw [if_pos h]
        exact List.mem_cons_of_mem _ this
      · have := ih x
        rw [if_neg h]
        rw [List.mem_cons] at this ⊢
        rcases this with h | h
        · exact Or.inl h
        · exact Or.inr (List.mem_cons_of_mem _ h)
  intro xs h
  cases xs with
  | nil => exact (h rfl).elim
  | cons x xs => exact key xs x
theorem mostI_eq {xs : List Int} {m : Int} (h : m ∈ xs) (h2 : ∀ y ∈ xs, y ≤ m) : mostI xs = m := by
  have h3 := mostI_ge xs m h
  have h4 := h2 _ (mostI_mem xs (List.ne_nil_of_mem h))
  omega
theorem mostI_foldl : ∀ (xs : List Int) (c : Int), xs ≠ [] → xs.foldl max c = max c (mostI xs)
  | [], _, h => (h rfl).elim
  | [x], c, _ => by simp [mostI]
  | x :: y :: r, c, _ => by
    rw [List.foldl_cons, mostI_foldl (y :: r) _ (by simp)]
    have : mostI (x :: y :: r) = max x (mostI (y :: r)) := by
      have h1 := mostI_mem (y :: r) (by simp)
      refine mostI_eq ?_ ?_
      · rcases Int.le_total x (mostI (y :: r)) with h | h
        · rw [Int.max_eq_right h]; exact List.mem_cons_of_mem _ h1
        · rw [Int.max_eq_left h]; exact List.mem_cons_self
      · intro z hz
        rw [List.mem_cons] at hz
        rcases hz with rfl | hz
        · omega
        · have := mostI_ge _ z hz; omega
    rw [this]
    omega
theorem max_ints (xs : List Int) (h : xs ≠ []) : maxD [.lst (xs.map .int)] = some (.int (mostI xs)) := by
  cases xs with
  | nil => exact (h rfl).elim
  | cons x xs =>
    have : datOk ((x :: xs).map .int) = true := by
      simp only [datOk, shs, alikes, List.all_map, Bool.and_eq_true, List.all_eq_true, Function.comp_apply]
      refine ⟨fun _ _ => sh_int _, fun a _ b _ => ?_, fun _ _ => rfl⟩
      simp [D.py, W.alike]
    rw [List.map_cons] at this ⊢
    rw [maxD, if_pos this, mostD_ints]
theorem max_map {α : Type} (f : α → Int) (xs : List α) (h : xs ≠ []) : maxD [.lst (xs.map fun a => .int (f a))] = some (.int (mostI (xs.map f))) := by
  have := max_ints (xs.map f) (by simpa using h)
  rw [List.map_map] at this
  exact this
@[simp] theorem max_two (a b : Int) : maxD [.int a, .int b] = some (.int (max a b)) := by
  simp only [maxD]
  congr 2
  omega
@[simp] theorem min_two (a b : Int) : minD [.int a, .int b] = some (.int (min a b)) := by
  simp only [minD]
  congr 2
  omega
/-! ### parts -/
theorem cut_from {α : Type} (xs : List α) (n : Nat) : cut xs (some (n : Int)) none = xs.drop n := by
  simp only [cut, HT.sIx]
  rw [if_neg (by omega), Int.toNat_natCast]
  by_cases h : n ≤ xs.length
  · rw [Nat.min_eq_left h, List.take_of_length_le (by simp)]
  · rw [Nat.min_eq_right (by omega)]
    simp
    omega
@[simp] theorem cut_1 {α : Type} (xs : List α) : cut xs (some 1) none = xs.drop 1 := cut_from xs 1
theorem cut_to {α : Type} (xs : List α) (n : Int) (h : 0 ≤ n) : cut xs none (some n) = xs.take n.toNat := by
  simp only [cut, HT.sIx]
  rw [if_neg (by omega)]
  by_cases h : n.toNat ≤ xs.length
  · rw [Nat.min_eq_left h]; simp
  · rw [Nat.min_eq_right (by omega)]
    simp
    rw [List.take_of_length_le (by omega)]
/-! ### counted walks -/
theorem enumD_map {α : Type} (f : α → D) (xs : List α) : enumD (xs.map f) = xs.zipIdx.map fun p => .tup [.int p.2, f p.1] := by
  rw [enumD, List.zipIdx_map, List.map_map]
  rfl
theorem zipD_map {α β : Type} (f : α → D) (g : β → D) (xs : List α) (ys : List β) : zipD (xs.map f) (ys.map g) = (xs.zip ys).map fun p => .tup [f p.1, g p.2] := by
  rw [zipD, List.zip_map, List.map_map]
  rfl
/-! ### dict comprehensions -/
theorem any_key (k : D) (ks : List D) : (ks.any fun a => decide (a = k)) = decide (k ∈ ks) := by
  rw [Bool.eq_iff_iff]
  simp
theorem lookD_none {k : D} : ∀ {ks vs : List D}, k ∉ ks → lookD k ks vs = none
  | [], _, _ => by simp [lookD]
  | _ :: _, [], _ => by simp [lookD]
  | a :: ks, v :: vs, h => by
    simp only [List.mem_cons, not_or] at h
    rw [lookD, if_neg (fun e => h.1 e.symm), lookD_none h.2]
theorem putD_len {k v : D} {ks vs : List D} (h : ks.length = vs.length) : (putD k v ks vs).1.length = (putD k v ks vs).2.length := by
  rw [putD]
  split
  · simp [List.length_zip, h]
  · simp [h]
theorem putD_mem {k v : D} {ks vs : List D} (x : D) : x ∈ (putD k v ks vs).1 ↔ x = k ∨ x ∈ ks := by
  rw [putD]
  rw [any_key]
  split
  · rename_i h
    simp only [decide_eq_true_eq] at h
    constructor
    · exact Or.inr
    · rintro (rfl | h')
      · exact h
      · exact h'
  · simp only [List.mem_append, List.mem_singleton]
    exact Or.comm
theorem putD_look {k v : D} : ∀ {ks vs : List D}, ks.length = vs.length → ∀ x, lookD x (putD k v ks vs).1 (putD k v ks vs).2 = if x = k then some v else lookD x ks vs := by
  intro ks vs h x
  rw [putD, any_key]
  by_cases hm : k ∈ ks
  · rw [if_pos (by simpa using hm)]
    simp only
    induction ks generalizing vs with
    | nil => simp at hm
    | cons a ks ih =>
      cases vs with
      | nil => simp at h
      | cons u vs =>
        simp only [List.length_cons, Nat.add_right_cancel_iff] at h
        simp only [List.zip_cons_cons, List.map_cons, lookD]
        by_cases ea : a = k
        · subst ea
          by_cases ex : a = x
          · subst ex; simp
          · have ex' : ¬ x = a := fun e => ex e.symm
            rw [if_neg ex, if_neg ex, if_neg ex']
            clear ih hm
            induction ks generalizing vs with
            | nil => simp [lookD]
            | cons b ks ih =>
              cases vs with
              | nil => simp at h
              | cons w vs =>
                simp only [List.length_cons, Nat.add_right_cancel_iff] at h
                simp only [List.zip_cons_cons, List.map_cons, lookD]
                by_cases eb : b = x
                · subst eb
                  rw [if_pos rfl, if_pos rfl, if_neg ex']
                · rw [if_neg eb, if_neg eb]
                  exact ih vs h
        · by_cases ex : a = x
          · subst ex
            rw [if_pos rfl, if_neg ea, if_neg ea, if_pos rfl]
          · rw [if_neg ex, if_neg ex]
            exact ih h ((List.mem_cons.mp hm).resolve_left (fun e => ea e.symm))
  · rw [if_neg (by simpa using hm)]
    simp only
    induction ks generalizing vs with
    | nil =>
      cases vs with
      | nil => simp [lookD, eq_comm]
      | cons => simp at h
    | cons a ks ih =>
      cases vs with
      | nil => simp at h
      | cons u vs =>
        simp only [List.length_cons, Nat.add_right_cancel_iff] at h
        simp only [List.mem_cons, not_or] at hm
        simp only [List.cons_append, lookD]
        by_cases ex : a = x
        · subst ex
          rw [if_pos rfl, if_neg (fun e => hm.1 e.symm), if_pos rfl]
        · rw [if_neg ex, if_neg ex]
          exact ih h hm.2
/-- a dict comprehension whose steps change nothing, values by keys -/
theorem dcGo_fun {α : Type} {b : Bool} {ws : List Nat} {step : D → Cs → Res (Option (D × D))} {M : Cs} (g : α → D) (key val : α → D) (xs : List α) (h : ∀ a ∈ xs, step (g a) M = .ok (some (key a, val a)) M) (hk : ∀ a ∈ xs, isKey b (key a) = true) (hl : xs.length < sizeLine)
    (hf : ∀ a ∈ xs, ∀ c ∈ xs, key a = key c → val a = val c) : ∃ ks vs, dcGo b ws step (xs.map g) [] [] M = .ok (ks, vs) M ∧ ks.length = vs.length ∧ ∀ a ∈ xs, lookD (key a) ks vs = some (val a) := by
  have main : ∀ (ys : List α) (ks vs : List D), (∀ a ∈ ys, a ∈ xs) → ks.length = vs.length → ks.length + ys.length ≤ xs.length → (∀ a ∈ xs, key a ∈ ks → lookD (key a) ks vs = some (val a)) →
      ∃ ks' vs', dcGo b ws step (ys.map g) ks vs M = .ok (ks', vs') M ∧ ks'.length = vs'.length ∧ (∀ x, x ∈ ks' ↔ x ∈ ks ∨ ∃ a ∈ ys, x = key a) ∧ ∀ a ∈ xs, key a ∈ ks' → lookD (key a) ks' vs' = some (val a) := fun ys => by
    induction ys with
    | nil =>
      intro ks vs _ hl2 _ hv
      exact ⟨ks, vs, by rw [List.map_nil, dcGo], hl2, by simp, hv⟩
    | cons y ys ih =>
      intro ks vs hs hl2 hc hv
      have hy := hs y List.mem_cons_self
      have hle : (putD (key y) (val y) ks vs).1.length ≤ ks.length + 1 := by
        rw [putD]; split <;> simp
      obtain ⟨ks', vs', e1, e2, e3, e4⟩ := ih (putD (key y) (val y) ks vs).1 (putD (key y) (val y) ks vs).2 (fun a ha => hs a (List.mem_cons_of_mem _ ha)) (putD_len hl2) (by simp only [List.length_cons] at hc; omega) (by
        intro a ha hm
        rw [putD_look hl2]
        split
        · rename_i e
          rw [hf a ha y hy e]
        · rename_i e
          exact hv a ha (((putD_mem _).mp hm).resolve_left e))
      refine ⟨ks', vs', ?_, e2, ?_, e4⟩
      · rw [List.map_cons, dcGo, h y hy]
        simp only
        rw [if_pos (by simp only [same_me, hk y hy, Bool.true_and, Bool.and_eq_true, decide_eq_true_eq]; simp only [List.length_cons] at hc; omega), e1]
      · intro x
        rw [e3, putD_mem]
        simp only [List.mem_cons, exists_eq_or_imp]
        constructor
        · rintro ((h | h) | h)
          · exact Or.inr (Or.inl h)
          · exact Or.inl h
          · exact Or.inr (Or.inr h)
        · rintro (h | h | h)
          · exact Or.inl (Or.inr h)
          · exact Or.inl (Or.inl h)
          · exact Or.inr h
  obtain ⟨ks, vs, e1, e2, e3, e4⟩ := main xs [] [] (fun a ha => ha) rfl (by simp) (by simp)
  exact ⟨ks, vs, e1, e2, fun a ha => e4 a ha ((e3 _).mpr (Or.inr ⟨a, ha, rfl⟩))⟩
@[simp] theorem isKey_T (xs : List Int) : isKey true (T xs) = true := by simp [isKey, isKeyT, T, isKeyK]
theorem idx_dct (b : Bool) (ks vs : List D) (k : D) (h : isKey b k = true) : idxD (.dct b ks vs) k = lookD k ks vs := by
  simp [idxD, h]
theorem frees_mem {n : Nat} : ∀ {xs : List D}, frees n xs = true → ∀ x ∈ xs, x.free n = true
  | [], _, _, h => by simp at h
  | y :: ys, h, x, hx => by
    simp only [frees, Bool.and_eq_true] at h
    rw [List.mem_cons] at hx
    rcases hx with rfl | hx
    · exact h.1
    · exact frees_mem h.2 x hx
theorem frees_of {n : Nat} : ∀ {xs : List D}, (∀ x ∈ xs, x.free n = true) → frees n xs = true
  | [], _ => by simp
  | y :: ys, h => by
    simp only [frees, Bool.and_eq_true]
    exact ⟨h y List.mem_cons_self, frees_of fun x hx => h x (List.mem_cons_of_mem _ hx)⟩
end Mp

/-! What repr shows of data without texts is short and sound. -/
namespace Mp
open PySem
theorem strOk_append (a b : Str) : PyData.strOk (a ++ b) = (PyData.strOk a && PyData.strOk b) := by
  show (a.cps ++ b.cps).all _ = _
  rw [Array.all_append]
  rfl
theorem strOk_of (s : String) : PyData.strOk (Str.ofString s) = true := by
  rw [Str.ofString_eq_toList, PyData.strOk, Array.all_eq_true_iff_forall_mem]
  intro c hc
  simp only [List.mem_toArray, List.mem_map] at hc
  obtain ⟨ch, _, rfl⟩ := hc
  have := ch.valid
  simp only [decide_eq_true_eq]
  simp only [UInt32.isValidChar, Nat.isValidChar] at this
  show ch.val.toNat < _
  omega
theorem strOk_textFrom : ∀ (ts : List Str) (k : Nat) (acc : Str), PyData.strOk acc = true → (∀ t ∈ ts, PyData.strOk t = true) → PyData.strOk (textFrom k acc ts) = true
  | [], _, _, h, _ => h
  | t :: ts, k, acc, h, ht => by
    rw [textFrom]
    refine strOk_textFrom ts (k + 1) _ ?_ fun x hx => ht x (List.mem_cons_of_mem _ hx)
    rw [strOk_append, strOk_append, h, ht t List.mem_cons_self, strOk_of]
    rfl
theorem strOk_list (ts : List Str) (h : ∀ t ∈ ts, PyData.strOk t = true) : PyData.strOk (listText ts) = true := by
  rw [listText, strOk_append, strOk_textFrom ts 0 _ (strOk_of _) h, strOk_of]
  rfl
theorem strOk_join (s : Str) (hs : PyData.strOk s = true) : ∀ (ts : List Str), (∀ t ∈ ts, PyData.strOk t = true) → PyData.strOk (Str.join s ts) = true
  | [], _ => by simp [Str.join, Str.empty, PyData.strOk]
  | [x], h => h x List.mem_cons_self
  | x :: y :: r, h => by
    rw [Str.join, strOk_append, strOk_append, h x List.mem_cons_self, hs, strOk_join s hs (y :: r) fun t ht => h t (List.mem_cons_of_mem _ ht)]
    · rfl
    · simp
theorem strOk_tuple (ts : List Str) (h : ∀ t ∈ ts, PyData.strOk t = true) : PyData.strOk (tupleText ts) = true := by
  rw [tupleText, strOk_append, strOk_append, strOk_of, strOk_join _ (strOk_of _) ts h, strOk_of]
  rfl
/-- small whole numbers, None, bools, tuples and lists of them -/
def rwords : List Str := ["lot", "strike", "colour", "swap", "things", "alternation", "half", "spared", "chen", "do", "undo", "redo"]
theorem rwords_ok : ∀ x ∈ rwords, (PyData.str x).showable = true ∧ PyData.strOk (PyData.str x).shown = true ∧ (PyData.str x).leavesShort 13 = true ∧ (PyData.str x).weight ≤ 40 ∧ PyData.strOk x = true := by decide +kernel
def fitR : Nat → D → Bool
  | _, .str x => decide (x ∈ rwords)
  | _, .non => true
  | _, .bl _ => true
  | _, .int i => decide (i.natAbs < 1000000000000)
  | n + 1, .tup xs => xs.all (fitR n)
  | n + 1, .lst xs => xs.all (fitR n)
  | _, _ => false
theorem log_small {n : Nat} (h : n < 1000000000000) : n.log2 < 40 := by
  by_cases e : n = 0
  · subst e; decide
  · rw [Nat.log2_lt e]; omega
theorem fitR_ok : ∀ (n : Nat) (d : D), fitR n d = true → lvl n d = true ∧ d.py.showable = true ∧ PyData.strOk d.py.shown = true ∧ d.py.leavesShort 13 = true := by
  intro n
  induction n with
  | zero =>
    intro d h
    cases d <;> simp [fitR] at h
    · simp [lvl, D.py, PyData.showable, PyData.shown, PyData.leavesShort, strOk_of]
    · rename_i b
      cases b <;> simp [lvl, D.py, PyData.showable, PyData.shown, PyData.leavesShort, strOk_of]
    · rename_i i
      have := log_small h
      refine ⟨by simp [lvl], by simp [D.py, PyData.showable]; omega, by simp only [D.py, PyData.shown]; exact strOk_of _, ?_⟩
      simp only [D.py, PyData.leavesShort, decide_eq_true_eq]
      exact PyData.shown_int_le (by simpa using h)
    · rename_i x
      obtain ⟨a, b, c, _, e⟩ := rwords_ok x h
      exact ⟨by simpa [lvl] using e, a, b, c⟩
  | succ n ih =>
    have key : ∀ xs : List D, xs.all (fitR n) = true → xs.all (lvl n) = true ∧ PyData.showableAll (pys xs) = true ∧ (∀ t ∈ PyData.shownAll (pys xs), PyData.strOk t = true) ∧ PyData.leavesShortAll 13 (pys xs) = true := fun xs => by
      induction xs with
      | nil => intro _; simp [pys, PyData.showableAll, PyData.shownAll, PyData.leavesShortAll]
      | cons x xs ih2 =>
        intro h
        simp only [List.all_cons, Bool.and_eq_true] at h
        obtain ⟨a, b, c, d⟩ := ih x h.1
        obtain ⟨a2, b2, c2, d2⟩ := ih2 h.2
        refine ⟨by simp [a, a2], by simp [pys, PyData.showableAll, b, b2], ?_, by simp [pys, PyData.leavesShortAll, d, d2]⟩
        intro t ht
        simp only [pys, PyData.shownAll, List.mem_cons] at ht
        rcases ht with rfl | ht
        · exact c
        · exact c2 t ht
    intro d h
    cases d <;> simp only [fitR, Bool.false_eq_true] at h
    · simp [lvl, D.py, PyData.showable, PyData.shown, PyData.leavesShort, strOk_of]
    · rename_i b
      cases b <;> simp [lvl, D.py, PyData.showable, PyData.shown, PyData.leavesShort, strOk_of]
    · rename_i i
      simp only [decide_eq_true_eq] at h
      have := log_small h
      refine ⟨by simp [lvl], by simp [D.py, PyData.showable]; omega, by simp only [D.py, PyData.shown]; exact strOk_of _, ?_⟩
      simp only [D.py, PyData.leavesShort, decide_eq_true_eq]
      exact PyData.shown_int_le (by simpa using h)
    · rename_i x
      simp only [decide_eq_true_eq] at h
      obtain ⟨a, b, c, _, e⟩ := rwords_ok x h
      exact ⟨by simpa [lvl] using e, a, b, c⟩
    · rename_i xs
      obtain ⟨a, b, c, d⟩ := key xs h
      exact ⟨by simpa [lvl] using a, by simpa [D.py, PyData.showable] using b, by simp only [D.py, PyData.shown]; exact strOk_tuple _ c, by simpa [D.py, PyData.leavesShort] using d⟩
    · rename_i xs
      obtain ⟨a, b, c, d⟩ := key xs h
      exact ⟨by simpa [lvl] using a, by simpa [D.py, PyData.showable] using b, by simp only [D.py, PyData.shown]; exact strOk_list _ c, by simpa [D.py, PyData.leavesShort] using d⟩
/-- weights -/
def wt (d : D) : Nat := d.py.weight
def wts (xs : List D) : Nat := PyData.weightAll (pys xs)
@[simp] theorem wt_tup (xs : List D) : wt (.tup xs) = wts xs := by simp [wt, wts, D.py, PyData.weight]
@[simp] theorem wt_lst (xs : List D) : wt (.lst xs) = wts xs := by simp [wt, wts, D.py, PyData.weight]
@[simp] theorem wts_nil : wts [] = 0 := by simp [wts, pys, PyData.weightAll]
@[simp] theorem wts_cons (x : D) (xs : List D) : wts (x :: xs) = wt x + 1 + wts xs := by simp [wts, wt, pys, PyData.weightAll]
@[simp] theorem wt_non : wt .non = 0 := by simp [wt, D.py, PyData.weight]
@[simp] theorem wt_bl (b : Bool) : wt (.bl b) = 0 := by simp [wt, D.py, PyData.weight]
theorem wt_int {i : Int} (h : i.natAbs < 1000000000000) : wt (.int i) ≤ 40 := by
  have := log_small h
  simp only [wt, D.py, PyData.weight]
  split <;> omega
theorem wt_word {x : Str} (h : x ∈ rwords) : wt (.str x) ≤ 40 := (rwords_ok x h).2.2.2.1
theorem wts_le {α : Type} (f : α → D) (k : Nat) : ∀ (xs : List α), (∀ a ∈ xs, wt (f a) ≤ k) → wts (xs.map f) ≤ xs.length * (k + 1)
  | [], _ => by simp
  | x :: xs, h => by
    have h1 := h x List.mem_cons_self
    have h2 := wts_le f k xs fun a ha => h a (List.mem_cons_of_mem _ ha)
    simp only [List.map_cons, wts_cons, List.length_cons, Nat.add_mul]
    omega
theorem wts_append (a b : List D) : wts (a ++ b) = wts a + wts b := by
  induction a with
  | nil => simp
  | cons x xs ih => simp [ih]; omega
theorem wt_T (xs : List Int) (h : ∀ x ∈ xs, x.natAbs < 1000000000000) : wt (T xs) ≤ xs.length * 41 := by
  rw [T, wt_tup]
  exact wts_le .int 40 xs fun a ha => wt_int (h a ha)
theorem fit_T (n : Nat) (xs : List Int) (h : ∀ x ∈ xs, x.natAbs < 1000000000000) : fitR (n + 1) (T xs) = true := by
  simp only [T, fitR, List.all_map, List.all_eq_true, Function.comp_apply]
  intro x hx
  cases n <;> simp [fitR, h x hx]
theorem repr_ok {n : Nat} {d : D} (h : fitR n d = true) (hn : n ≤ 60) (hw : wt d ≤ 500000) : ∃ x, reprD [d] = some (.str x) ∧ PyData.strOk x = true := by
  obtain ⟨a, b, c, e⟩ := fitR_ok n d h
  have h1 := PyData.shown_le 13 (by omega) d.py e
  have h2 : d.py.weight ≤ 500000 := hw
  have h3 : d.py.shown.length + 64 ≤ sizeLine := small (by omega)
  refine ⟨d.py.shown, ?_, c⟩
  rw [reprD]
  rw [if_pos (by simp [shR, sh_lvl a hn, b, h3])]
theorem clean_str {x : Str} (n : Nat) (h : PyData.strOk x = true) : clean n (.str x) = true := by cases n <;> simpa [clean] using h
theorem cmp_ne_str {x y : Str} (h : PyData.strOk x = true) (h2 : PyData.strOk y = true) : cmpD .NotEq (.str x) (.str y) = some (!decide (x = y)) := by
  rw [cmp_ne_c 0 (clean_str 0 h) (clean_str 0 h2) (by omega)]
  simp
theorem cmp_eq_str {x y : Str} (h : PyData.strOk x = true) (h2 : PyData.strOk y = true) : cmpD .Eq (.str x) (.str y) = some (decide (x = y)) := by
  rw [cmp_eq_c 0 (clean_str 0 h) (clean_str 0 h2) (by omega)]
  simp
end Mp

namespace Mk
open PySem Mp
abbrev ix_law_well : Nat := 0
abbrev ix_law_draw : Nat := 1
abbrev ix_law_one : Nat := 2
abbrev ix_law_odd_thing : Nat := 3
abbrev ix_law_made : Nat := 4
abbrev ix_law_kinds : Nat := 5
abbrev ix_law_kept : Nat := 6
abbrev ix_law_is_plain : Nat := 7
abbrev ix_law_is_caught : Nat := 8
abbrev ix_law_right : Nat := 9
abbrev ix_law : Nat := 10
def m_law_well : MSs := (.cons (.asg (.nm 2) (.bin .Add (.con (.int 90217)) (.bin .Mult (.con (.int 4001)) (.var 1)))) (.cons (.for_ (.nm 3) (.seq (.slc (.var 0) .nil (.one (.con (.int 12))))) (.cons (.asg (.nm 2) (.bin .Mod (.blt .int (.cons (.bin .Add (.bin .Add (.bin .Mult (.var 2) (.con (.int 40127))) (.bin .Mult (.bin .Mod (.blt .int (.cons (.var 3) .nil)) (.con (.int 2147483587))) (.con (.int 11)))) (.con (.int 17))) .nil)) (.con (.int 2147483587)))) .nil)) (.cons (.asg (.nm 4) (.ite (.tru (.cmp .Lt (.var 1) (.blt .len (.cons (.var 0) .nil)))) (.blt .int (.cons (.idx (.var 0) (.var 1)) .nil)) (.con (.int 0)))) (.cons (.asg (.nm 2) (.bin .Mod (.blt .int (.cons (.bin .Add (.bin .Add (.bin .Mult (.var 2) (.con (.int 97))) (.bin .Mult (.bin .Mod (.blt .int (.cons (.var 4) .nil)) (.con (.int 2147483587))) (.con (.int 20021)))) (.con (.int 5))) .nil)) (.con (.int 2147483587)))) (.cons (.ret (.new (.lst (.cons (.ite (.or (.tru (.cmp .Lt (.var 4) (.con (.int 0)))) (.tru (.cmp .GtE (.var 4) (.bin .Pow (.con (.int 10)) (.con (.int 15)))))) (.blt .abs (.cons (.var 4) .nil)) (.con (.int 0))) (.cons (.var 2) (.cons (.con (.int 0)) .nil)))))) .nil)))))
abbrev mf_law_well : MF := ⟨2, 5, m_law_well, true⟩
def m_law_draw : MSs := (.cons (.ite (.tru (.cmp .Gt (.idx (.var 0) (.con (.int 0))) (.con (.int 0)))) (.cons (.asg (.tp (.cons (.sub (.var 0) (.con (.int 0))) (.cons (.nm 3) .nil))) (.blt .divmod (.cons (.idx (.var 0) (.con (.int 0))) (.cons (.var 1) .nil)))) (.cons (.ret (.var 3)) .nil)) .nil) (.cons (.asg (.sub (.var 0) (.con (.int 2))) (.bin .Add (.idx (.var 0) (.con (.int 2))) (.con (.int 1)))) (.cons (.asg (.nm 2) (.bin .Mod (.blt .int (.cons (.bin .Add (.bin .Mult (.idx (.var 0) (.con (.int 1))) (.con (.int 48271))) (.bin .Mult (.con (.int 13007)) (.idx (.var 0) (.con (.int 2))))) .nil)) (.con (.int 2147483587)))) (.cons (.asg (.sub (.var 0) (.con (.int 1))) (.bin .Mod (.blt .int (.cons (.bin .Add (.bin .Mult (.var 2) (.bin .Add (.bin .Mod (.blt .int (.cons (.var 2) .nil)) (.con (.int 4993))) (.con (.int 20021)))) (.idx (.var 0) (.con (.int 2)))) .nil)) (.con (.int 2147483587)))) (.cons (.ret (.bin .Mod (.blt .int (.cons (.bin .FloorDiv (.idx (.var 0) (.con (.int 1))) (.con (.int 983))) .nil)) (.var 1))) .nil)))))
abbrev mf_law_draw : MF := ⟨2, 4, m_law_draw, false⟩
def m_law_one : MSs := (.cons (.ret (.idx (.var 1) (.call ix_law_draw (.cons (.var 0) (.cons (.blt .len (.cons (.var 1) .nil)) .nil)) .nil []))) .nil)
abbrev mf_law_one : MF := ⟨2, 2, m_law_one, false⟩
def m_law_odd_thing : MSs := (.cons (.asg (.nm 1) (.tup (.cons (.con .non) (.cons (.con (.bl true)) (.cons (.con (.bl false)) (.cons (.con (.str "1")) (.cons (.con (.str "")) (.cons (.neg (.con (.int 1))) (.cons (.con (.int 0)) (.cons (.con (.int 1)) (.cons (.con (.int 7)) (.cons (.bin .Pow (.con (.int 10)) (.con (.int 30))) (.cons (.tup .nil) (.cons (.lst .nil) (.cons (.dsp false .nil) (.cons (.tup (.cons (.con (.int 1)) (.cons (.con (.int 0)) .nil))) (.cons (.lst (.cons (.con (.int 1)) (.cons (.con (.int 0)) .nil))) (.cons (.tup (.cons (.tup (.cons (.con (.int 1)) (.cons (.con (.int 0)) .nil))) .nil)) (.cons (.tup (.cons (.con (.bl true)) (.cons (.con (.int 0)) .nil))) .nil))))))))))))))))))) (.cons (.ret (.call ix_law_one (.cons (.var 0) (.cons (.var 1) .nil)) .nil [])) .nil))
abbrev mf_law_odd_thing : MF := ⟨1, 2, m_law_odd_thing, false⟩
def m_law_made : MSs := (.cons (.ret (.lst (.cons (.lst (.cons (.con (.str "given")) (.cons (.exn "InvalidNumber" (.cons (.var 0) .nil)) (.cons (.exn "InvalidNumber" (.cons (.var 0) .nil)) .nil)))) (.cons (.lst (.cons (.con (.str "given")) (.cons (.exn "InvalidVector" (.cons (.var 0) .nil)) (.cons (.exn "InvalidVector" (.cons (.var 0) .nil)) .nil)))) (.cons (.lst (.cons (.con (.str "given")) (.cons (.exn "InvalidLabelling" (.cons (.var 0) .nil)) (.cons (.exn "InvalidLabelling" (.cons (.var 0) .nil)) .nil)))) (.cons (.lst (.cons (.con (.str "given")) (.cons (.exn "InvalidChain" (.cons (.var 0) .nil)) (.cons (.exn "InvalidChain" (.cons (.var 0) .nil)) .nil)))) (.cons (.lst (.cons (.con (.str "given")) (.cons (.exn "InvalidFamily" (.cons (.var 0) .nil)) (.cons (.exn "InvalidFamily" (.cons (.var 0) .nil)) .nil)))) (.cons (.lst (.cons (.con (.str "given")) (.cons (.exn "InvalidColouring" (.cons (.var 0) .nil)) (.cons (.exn "InvalidColouring" (.cons (.var 0) .nil)) .nil)))) (.cons (.lst (.cons (.con (.str "given")) (.cons (.exn "InvalidRow" (.cons (.var 0) .nil)) (.cons (.exn "InvalidRow" (.cons (.var 0) .nil)) .nil)))) (.cons (.lst (.cons (.con (.str "given")) (.cons (.exn "InvalidCut" (.cons (.var 0) .nil)) (.cons (.exn "InvalidCut" (.cons (.var 0) .nil)) .nil)))) (.cons (.lst (.cons (.con (.str "given")) (.cons (.exn "InvalidDeed" (.cons (.var 0) .nil)) (.cons (.exn "InvalidDeed" (.cons (.var 0) .nil)) .nil)))) (.cons (.lst (.cons (.con (.str "given")) (.cons (.exn "Unfit" (.cons (.var 0) .nil)) (.cons (.exn "Unfit" (.cons (.var 0) .nil)) .nil)))) (.cons (.lst (.cons (.con (.str "index")) (.cons (.exn "InvalidLot" (.cons (.var 0) .nil)) (.cons (.exn "InvalidLot" (.cons (.var 0) .nil)) .nil)))) (.cons (.lst (.cons (.con (.str "index")) (.cons (.exn "InvalidSets" (.cons (.var 0) .nil)) (.cons (.exn "InvalidSets" (.cons (.var 0) .nil)) .nil)))) (.cons (.lst (.cons (.con (.str "index")) (.cons (.exn "InvalidLines" (.cons (.var 0) .nil)) (.cons (.exn "InvalidLines" (.cons (.var 0) .nil)) .nil)))) (.cons (.lst (.cons (.con (.str "line")) (.cons (.exn "InvalidText" (.cons (.var 0) .nil)) (.cons (.exn "InvalidText" (.cons (.var 0) .nil)) .nil)))) (.cons (.lst (.cons (.con (.str "")) (.cons (.exn "NothingToUndo" .nil) (.cons (.exn "NothingToUndo" .nil) .nil)))) (.cons (.lst (.cons (.con (.str "")) (.cons (.exn "NothingToRedo" .nil) (.cons (.exn "NothingToRedo" .nil) .nil)))) .nil)))))))))))))))))) .nil)
abbrev mf_law_made : MF := ⟨1, 1, m_law_made, false⟩
def m_law_kinds : MSs := (.cons (.ret (.lst (.cons (.ise (.var 0) [.own "InvalidNumber"] false ["InvalidNumber"] ["SphereError", "InvalidVector", "InvalidLabelling", "InvalidChain", "InvalidFamily", "InvalidColouring", "InvalidRow", "InvalidCut", "InvalidDeed", "Unfit", "InvalidLot", "InvalidSets", "InvalidLines", "InvalidText", "NothingToUndo", "NothingToRedo"]) (.cons (.ise (.var 0) [.own "InvalidVector"] false ["InvalidVector"] ["SphereError", "InvalidNumber", "InvalidLabelling", "InvalidChain", "InvalidFamily", "InvalidColouring", "InvalidRow", "InvalidCut", "InvalidDeed", "Unfit", "InvalidLot", "InvalidSets", "InvalidLines", "InvalidText", "NothingToUndo", "NothingToRedo"]) (.cons (.ise (.var 0) [.own "InvalidLabelling"] false ["InvalidLabelling"] ["SphereError", "InvalidNumber", "InvalidVector", "InvalidChain", "InvalidFamily", "InvalidColouring", "InvalidRow", "InvalidCut", "InvalidDeed", "Unfit", "InvalidLot", "InvalidSets", "InvalidLines", "InvalidText", "NothingToUndo", "NothingToRedo"]) (.cons (.ise (.var 0) [.own "InvalidChain"] false ["InvalidChain"] ["SphereError", "InvalidNumber", "InvalidVector", "InvalidLabelling", "InvalidFamily", "InvalidColouring", "InvalidRow", "InvalidCut", "InvalidDeed", "Unfit", "InvalidLot", "InvalidSets", "InvalidLines", "InvalidText", "NothingToUndo", "NothingToRedo"]) (.cons (.ise (.var 0) [.own "InvalidFamily"] false ["InvalidFamily"] ["SphereError", "InvalidNumber", "InvalidVector", "InvalidLabelling", "InvalidChain", "InvalidColouring", "InvalidRow", "InvalidCut", "InvalidDeed", "Unfit", "InvalidLot", "InvalidSets", "InvalidLines", "InvalidText", "NothingToUndo", "NothingToRedo"]) (.cons (.ise (.var 0) [.own "InvalidColouring"] false ["InvalidColouring"] ["SphereError", "InvalidNumber", "InvalidVector", "InvalidLabelling", "InvalidChain", "InvalidFamily", "InvalidRow", "InvalidCut", "InvalidDeed", "Unfit", "InvalidLot", "InvalidSets", "InvalidLines", "InvalidText", "NothingToUndo", "NothingToRedo"]) (.cons (.ise (.var 0) [.own "InvalidRow"] false ["InvalidRow"] ["SphereError", "InvalidNumber", "InvalidVector", "InvalidLabelling", "InvalidChain", "InvalidFamily", "InvalidColouring", "InvalidCut", "InvalidDeed", "Unfit", "InvalidLot", "InvalidSets", "InvalidLines", "InvalidText", "NothingToUndo", "NothingToRedo"]) (.cons (.ise (.var 0) [.own "InvalidCut"] false ["InvalidCut"] ["SphereError", "InvalidNumber", "InvalidVector", "InvalidLabelling", "InvalidChain", "InvalidFamily", "InvalidColouring", "InvalidRow", "InvalidDeed", "Unfit", "InvalidLot", "InvalidSets", "InvalidLines", "InvalidText", "NothingToUndo", "NothingToRedo"]) (.cons (.ise (.var 0) [.own "InvalidDeed"] false ["InvalidDeed"] ["SphereError", "InvalidNumber", "InvalidVector", "InvalidLabelling", "InvalidChain", "InvalidFamily", "InvalidColouring", "InvalidRow", "InvalidCut", "Unfit", "InvalidLot", "InvalidSets", "InvalidLines", "InvalidText", "NothingToUndo", "NothingToRedo"]) (.cons (.ise (.var 0) [.own "Unfit"] false ["Unfit"] ["SphereError", "InvalidNumber", "InvalidVector", "InvalidLabelling", "InvalidChain", "InvalidFamily", "InvalidColouring", "InvalidRow", "InvalidCut", "InvalidDeed", "InvalidLot", "InvalidSets", "InvalidLines", "InvalidText", "NothingToUndo", "NothingToRedo"]) (.cons (.ise (.var 0) [.own "InvalidLot"] false ["InvalidLot"] ["SphereError", "InvalidNumber", "InvalidVector", "InvalidLabelling", "InvalidChain", "InvalidFamily", "InvalidColouring", "InvalidRow", "InvalidCut", "InvalidDeed", "Unfit", "InvalidSets", "InvalidLines", "InvalidText", "NothingToUndo", "NothingToRedo"]) (.cons (.ise (.var 0) [.own "InvalidSets"] false ["InvalidSets"] ["SphereError", "InvalidNumber", "InvalidVector", "InvalidLabelling", "InvalidChain", "InvalidFamily", "InvalidColouring", "InvalidRow", "InvalidCut", "InvalidDeed", "Unfit", "InvalidLot", "InvalidLines", "InvalidText", "NothingToUndo", "NothingToRedo"]) (.cons (.ise (.var 0) [.own "InvalidLines"] false ["InvalidLines"] ["SphereError", "InvalidNumber", "InvalidVector", "InvalidLabelling", "InvalidChain", "InvalidFamily", "InvalidColouring", "InvalidRow", "InvalidCut", "InvalidDeed", "Unfit", "InvalidLot", "InvalidSets", "InvalidText", "NothingToUndo", "NothingToRedo"]) (.cons (.ise (.var 0) [.own "InvalidText"] false ["InvalidText"] ["SphereError", "InvalidNumber", "InvalidVector", "InvalidLabelling", "InvalidChain", "InvalidFamily", "InvalidColouring", "InvalidRow", "InvalidCut", "InvalidDeed", "Unfit", "InvalidLot", "InvalidSets", "InvalidLines", "NothingToUndo", "NothingToRedo"]) (.cons (.ise (.var 0) [.own "NothingToUndo"] false ["NothingToUndo"] ["SphereError", "InvalidNumber", "InvalidVector", "InvalidLabelling", "InvalidChain", "InvalidFamily", "InvalidColouring", "InvalidRow", "InvalidCut", "InvalidDeed", "Unfit", "InvalidLot", "InvalidSets", "InvalidLines", "InvalidText", "NothingToRedo"]) (.cons (.ise (.var 0) [.own "NothingToRedo"] false ["NothingToRedo"] ["SphereError", "InvalidNumber", "InvalidVector", "InvalidLabelling", "InvalidChain", "InvalidFamily", "InvalidColouring", "InvalidRow", "InvalidCut", "InvalidDeed", "Unfit", "InvalidLot", "InvalidSets", "InvalidLines", "InvalidText", "NothingToUndo"]) .nil)))))))))))))))))) .nil)
abbrev mf_law_kinds : MF := ⟨1, 1, m_law_kinds, false⟩
def m_law_kept : MSs := (.cons (.ite (.tru (.cmp .Eq (.var 0) (.con (.str "given")))) (.cons (.ret (.fld (.var 1) "given" ["InvalidNumber", "InvalidVector", "InvalidLabelling", "InvalidChain", "InvalidFamily", "InvalidColouring", "InvalidRow", "InvalidCut", "InvalidDeed", "Unfit"])) .nil) .nil) (.cons (.ite (.tru (.cmp .Eq (.var 0) (.con (.str "index")))) (.cons (.ret (.fld (.var 1) "index" ["InvalidLot", "InvalidSets", "InvalidLines"])) .nil) .nil) (.cons (.ret (.ite (.tru (.cmp .Eq (.var 0) (.con (.str "line")))) (.fld (.var 1) "line" ["InvalidText"]) (.con .non))) .nil)))
abbrev mf_law_kept : MF := ⟨2, 2, m_law_kept, false⟩
def m_law_is_plain : MSs := (.cons (.ite (.or (.not (.tru (.ise (.var 0) [.own "SphereError"] false ["SphereError", "InvalidNumber", "InvalidVector", "InvalidLabelling", "InvalidChain", "InvalidFamily", "InvalidColouring", "InvalidRow", "InvalidCut", "InvalidDeed", "Unfit", "InvalidLot", "InvalidSets", "InvalidLines", "InvalidText", "NothingToUndo", "NothingToRedo"] []))) (.not (.tru (.ise (.var 0) [.ty "ValueError"] false ["SphereError", "InvalidNumber", "InvalidVector", "InvalidLabelling", "InvalidChain", "InvalidFamily", "InvalidColouring", "InvalidRow", "InvalidCut", "InvalidDeed", "Unfit", "InvalidLot", "InvalidSets", "InvalidLines", "InvalidText", "NothingToUndo", "NothingToRedo"] [])))) (.cons (.ret (.con (.bl false))) .nil) .nil) (.cons (.ret (.not (.tru (.ise (.var 0) [.ty "LookupError", .ty "ArithmeticError", .ty "TypeError", .ty "AttributeError", .ty "RuntimeError"] true [] ["SphereError", "InvalidNumber", "InvalidVector", "InvalidLabelling", "InvalidChain", "InvalidFamily", "InvalidColouring", "InvalidRow", "InvalidCut", "InvalidDeed", "Unfit", "InvalidLot", "InvalidSets", "InvalidLines", "InvalidText", "NothingToUndo", "NothingToRedo"])))) .nil))
abbrev mf_law_is_plain : MF := ⟨1, 1, m_law_is_plain, false⟩
def m_law_is_caught : MSs := (.cons (.try_ (.cons (.ite (.tru (.cmp .Eq (.var 0) (.con (.int 0)))) (.cons (.rse "InvalidNumber" (.cons (.var 1) .nil)) .nil) .nil) (.cons (.ite (.tru (.cmp .Eq (.var 0) (.con (.int 1)))) (.cons (.rse "Unfit" (.cons (.var 1) .nil)) .nil) .nil) (.cons (.ite (.tru (.cmp .Eq (.var 0) (.con (.int 2)))) (.cons (.rse "InvalidLot" (.cons (.var 1) .nil)) .nil) .nil) (.cons (.ite (.tru (.cmp .Eq (.var 0) (.con (.int 3)))) (.cons (.rse "InvalidText" (.cons (.var 1) .nil)) .nil) .nil) (.cons (.rse "NothingToRedo" .nil) .nil))))) (.cons "SphereError" ["SphereError", "InvalidNumber", "InvalidVector", "InvalidLabelling", "InvalidChain", "InvalidFamily", "InvalidColouring", "InvalidRow", "InvalidCut", "InvalidDeed", "Unfit", "InvalidLot", "InvalidSets", "InvalidLines", "InvalidText", "NothingToUndo", "NothingToRedo"] [] (some 2) (.cons (.ret (.and (.idx (.call ix_law_kinds (.cons (.var 2) .nil) .nil []) (.idx (.tup (.cons (.con (.int 0)) (.cons (.con (.int 9)) (.cons (.con (.int 10)) (.cons (.con (.int 13)) (.cons (.con (.int 15)) .nil)))))) (.var 0))) (.call ix_law_is_plain (.cons (.var 2) .nil) .nil []))) .nil) .nil)) (.cons (.ret (.con (.bl false))) .nil))
abbrev mf_law_is_caught : MF := ⟨2, 3, m_law_is_caught, false⟩
def m_law_right : MSs := (.cons (.ite (.or (.not (.tru (.call ix_law_is_plain (.cons (.exn "SphereError" .nil) .nil) .nil []))) (.tru (.cmp .In (.con (.bl true)) (.call ix_law_kinds (.cons (.exn "SphereError" .nil) .nil) .nil [])))) (.cons (.ret (.con (.bl false))) .nil) .nil) (.cons (.asg (.nm 1) (.call ix_law_odd_thing (.cons (.var 0) .nil) .nil [])) (.cons (.asg (.nm 1) (.call ix_law_one (.cons (.var 0) (.cons (.tup (.cons (.var 1) (.cons (.tup (.cons (.var 1) (.cons (.var 1) .nil))) (.cons (.lst (.cons (.var 1) .nil)) (.cons (.con (.str "a text")) (.cons (.neg (.con (.int 7))) (.cons (.con (.bl true)) (.cons (.tup (.cons (.tup .nil) (.cons (.tup (.cons (.var 1) .nil)) .nil))) .nil)))))))) .nil)) .nil [])) (.cons (.for_ (.tp (.cons (.nm 4) (.cons (.tp (.cons (.nm 6) (.cons (.nm 7) (.cons (.nm 8) .nil)))) .nil))) (.enm (.call ix_law_made (.cons (.var 1) .nil) .nil [])) (.cons (.for_ (.nm 5) (.seq (.tup (.cons (.var 7) (.cons (.var 8) .nil)))) (.cons (.ite (.or (.tru (.cmp .NotEq (.call ix_law_kinds (.cons (.var 5) .nil) .nil []) (.lc [9] (.cmp .Eq (.var 9) (.var 4)) (.nm 9) (.rng (.con (.int 0)) (.con (.int 16))) .nil))) (.not (.tru (.call ix_law_is_plain (.cons (.var 5) .nil) .nil [])))) (.cons (.ret (.con (.bl false))) .nil) .nil) (.cons (.ite (.and (.tru (.cmp .NotEq (.var 6) (.con (.str "")))) (.tru (.cmp .NotEq (.blt .repr (.cons (.call ix_law_kept (.cons (.var 6) (.cons (.var 5) .nil)) .nil []) .nil)) (.blt .repr (.cons (.var 1) .nil))))) (.cons (.ret (.con (.bl false))) .nil) .nil) .nil))) .nil)) (.cons (.asg (.nm 2) (.new (.lst (.cons (.call ix_law_draw (.cons (.var 0) (.cons (.con (.int 9)) .nil)) .nil []) .nil)))) (.cons (.asg (.nm 3) (.call ix_law_made (.cons (.var 2) .nil) .nil [])) (.cons (.exp (.mut .append (.var 2) (.cons (.call ix_law_draw (.cons (.var 0) (.cons (.con (.int 9)) .nil)) .nil []) .nil))) (.cons (.for_ (.tp (.cons (.nm 6) (.cons (.nm 7) (.cons (.nm 8) .nil)))) (.seq (.var 3)) (.cons (.ite (.and (.tru (.cmp .NotEq (.var 6) (.con (.str "")))) (.or (.tru (.cmp .NotEq (.call ix_law_kept (.cons (.var 6) (.cons (.var 7) .nil)) .nil []) (.var 2))) (.tru (.cmp .NotEq (.call ix_law_kept (.cons (.var 6) (.cons (.var 8) .nil)) .nil []) (.var 2))))) (.cons (.ret (.con (.bl false))) .nil) .nil) .nil)) (.cons (.ret (.blt .all (.cons (.lc [4] (.cmp .Is (.call ix_law_is_caught (.cons (.var 4) (.cons (.var 1) .nil)) .nil []) (.con (.bl true))) (.nm 4) (.rng (.con (.int 0)) (.con (.int 5))) .nil) .nil))) .nil)))))))))
abbrev mf_law_right : MF := ⟨1, 10, m_law_right, false⟩
def m_law : MSs := (.cons (.ret (.blt .all (.cons (.lc [1] (.call ix_law_right (.cons (.call ix_law_well (.cons (.var 0) (.cons (.var 1) .nil)) .nil []) .nil) .nil []) (.nm 1) (.rng (.con (.int 0)) (.blt .max (.cons (.con (.int 1)) (.cons (.blt .min (.cons (.blt .len (.cons (.var 0) .nil)) (.cons (.con (.int 3)) .nil))) .nil)))) .nil) .nil))) .nil)
abbrev mf_law : MF := ⟨1, 2, m_law, false⟩
def Ds : List Df := [⟨"_law_well", ["script", "lap"], ["script", "lap", "mixed", "cell", "own"], mf_law_well⟩,
  ⟨"_law_draw", ["well", "few"], ["well", "few", "mixed", "figure"], mf_law_draw⟩,
  ⟨"_law_one", ["well", "some"], ["well", "some"], mf_law_one⟩,
  ⟨"_law_odd_thing", ["well"], ["well", "some"], mf_law_odd_thing⟩,
  ⟨"_law_made", ["thing"], ["thing"], mf_law_made⟩,
  ⟨"_law_kinds", ["e"], ["e"], mf_law_kinds⟩,
  ⟨"_law_kept", ["word", "e"], ["word", "e"], mf_law_kept⟩,
  ⟨"_law_is_plain", ["e"], ["e"], mf_law_is_plain⟩,
  ⟨"_law_is_caught", ["spot", "thing"], ["spot", "thing", "e"], mf_law_is_caught⟩,
  ⟨"_law_right", ["well"], ["well", "thing", "row", "made", "spot", "e", "word", "one", "two", "at"], mf_law_right⟩,
  ⟨"law", ["script"], ["script", "lap"], mf_law⟩]
def bi : List Str := ["ArithmeticError", "AttributeError", "LookupError", "RuntimeError", "TypeError", "ValueError", "abs", "all", "divmod", "enumerate", "int", "isinstance", "len", "max", "min", "range", "repr"]
def cs : List (Str × Int) := []
def Tx : Tb := { xs := [("InvalidChain", some "given"), ("InvalidColouring", some "given"), ("InvalidCut", some "given"), ("InvalidDeed", some "given"), ("InvalidFamily", some "given"), ("InvalidLabelling", some "given"), ("InvalidLines", some "index"), ("InvalidLot", some "index"), ("InvalidNumber", some "given"), ("InvalidRow", some "given"), ("InvalidSets", some "index"), ("InvalidText", some "line"), ("InvalidVector", some "given"), ("NothingToRedo", none), ("NothingToUndo", none), ("SphereError", none), ("Unfit", some "given")], em := [("InvalidChain", "SphereError", true), ("InvalidColouring", "SphereError", true), ("InvalidCut", "SphereError", true), ("InvalidDeed", "SphereError", true), ("InvalidFamily", "SphereError", true), ("InvalidLabelling", "SphereError", true), ("InvalidLines", "SphereError", true), ("InvalidLot", "SphereError", true), ("InvalidNumber", "SphereError", true), ("InvalidRow", "SphereError", true), ("InvalidSets", "SphereError", true), ("InvalidText", "SphereError", true), ("InvalidVector", "SphereError", true), ("NothingToRedo", "SphereError", true), ("NothingToUndo", "SphereError", true), ("SphereError", "SphereError", true), ("Unfit", "SphereError", true)], kt := [], ss := [], is := ([("SphereError", Ct.ty "ArithmeticError", false), ("SphereError", Ct.ty "AttributeError", false), ("SphereError", Ct.own "InvalidChain", false), ("SphereError", Ct.own "InvalidColouring", false), ("SphereError", Ct.own "InvalidCut", false), ("SphereError", Ct.own "InvalidDeed", false), ("SphereError", Ct.own "InvalidFamily", false), ("SphereError", Ct.own "InvalidLabelling", false), ("SphereError", Ct.own "InvalidLines", false), ("SphereError", Ct.own "InvalidLot", false), ("SphereError", Ct.own "InvalidNumber", false), ("SphereError", Ct.own "InvalidRow", false), ("SphereError", Ct.own "InvalidSets", false), ("SphereError", Ct.own "InvalidText", false), ("SphereError", Ct.own "InvalidVector", false), ("SphereError", Ct.ty "LookupError", false), ("SphereError", Ct.own "NothingToRedo", false), ("SphereError", Ct.own "NothingToUndo", false), ("SphereError", Ct.ty "RuntimeError", false), ("SphereError", Ct.own "SphereError", true), ("SphereError", Ct.ty "TypeError", false), ("SphereError", Ct.own "Unfit", false), ("SphereError", Ct.ty "ValueError", true), ("InvalidNumber", Ct.ty "ArithmeticError", false), ("InvalidNumber", Ct.ty "AttributeError", false), ("InvalidNumber", Ct.own "InvalidChain", false), ("InvalidNumber", Ct.own "InvalidColouring", false), ("InvalidNumber", Ct.own "InvalidCut", false), ("InvalidNumber", Ct.own "InvalidDeed", false), ("InvalidNumber", Ct.own "InvalidFamily", false)] : List (Str × Ct × Bool)) ++ ([("InvalidNumber", Ct.own "InvalidLabelling", false), ("InvalidNumber", Ct.own "InvalidLines", false), ("InvalidNumber", Ct.own "InvalidLot", false), ("InvalidNumber", Ct.own "InvalidNumber", true), ("InvalidNumber", Ct.own "InvalidRow", false), ("InvalidNumber", Ct.own "InvalidSets", false), ("InvalidNumber", Ct.own "InvalidText", false), ("InvalidNumber", Ct.own "InvalidVector", false), ("InvalidNumber", Ct.ty "LookupError", false), ("InvalidNumber", Ct.own "NothingToRedo", false), ("InvalidNumber", Ct.own "NothingToUndo", false), ("InvalidNumber", Ct.ty "RuntimeError", false), ("InvalidNumber", Ct.own "SphereError", true), ("InvalidNumber", Ct.ty "TypeError", false), ("InvalidNumber", Ct.own "Unfit", false), ("InvalidNumber", Ct.ty "ValueError", true), ("InvalidVector", Ct.ty "ArithmeticError", false), ("InvalidVector", Ct.ty "AttributeError", false), ("InvalidVector", Ct.own "InvalidChain", false), ("InvalidVector", Ct.own "InvalidColouring", false), ("InvalidVector", Ct.own "InvalidCut", false), ("InvalidVector", Ct.own "InvalidDeed", false), ("InvalidVector", Ct.own "InvalidFamily", false), ("InvalidVector", Ct.own "InvalidLabelling", false), ("InvalidVector", Ct.own "InvalidLines", false), ("InvalidVector", Ct.own "InvalidLot", false), ("InvalidVector", Ct.own "InvalidNumber", false), ("InvalidVector", Ct.own "InvalidRow", false), ("InvalidVector", Ct.own "InvalidSets", false), ("InvalidVector", Ct.own "InvalidText", false)] : List (Str × Ct × Bool)) ++ ([("InvalidVector", Ct.own "InvalidVector", true), ("InvalidVector", Ct.ty "LookupError", false), ("InvalidVector", Ct.own "NothingToRedo", false), ("InvalidVector", Ct.own "NothingToUndo", false), ("InvalidVector", Ct.ty "RuntimeError", false), ("InvalidVector", Ct.own "SphereError", true), ("InvalidVector", Ct.ty "TypeError", false), ("InvalidVector", Ct.own "Unfit", false), ("InvalidVector", Ct.ty "ValueError", true), ("InvalidLabelling", Ct.ty "ArithmeticError", false), ("InvalidLabelling", Ct.ty "AttributeError", false), ("InvalidLabelling", Ct.own "InvalidChain", false), ("InvalidLabelling", Ct.own "InvalidColouring", false), ("InvalidLabelling", Ct.own "InvalidCut", false), ("InvalidLabelling", Ct.own "InvalidDeed", false), ("InvalidLabelling", Ct.own "InvalidFamily", false), ("InvalidLabelling", Ct.own "InvalidLabelling", true), ("InvalidLabelling", Ct.own "InvalidLines", false), ("InvalidLabelling", Ct.own "InvalidLot", false), ("InvalidLabelling", Ct.own "InvalidNumber", false), ("InvalidLabelling", Ct.own "InvalidRow", false), ("InvalidLabelling", Ct.own "InvalidSets", false), ("InvalidLabelling", Ct.own "InvalidText", false), ("InvalidLabelling", Ct.own "InvalidVector", false), ("InvalidLabelling", Ct.ty "LookupError", false), ("InvalidLabelling", Ct.own "NothingToRedo", false), ("InvalidLabelling", Ct.own "NothingToUndo", false), ("InvalidLabelling", Ct.ty "RuntimeError", false), ("InvalidLabelling", Ct.own "SphereError", true), ("InvalidLabelling", Ct.ty "TypeError", false)] : List (Str × Ct × Bool)) ++ ([("InvalidLabelling", Ct.own "Unfit", false), ("InvalidLabelling", Ct.ty "ValueError", true), ("InvalidChain", Ct.ty "ArithmeticError", false), ("InvalidChain", Ct.ty "AttributeError", false), ("InvalidChain", Ct.own "InvalidChain", true), ("InvalidChain", Ct.own "InvalidColouring", false), ("InvalidChain", Ct.own "InvalidCut", false), ("InvalidChain", Ct.own "InvalidDeed", false), ("InvalidChain", Ct.own "InvalidFamily", false), ("InvalidChain", Ct.own "InvalidLabelling", false), ("InvalidChain", Ct.own "InvalidLines", false), ("InvalidChain", Ct.own "InvalidLot", false), ("InvalidChain", Ct.own "InvalidNumber", false), ("InvalidChain", Ct.own "InvalidRow", false), ("InvalidChain", Ct.own "InvalidSets", false), ("InvalidChain", Ct.own "InvalidText", false), ("InvalidChain", Ct.own "InvalidVector", false), ("InvalidChain", Ct.ty "LookupError", false), ("InvalidChain", Ct.own "NothingToRedo", false), ("InvalidChain", Ct.own "NothingToUndo", false), ("InvalidChain", Ct.ty "RuntimeError", false), ("InvalidChain", Ct.own "SphereError", true), ("InvalidChain", Ct.ty "TypeError", false), ("InvalidChain", Ct.own "Unfit", false), ("InvalidChain", Ct.ty "ValueError", true), ("InvalidFamily", Ct.ty "ArithmeticError", false), ("InvalidFamily", Ct.ty "AttributeError", false), ("InvalidFamily", Ct.own "InvalidChain", false), ("InvalidFamily", Ct.own "InvalidColouring", false), ("InvalidFamily", Ct.own "InvalidCut", false)] : List (Str × Ct × Bool)) ++ ([("InvalidFamily", Ct.own "InvalidDeed", false), ("InvalidFamily", Ct.own "InvalidFamily", true), ("InvalidFamily", Ct.own "InvalidLabelling", false), ("InvalidFamily", Ct.own "InvalidLines", false), ("InvalidFamily", Ct.own "InvalidLot", false), ("InvalidFamily", Ct.own "InvalidNumber", false), ("InvalidFamily", Ct.own "InvalidRow", false), ("InvalidFamily", Ct.own "InvalidSets", false), ("InvalidFamily", Ct.own "InvalidText", false), ("InvalidFamily", Ct.own "InvalidVector", false), ("InvalidFamily", Ct.ty "LookupError", false), ("InvalidFamily", Ct.own "NothingToRedo", false), ("InvalidFamily", Ct.own "NothingToUndo", false), ("InvalidFamily", Ct.ty "RuntimeError", false), ("InvalidFamily", Ct.own "SphereError", true), ("InvalidFamily", Ct.ty "TypeError", false), ("InvalidFamily", Ct.own "Unfit", false), ("InvalidFamily", Ct.ty "ValueError", true), ("InvalidColouring", Ct.ty "ArithmeticError", false), ("InvalidColouring", Ct.ty "AttributeError", false), ("InvalidColouring", Ct.own "InvalidChain", false), ("InvalidColouring", Ct.own "InvalidColouring", true), ("InvalidColouring", Ct.own "InvalidCut", false), ("InvalidColouring", Ct.own "InvalidDeed", false), ("InvalidColouring", Ct.own "InvalidFamily", false), ("InvalidColouring", Ct.own "InvalidLabelling", false), ("InvalidColouring", Ct.own "InvalidLines", false), ("InvalidColouring", Ct.own "InvalidLot", false), ("InvalidColouring", Ct.own "InvalidNumber", false), ("InvalidColouring", Ct.own "InvalidRow", false)] : List (Str × Ct × Bool)) ++ ([("InvalidColouring", Ct.own "InvalidSets", false), ("InvalidColouring", Ct.own "InvalidText", false), ("InvalidColouring", Ct.own "InvalidVector", false), ("InvalidColouring", Ct.ty "LookupError", false), ("InvalidColouring", Ct.own "NothingToRedo", false), ("InvalidColouring", Ct.own "NothingToUndo", false), ("InvalidColouring", Ct.ty "RuntimeError", false), ("InvalidColouring", Ct.own "SphereError", true), ("InvalidColouring", Ct.ty "TypeError", false), ("InvalidColouring", Ct.own "Unfit", false), ("InvalidColouring", Ct.ty "ValueError", true), ("InvalidRow", Ct.ty "ArithmeticError", false), ("InvalidRow", Ct.ty "AttributeError", false), ("InvalidRow", Ct.own "InvalidChain", false), ("InvalidRow", Ct.own "InvalidColouring", false), ("InvalidRow", Ct.own "InvalidCut", false), ("InvalidRow", Ct.own "InvalidDeed", false), ("InvalidRow", Ct.own "InvalidFamily", false), ("InvalidRow", Ct.own "InvalidLabelling", false), ("InvalidRow", Ct.own "InvalidLines", false), ("InvalidRow", Ct.own "InvalidLot", false), ("InvalidRow", Ct.own "InvalidNumber", false), ("InvalidRow", Ct.own "InvalidRow", true), ("InvalidRow", Ct.own "InvalidSets", false), ("InvalidRow", Ct.own "InvalidText", false), ("InvalidRow", Ct.own "InvalidVector", false), ("InvalidRow", Ct.ty "LookupError", false), ("InvalidRow", Ct.own "NothingToRedo", false), ("InvalidRow", Ct.own "NothingToUndo", false), ("InvalidRow", Ct.ty "RuntimeError", false)] : List (Str × Ct × Bool)) ++ ([("InvalidRow", Ct.own "SphereError", true), ("InvalidRow", Ct.ty "TypeError", false), ("InvalidRow", Ct.own "Unfit", false), ("InvalidRow", Ct.ty "ValueError", true), ("InvalidCut", Ct.ty "ArithmeticError", false), ("InvalidCut", Ct.ty "AttributeError", false), ("InvalidCut", Ct.own "InvalidChain", false), ("InvalidCut", Ct.own "InvalidColouring", false), ("InvalidCut", Ct.own "InvalidCut", true), ("InvalidCut", Ct.own "InvalidDeed", false), ("InvalidCut", Ct.own "InvalidFamily", false), ("InvalidCut", Ct.own "InvalidLabelling", false), ("InvalidCut", Ct.own "InvalidLines", false), ("InvalidCut", Ct.own "InvalidLot", false), ("InvalidCut", Ct.own "InvalidNumber", false), ("InvalidCut", Ct.own "InvalidRow", false), ("InvalidCut", Ct.own "InvalidSets", false), ("InvalidCut", Ct.own "InvalidText", false), ("InvalidCut", Ct.own "InvalidVector", false), ("InvalidCut", Ct.ty "LookupError", false), ("InvalidCut", Ct.own "NothingToRedo", false), ("InvalidCut", Ct.own "NothingToUndo", false), ("InvalidCut", Ct.ty "RuntimeError", false), ("InvalidCut", Ct.own "SphereError", true), ("InvalidCut", Ct.ty "TypeError", false), ("InvalidCut", Ct.own "Unfit", false), ("InvalidCut", Ct.ty "ValueError", true), ("InvalidDeed", Ct.ty "ArithmeticError", false), ("InvalidDeed", Ct.ty "AttributeError", false), ("InvalidDeed", Ct.own "InvalidChain", false)] : List (Str × Ct × Bool)) ++ ([("InvalidDeed", Ct.own "InvalidColouring", false), ("InvalidDeed", Ct.own "InvalidCut", false), ("InvalidDeed", Ct.own "InvalidDeed", true), ("InvalidDeed", Ct.own "InvalidFamily", false), ("InvalidDeed", Ct.own "InvalidLabelling", false), ("InvalidDeed", Ct.own "InvalidLines", false), ("InvalidDeed", Ct.own "InvalidLot", false), ("InvalidDeed", Ct.own "InvalidNumber", false), ("InvalidDeed", Ct.own "InvalidRow", false), ("InvalidDeed", Ct.own "InvalidSets", false), ("InvalidDeed", Ct.own "InvalidText", false), ("InvalidDeed", Ct.own "InvalidVector", false), ("InvalidDeed", Ct.ty "LookupError", false), ("InvalidDeed", Ct.own "NothingToRedo", false), ("InvalidDeed", Ct.own "NothingToUndo", false), ("InvalidDeed", Ct.ty "RuntimeError", false), ("InvalidDeed", Ct.own "SphereError", true), ("InvalidDeed", Ct.ty "TypeError", false), ("InvalidDeed", Ct.own "Unfit", false), ("InvalidDeed", Ct.ty "ValueError", true), ("Unfit", Ct.ty "ArithmeticError", false), ("Unfit", Ct.ty "AttributeError", false), ("Unfit", Ct.own "InvalidChain", false), ("Unfit", Ct.own "InvalidColouring", false), ("Unfit", Ct.own "InvalidCut", false), ("Unfit", Ct.own "InvalidDeed", false), ("Unfit", Ct.own "InvalidFamily", false), ("Unfit", Ct.own "InvalidLabelling", false), ("Unfit", Ct.own "InvalidLines", false), ("Unfit", Ct.own "InvalidLot", false)] : List (Str × Ct × Bool)) ++ ([("Unfit", Ct.own "InvalidNumber", false), ("Unfit", Ct.own "InvalidRow", false), ("Unfit", Ct.own "InvalidSets", false), ("Unfit", Ct.own "InvalidText", false), ("Unfit", Ct.own "InvalidVector", false), ("Unfit", Ct.ty "LookupError", false), ("Unfit", Ct.own "NothingToRedo", false), ("Unfit", Ct.own "NothingToUndo", false), ("Unfit", Ct.ty "RuntimeError", false), ("Unfit", Ct.own "SphereError", true), ("Unfit", Ct.ty "TypeError", false), ("Unfit", Ct.own "Unfit", true), ("Unfit", Ct.ty "ValueError", true), ("InvalidLot", Ct.ty "ArithmeticError", false), ("InvalidLot", Ct.ty "AttributeError", false), ("InvalidLot", Ct.own "InvalidChain", false), ("InvalidLot", Ct.own "InvalidColouring", false), ("InvalidLot", Ct.own "InvalidCut", false), ("InvalidLot", Ct.own "InvalidDeed", false), ("InvalidLot", Ct.own "InvalidFamily", false), ("InvalidLot", Ct.own "InvalidLabelling", false), ("InvalidLot", Ct.own "InvalidLines", false), ("InvalidLot", Ct.own "InvalidLot", true), ("InvalidLot", Ct.own "InvalidNumber", false), ("InvalidLot", Ct.own "InvalidRow", false), ("InvalidLot", Ct.own "InvalidSets", false), ("InvalidLot", Ct.own "InvalidText", false), ("InvalidLot", Ct.own "InvalidVector", false), ("InvalidLot", Ct.ty "LookupError", false), ("InvalidLot", Ct.own "NothingToRedo", false)] : List (Str × Ct × Bool)) ++ ([("InvalidLot", Ct.own "NothingToUndo", false), ("InvalidLot", Ct.ty "RuntimeError", false), ("InvalidLot", Ct.own "SphereError", true), ("InvalidLot", Ct.ty "TypeError", false), ("InvalidLot", Ct.own "Unfit", false), ("InvalidLot", Ct.ty "ValueError", true), ("InvalidSets", Ct.ty "ArithmeticError", false), ("InvalidSets", Ct.ty "AttributeError", false), ("InvalidSets", Ct.own "InvalidChain", false), ("InvalidSets", Ct.own "InvalidColouring", false), ("InvalidSets", Ct.own "InvalidCut", false), ("InvalidSets", Ct.own "InvalidDeed", false), ("InvalidSets", Ct.own "InvalidFamily", false), ("InvalidSets", Ct.own "InvalidLabelling", false), ("InvalidSets", Ct.own "InvalidLines", false), ("InvalidSets", Ct.own "InvalidLot", false), ("InvalidSets", Ct.own "InvalidNumber", false), ("InvalidSets", Ct.own "InvalidRow", false), ("InvalidSets", Ct.own "InvalidSets", true), ("InvalidSets", Ct.own "InvalidText", false), ("InvalidSets", Ct.own "InvalidVector", false), ("InvalidSets", Ct.ty "LookupError", false), ("InvalidSets", Ct.own "NothingToRedo", false), ("InvalidSets", Ct.own "NothingToUndo", false), ("InvalidSets", Ct.ty "RuntimeError", false), ("InvalidSets", Ct.own "SphereError", true), ("InvalidSets", Ct.ty "TypeError", false), ("InvalidSets", Ct.own "Unfit", false), ("InvalidSets", Ct.ty "ValueError", true), ("InvalidLines", Ct.ty "ArithmeticError", false)] : List (Str × Ct × Bool)) ++ ([("InvalidLines", Ct.ty "AttributeError", false), ("InvalidLines", Ct.own "InvalidChain", false), ("InvalidLines", Ct.own "InvalidColouring", false), ("InvalidLines", Ct.own "InvalidCut", false), ("InvalidLines", Ct.own "InvalidDeed", false), ("InvalidLines", Ct.own "InvalidFamily", false), ("InvalidLines", Ct.own "InvalidLabelling", false), ("InvalidLines", Ct.own "InvalidLines", true), ("InvalidLines", Ct.own "InvalidLot", false), ("InvalidLines", Ct.own "InvalidNumber", false), ("InvalidLines", Ct.own "InvalidRow", false), ("InvalidLines", Ct.own "InvalidSets", false), ("InvalidLines", Ct.own "InvalidText", false), ("InvalidLines", Ct.own "InvalidVector", false), ("InvalidLines", Ct.ty "LookupError", false), ("InvalidLines", Ct.own "NothingToRedo", false), ("InvalidLines", Ct.own "NothingToUndo", false), ("InvalidLines", Ct.ty "RuntimeError", false), ("InvalidLines", Ct.own "SphereError", true), ("InvalidLines", Ct.ty "TypeError", false), ("InvalidLines", Ct.own "Unfit", false), ("InvalidLines", Ct.ty "ValueError", true), ("InvalidText", Ct.ty "ArithmeticError", false), ("InvalidText", Ct.ty "AttributeError", false), ("InvalidText", Ct.own "InvalidChain", false), ("InvalidText", Ct.own "InvalidColouring", false), ("InvalidText", Ct.own "InvalidCut", false), ("InvalidText", Ct.own "InvalidDeed", false), ("InvalidText", Ct.own "InvalidFamily", false), ("InvalidText", Ct.own "InvalidLabelling", false)] : List (Str × Ct × Bool)) ++ ([("InvalidText", Ct.own "InvalidLines", false), ("InvalidText", Ct.own "InvalidLot", false), ("InvalidText", Ct.own "InvalidNumber", false), ("InvalidText", Ct.own "InvalidRow", false), ("InvalidText", Ct.own "InvalidSets", false), ("InvalidText", Ct.own "InvalidText", true), ("InvalidText", Ct.own "InvalidVector", false), ("InvalidText", Ct.ty "LookupError", false), ("InvalidText", Ct.own "NothingToRedo", false), ("InvalidText", Ct.own "NothingToUndo", false), ("InvalidText", Ct.ty "RuntimeError", false), ("InvalidText", Ct.own "SphereError", true), ("InvalidText", Ct.ty "TypeError", false), ("InvalidText", Ct.own "Unfit", false), ("InvalidText", Ct.ty "ValueError", true), ("NothingToUndo", Ct.ty "ArithmeticError", false), ("NothingToUndo", Ct.ty "AttributeError", false), ("NothingToUndo", Ct.own "InvalidChain", false), ("NothingToUndo", Ct.own "InvalidColouring", false), ("NothingToUndo", Ct.own "InvalidCut", false), ("NothingToUndo", Ct.own "InvalidDeed", false), ("NothingToUndo", Ct.own "InvalidFamily", false), ("NothingToUndo", Ct.own "InvalidLabelling", false), ("NothingToUndo", Ct.own "InvalidLines", false), ("NothingToUndo", Ct.own "InvalidLot", false), ("NothingToUndo", Ct.own "InvalidNumber", false), ("NothingToUndo", Ct.own "InvalidRow", false), ("NothingToUndo", Ct.own "InvalidSets", false), ("NothingToUndo", Ct.own "InvalidText", false), ("NothingToUndo", Ct.own "InvalidVector", false)] : List (Str × Ct × Bool)) ++ ([("NothingToUndo", Ct.ty "LookupError", false), ("NothingToUndo", Ct.own "NothingToRedo", false), ("NothingToUndo", Ct.own "NothingToUndo", true), ("NothingToUndo", Ct.ty "RuntimeError", false), ("NothingToUndo", Ct.own "SphereError", true), ("NothingToUndo", Ct.ty "TypeError", false), ("NothingToUndo", Ct.own "Unfit", false), ("NothingToUndo", Ct.ty "ValueError", true), ("NothingToRedo", Ct.ty "ArithmeticError", false), ("NothingToRedo", Ct.ty "AttributeError", false), ("NothingToRedo", Ct.own "InvalidChain", false), ("NothingToRedo", Ct.own "InvalidColouring", false), ("NothingToRedo", Ct.own "InvalidCut", false), ("NothingToRedo", Ct.own "InvalidDeed", false), ("NothingToRedo", Ct.own "InvalidFamily", false), ("NothingToRedo", Ct.own "InvalidLabelling", false), ("NothingToRedo", Ct.own "InvalidLines", false), ("NothingToRedo", Ct.own "InvalidLot", false), ("NothingToRedo", Ct.own "InvalidNumber", false), ("NothingToRedo", Ct.own "InvalidRow", false), ("NothingToRedo", Ct.own "InvalidSets", false), ("NothingToRedo", Ct.own "InvalidText", false), ("NothingToRedo", Ct.own "InvalidVector", false), ("NothingToRedo", Ct.ty "LookupError", false), ("NothingToRedo", Ct.own "NothingToRedo", true), ("NothingToRedo", Ct.own "NothingToUndo", false), ("NothingToRedo", Ct.ty "RuntimeError", false), ("NothingToRedo", Ct.own "SphereError", true), ("NothingToRedo", Ct.ty "TypeError", false), ("NothingToRedo", Ct.own "Unfit", false)] : List (Str × Ct × Bool)) ++ ([("NothingToRedo", Ct.ty "ValueError", true)] : List (Str × Ct × Bool)), hn := ["_law_is_plain", "_law_kinds"] }
def lawIx : Nat := 10
def P : List MF := [mf_law_well, mf_law_draw, mf_law_one, mf_law_odd_thing, mf_law_made, mf_law_kinds, mf_law_kept, mf_law_is_plain, mf_law_is_caught, mf_law_right, mf_law]

end Mk
namespace Mk
open PySem PySem.Spec PyProof.Rows L2 Mp

abbrev body : List Stmt := PySem.Challenge.pw_labelledspheres_k01_errors_each_of_its_o.main.body
def dOf (st : Stmt) : He.DefD := match st with
  | .FunctionDef n a b _ _ _ sc _ _ _ => ⟨(n, none), n, n, a, b, sc, [], []⟩
  | _ => ⟨("", none), "", "", defArgs st, [], defScope st, [], []⟩
def isD (st : Stmt) : Bool := match st with
  | .FunctionDef .. => true
  | _ => false
def fn : List He.DefD := (body.filter isD).map dOf
theorem chk : chkDs Ds bi cs Tx Ds fn = true := by kernel_rfl
def fas : List He.Fa := (Ds.map fun d => He.Fa.glo d.nm) ++ (bi.map He.Fa.free) ++ cs.map fun p => He.Fa.int p.1 p.2
abbrev R : PySem.W.OpenRow := PySem.W.OpenLaw.row PySem.Challenge.rw_labelledspheres_k01_errors_each_of_its_o
abbrev hk : PySem.W.Hook := hookM 4 fas fn R.prog Tx
def ob (s : PySem.W.SharedT) : AlM := obsMG 4 fas fn R.prog Tx (HandSHeadRun.getT s)
theorem ob_eq (s : PySem.W.SharedT) : ob s = hk.obs s.abs := obsMG_eq (HandSHeadRun.getT_eq s)
def names : List PySem.Str := (["_law_well", "_law_draw", "_law_one", "_law_odd_thing", "_law_made", "_law_kinds", "_law_kept", "_law_is_plain", "_law_is_caught", "_law_right", "SphereError", "InvalidNumber", "InvalidVector", "InvalidLabelling", "InvalidChain", "InvalidFamily", "InvalidColouring", "InvalidRow", "InvalidCut", "InvalidDeed", "Unfit", "InvalidLot", "InvalidSets", "InvalidLines", "InvalidText", "NothingToUndo", "NothingToRedo"] : List PySem.Str)
theorem run (w : World) : HandSHeadRun.RunEq R (PySem.W.view R.prog [29]) hk ob 12000 names w := by
  intro os
  kernel_rfl
end Mk
namespace Mk
open PySem Mp
/-- values of any kind: no cells, no defs, no row too long -/
def ov : Nat → D → Bool
  | _, .non => true
  | _, .bl _ => true
  | _, .int _ => true
  | _, .str x => PyData.strOk x && decide (x.length ≤ 1000)
  | n + 1, .tup xs => decide (xs.length ≤ 2000) && xs.all (ov n)
  | n + 1, .lst xs => decide (xs.length ≤ 2000) && xs.all (ov n)
  | _, .dct _ ks vs => frees 0 ks && frees 0 vs
  | _, _ => false
theorem ov_mono : ∀ (n m : Nat) (d : D), n ≤ m → ov n d = true → ov m d = true := by
  intro n
  induction n with
  | zero =>
    intro m d h
    cases m with
    | zero => exact id
    | succ m => cases d <;> simp [ov]
  | succ n ih =>
    intro m d h
    cases m with
    | zero => omega
    | succ m =>
      cases d <;> simp only [ov, Bool.and_eq_true, List.all_eq_true, Bool.false_eq_true, imp_self] <;> first
        | exact id
        | exact fun ⟨a, b⟩ => ⟨a, fun x hx => ih m x (by omega) (b x hx)⟩
def isTupB : D → Bool
  | .tup _ => true
  | _ => false
theorem ov_isT {n : Nat} {d : D} (h : ov n d = true) : isaD d .tuple = some (isTupB d) := by
  cases n <;> cases d <;> simp [ov] at h <;> rfl
theorem ov_rd {n : Nat} {d : D} (h : ov n d = true) (M : Cs) : rd M d = some d := by
  cases n <;> cases d <;> simp [ov] at h <;> rfl
/-- a whole number from a to b -/
def btw (d : D) (a b : Int) : Bool := match d with
  | .int i => decide (a ≤ i) && decide (i ≤ b)
  | _ => false
def isInt : D → Bool
  | .int _ => true
  | _ => false
/-- ascending whole numbers -/
def ltI : D → D → Bool
  | .int a, .int b => decide (a < b)
  | _, _ => false
def ascD : List D → Bool
  | [] => true
  | [_] => true
  | x :: y :: r => ltI x y && ascD (y :: r)
def lotB (n : Int) : D → Bool
  | .tup xs => !xs.isEmpty && (xs.all (fun x => btw x 0 (n - 1)) && ascD xs)
  | _ => false
theorem btw_int {d : D} {a b : Int} (h : btw d a b = true) : ∃ i, d = .int i ∧ a ≤ i ∧ i ≤ b := by
  cases d <;> simp [btw] at h
  exact ⟨_, rfl, h.1, h.2⟩
theorem all_ints {xs : List D} {a b : Int} (h : xs.all (fun x => btw x a b) = true) : ∃ is : List Int, xs = is.map .int ∧ ∀ i ∈ is, a ≤ i ∧ i ≤ b := by
  induction xs with
  | nil => exact ⟨[], rfl, by simp⟩
  | cons x xs ih =>
    simp only [List.all_cons, Bool.and_eq_true] at h
    obtain ⟨i, rfl, hi⟩ := btw_int h.1
    obtain ⟨is, rfl, his⟩ := ih h.2
    exact ⟨i :: is, rfl, by simpa using ⟨hi, his⟩⟩
theorem asc_ints : ∀ (is : List Int), ascD (is.map .int) = decide (is.Pairwise (· < ·))
  | [] => by simp [ascD]
  | [_] => by simp [ascD]
  | x :: y :: r => by
    have ih := asc_ints (y :: r)
    simp only [List.map_cons] at ih ⊢
    rw [ascD, ltI, ih, Bool.eq_iff_iff]
    simp only [Bool.and_eq_true, decide_eq_true_eq, List.pairwise_cons, List.mem_cons, forall_eq_or_imp]
    constructor
    · rintro ⟨a, b, c⟩
      exact ⟨⟨a, fun z hz => Int.lt_trans a (b z hz)⟩, b, c⟩
    · rintro ⟨⟨a, _⟩, b, c⟩
      exact ⟨a, b, c⟩
def goodFrom (n : Int) : Option D → List D → Bool
  | _, [] => true
  | p, y :: ys => (btw y 0 (n - 1) && (match p with
    | none => true
    | some q => ltI q y)) && goodFrom n (some y) ys
theorem goodFrom_some (n : Int) : ∀ (ys : List D) (q : D), goodFrom n (some q) ys = (ys.all (fun x => btw x 0 (n - 1)) && ascD (q :: ys))
  | [], q => by simp [goodFrom, ascD]
  | y :: ys, q => by
    rw [goodFrom, goodFrom_some n ys y, ascD, List.all_cons]
    cases btw y 0 (n - 1) <;> cases ltI q y <;> simp
theorem goodFrom_none (n : Int) (ys : List D) : goodFrom n none ys = (ys.all (fun x => btw x 0 (n - 1)) && ascD ys) := by
  cases ys with
  | nil => simp [goodFrom, ascD]
  | cons y ys =>
    rw [goodFrom, goodFrom_some, List.all_cons]
    cases btw y 0 (n - 1) <;> simp
theorem cmp_eq_nilT (xs : List D) : cmpD .Eq (.tup xs) (.tup []) = some xs.isEmpty := by
  simp only [cmpD]
  split
  · cases xs with
    | nil => simp [eqD, D.py, pys, PyData.eqv, PyData.eqvAll]
    | cons x xs => simp [eqD, D.py, pys, PyData.eqv, PyData.eqvAll]
  · rfl
/-- a well: a cell of three ints -/
def IsBag (M : Cs) (n : Nat) : Prop := ∃ a b c : Int, rd M (.cell n) = some (.lst [.int a, .int b, .int c])
theorem draw_ok (k : Nat) (n : Nat) (many : Int) (M : Cs) (h : IsBag M n) (h1 : 1 ≤ many) (h2 : many < 1073741824) : ∃ d a b c : Int, 0 ≤ d ∧ d < many ∧ callF P (k + 1) ix_law_draw [.cell n, .int many] M = .ok (.int d) (M.set n (some (.lst [.int a, .int b, .int c]))) := by
  obtain ⟨a, b, c, e⟩ := h
  rw [call_eq (F := mf_law_draw) rfl rfl]
  have hlt := rd_lt e
  have h0 : 0 < many := by omega
  by_cases ha : 0 < a
  · refine ⟨a % many, a / many, b, c, Int.emod_nonneg _ (by omega), Int.emod_lt_of_pos _ (by omega), ?_⟩
    simp [m_law_draw, e, ha, hlt, rd_set, divmodD, h0, h2, setD, L2.atI, L2.ixN, List.take_of_length_le]
  · obtain ⟨m, hm⟩ : ∃ m, m = (b * 48271 + 13007 * (c + 1)) % 2147483587 := ⟨_, rfl⟩
    have hmul := mulI m (m % 4993 + 20021) (Or.inr (by
      have h1 := Int.emod_nonneg m (b := 4993) (by decide)
      have h2 := Int.emod_lt_of_pos m (b := 4993) (by decide)
      simp only [big]; omega))
    refine ⟨(m * (m % 4993 + 20021) + (c + 1)) % 2147483587 / 983 % many, a, (m * (m % 4993 + 20021) + (c + 1)) % 2147483587, c + 1, Int.emod_nonneg _ (by omega), Int.emod_lt_of_pos _ (by omega), ?_⟩
    simp [m_law_draw, e, ha, hlt, rd_set, h0, h2, setD, L2.atI, L2.ixN, List.take_of_length_le, mulI _ 48271 (Or.inr (by decide)), mulI 13007 _ (Or.inl (by decide)), modI _ 2147483587 (by decide), modI _ many h0, ← hm, modI m 4993 (by decide), hmul, fdivI _ 983 (by decide) (by decide)]

/-- only the bag has changed -/
def Bm (n : Nat) (M M' : Cs) : Prop := ∃ a b c : Int, M' = M.set n (some (.lst [.int a, .int b, .int c]))
theorem Bm.bag {n : Nat} {M M' : Cs} (h : Bm n M M') (hn : n < M.length) : IsBag M' n := by
  obtain ⟨a, b, c, rfl⟩ := h
  exact ⟨a, b, c, rd_set M n _ hn⟩
theorem Bm.len {n : Nat} {M M' : Cs} (h : Bm n M M') : M'.length = M.length := by
  obtain ⟨a, b, c, rfl⟩ := h
  simp
theorem Bm.tk {n : Nat} {M M' : Cs} (h : Bm n M M') : M'.take M.length = M' := by
  rw [← h.len]; simp
theorem Bm.trans {n : Nat} {M M1 M2 : Cs} (h : Bm n M M1) (h2 : Bm n M1 M2) : Bm n M M2 := by
  obtain ⟨a, b, c, rfl⟩ := h
  obtain ⟨d, e, f, rfl⟩ := h2
  exact ⟨d, e, f, by simp⟩
theorem IsBag.lt {n : Nat} {M : Cs} (h : IsBag M n) : n < M.length := by
  obtain ⟨a, b, c, e⟩ := h
  exact rd_lt e
theorem Bm.refl {n : Nat} {M : Cs} (h : IsBag M n) : Bm n M M := by
  obtain ⟨a, b, c, e⟩ := h
  refine ⟨a, b, c, ?_⟩
  have h1 := rd_at e
  have h2 := rd_lt e
  apply List.ext_getElem?
  intro i
  rw [List.getElem?_set]
  split
  · rename_i h; subst h; rw [h1]
  · rfl
theorem draw_ok' (k : Nat) (n : Nat) (many : Int) (M : Cs) (h : IsBag M n) (h1 : 1 ≤ many) (h2 : many < 1073741824) : ∃ (d : Int) (M' : Cs), 0 ≤ d ∧ d < many ∧ Bm n M M' ∧ IsBag M' n ∧ callF P (k + 1) ix_law_draw [.cell n, .int many] M = .ok (.int d) M' := by
  obtain ⟨d, a, b, c, h0, hd, e⟩ := draw_ok k n many M h h1 h2
  have hb : Bm n M (M.set n (some (.lst [.int a, .int b, .int c]))) := ⟨a, b, c, rfl⟩
  exact ⟨d, _, h0, hd, hb, hb.bag h.lt, e⟩
theorem pop_ok (xs : List D) (d : Int) (h0 : 0 ≤ d) (h : d < xs.length) (hs : xs.length ≤ 1000000) : popD (.lst xs) [.int d] = some (.lst (xs.eraseIdx d.toNat), xs[d.toNat]'(by omega)) := by
  have h1 : seqIndex? d xs.length = some d.toNat := by
    simp only [seqIndex?]
    rw [if_neg (show ¬ d < 0 by omega)]
    simp [h0, h]
  have h2 : (-(2 ^ 63) ≤ d && decide (d < 2 ^ 63)) = true := by
    simp only [Bool.and_eq_true, decide_eq_true_eq]; omega
  simp only [popD]
  rw [if_pos h2, h1]
  simp only
  rw [List.getElem?_eq_getElem (by omega)]
theorem erase_perm {α : Type} : ∀ (xs : List α) (i : Nat) (h : i < xs.length), (xs[i] :: xs.eraseIdx i).Perm xs
  | [], _, h => by simp at h
  | x :: xs, 0, _ => by simp
  | x :: xs, i + 1, h => by
    have := erase_perm xs i (by simpa using h)
    simp only [List.getElem_cons_succ, List.eraseIdx_cons_succ]
    exact (List.Perm.swap _ _ _).trans (this.cons x)
theorem rd_ap0 (M : Cs) (L : Nat) (a b : D) (h : M.length = L) : rd (M ++ [some a, some b]) (.cell L) = some a := by subst h; simp [rd]
theorem rd_ap1 (M : Cs) (L : Nat) (a b : D) (h : M.length = L) : rd (M ++ [some a, some b]) (.cell (L + 1)) = some b := by subst h; simp [rd]
theorem rd_apl (M : Cs) (n : Nat) (X : Cs) (h : n < M.length) : rd (M ++ X) (.cell n) = rd M (.cell n) := by simp [rd, List.getElem?_append_left h]
theorem set_ap0 (M : Cs) (L : Nat) (a b c : Option D) (h : M.length = L) : (M ++ [a, b]).set L c = M ++ [c, b] := by subst h; simp
theorem set_ap1 (M : Cs) (L : Nat) (a b c : Option D) (h : M.length = L) : (M ++ [a, b]).set (L + 1) c = M ++ [a, c] := by
  subst h
  rw [List.set_append_right _ _ (by omega)]
  simp
theorem set_apl (M : Cs) (n : Nat) (X : Cs) (c : Option D) (h : n < M.length) : (M ++ X).set n c = M.set n c ++ X := List.set_append_left _ _ h
theorem IsBag.ap {M : Cs} {n : Nat} (h : IsBag M n) (X : Cs) : IsBag (M ++ X) n := by
  obtain ⟨a, b, c, e⟩ := h
  exact ⟨a, b, c, by rw [rd_apl _ _ _ (rd_lt e), e]⟩

theorem one_ok (k c : Nat) (xs : List D) (M : Cs) (h : IsBag M c) (h1 : xs ≠ []) (h2 : xs.length ≤ 1000000) (hf : ∀ x ∈ xs, x.free 0 = true) :
    ∃ x M', x ∈ xs ∧ Bm c M M' ∧ IsBag M' c ∧ callF P (k + 2) ix_law_one [.cell c, .tup xs] M = .ok x M' := by
  have hpos : 0 < xs.length := List.length_pos_iff.mpr h1
  obtain ⟨d, M1, a1, b1, c1, g1, e1⟩ := draw_ok' k c xs.length M h (by omega) (by omega)
  obtain ⟨i, rfl⟩ : ∃ i : Nat, d = i := ⟨d.toNat, by omega⟩
  have hi : i < xs.length := by omega
  refine ⟨xs[i], M1, List.getElem_mem hi, c1, g1, ?_⟩
  rw [call_eq (F := mf_law_one) rfl rfl]
  simp [m_law_one, e1, atI_get xs i hi, hf _ (List.getElem_mem hi), c1.tk]
theorem one_ok_l (k c : Nat) (xs : List D) (M : Cs) (h : IsBag M c) (h1 : xs ≠ []) (h2 : xs.length ≤ 1000000) (hf : ∀ x ∈ xs, x.free 0 = true) :
    ∃ x M', x ∈ xs ∧ Bm c M M' ∧ IsBag M' c ∧ callF P (k + 2) ix_law_one [.cell c, .lst xs] M = .ok x M' := by
  have hpos : 0 < xs.length := List.length_pos_iff.mpr h1
  obtain ⟨d, M1, a1, b1, c1, g1, e1⟩ := draw_ok' k c xs.length M h (by omega) (by omega)
  obtain ⟨i, rfl⟩ : ∃ i : Nat, d = i := ⟨d.toNat, by omega⟩
  have hi : i < xs.length := by omega
  refine ⟨xs[i], M1, List.getElem_mem hi, c1, g1, ?_⟩
  rw [call_eq (F := mf_law_one) rfl rfl]
  simp [m_law_one, e1, atI_get xs i hi, hf _ (List.getElem_mem hi), c1.tk]
theorem well_ok (k : Nat) (ns : List Int) (turn : Nat) (M : Cs) : ∃ a b c : Int, callF P (k + 1) ix_law_well [.scr ns, .int turn] M = .ok (.cell M.length) (M ++ [some (.lst [.int a, .int b, .int c])]) := by
  rw [call_eq (F := mf_law_well) rfl rfl]
  simp [m_law_well, mulI 4001 _ (Or.inl (by decide)), slcD, partD, ptD, intD?]
  generalize hr : forGo _ _ _ _ _ = r
  obtain ⟨σ', rfl, s, x, rfl⟩ : ∃ σ', r = .nx σ' M ∧ ∃ s : Int, ∃ x, σ' = [some (.scr ns), some (.int turn), some (.int s), x, none] := by
    rw [← hr]
    refine forGo_fold .int (fun (_ : Unit) σ => ∃ s : Int, ∃ x, σ = [some (.scr ns), some (.int turn), some (.int s), x, none]) (fun _ _ => ()) _ () _ ?_ ⟨_, none, rfl⟩
    rintro e he _ σ ⟨s, x, rfl⟩
    refine ⟨[some (.scr ns), some (.int turn), some (.int ((s * 40127 + e % 2147483587 * 11 + 17) % 2147483587)), some (.int e), none], ?_, _, _, rfl⟩
    simp [mulI s 40127 (Or.inr (by decide)), modI e 2147483587 (by decide), mulI _ 11 (Or.inr (by decide)), modI _ 2147483587 (by decide)]
  by_cases ht : turn < ns.length
  · simp [ht, idxD, atI_get ns turn ht, mulI s 97 (Or.inr (by decide)), modI (ns[turn]) 2147483587 (by decide), mulI _ 20021 (Or.inr (by decide)), modI _ 2147483587 (by decide)]
    have hpow : binD .Pow (.int 10) (.int 15) = some (.int 1000000000000000) := by simp [binD]
    by_cases h1 : ns[turn] < 0
    · simp [h1, absD, hpow]
    · by_cases h2 : 1000000000000000 ≤ ns[turn]
      · simp [h1, h2, absD, hpow]
      · simp [h1, h2, hpow]
  · have hpow : binD .Pow (.int 10) (.int 15) = some (.int 1000000000000000) := by simp [binD]
    simp [ht, hpow, mulI s 97 (Or.inr (by decide)), modI 0 2147483587 (by decide), mulI _ 20021 (Or.inr (by decide)), modI _ 2147483587 (by decide)]
theorem whl_step (test : En → Cs → Res Bool) (step : En → Cs → SR) (n : Nat) (σ σ1 : En) (M M1 M2 : Cs) (h : test σ M = .ok true M1) (h2 : step σ M1 = .nx σ1 M2) : whlGo test step (n + 1) σ M = whlGo test step n σ1 M2 := by
  rw [whlGo, h]; simp only; rw [h2]
theorem whl_end (test : En → Cs → Res Bool) (step : En → Cs → SR) (n : Nat) (σ : En) (M M1 : Cs) (h : test σ M = .ok false M1) : whlGo test step (n + 1) σ M = .nx σ M1 := by
  rw [whlGo, h]
theorem cmp_ne_nil (n : Nat) (xs : List D) (h : xs.all (clean n) = true) (hn : n ≤ 50) : cmpD .NotEq (.lst xs) (.lst []) = some (!xs.isEmpty) := by
  rw [cmp_ne_c (n + 1) (by simpa using h) (by simp) (by omega)]
  cases xs <;> simp
/-- a comprehension that draws at each turn -/
theorem lcGo_bag {α : Type} {step : D → Cs → Res (List D)} (g : α → D) (Q : D → Prop) (c : Nat) (xs : List α) (M : Cs) (hb : IsBag M c) (h : ∀ a ∈ xs, ∀ M, IsBag M c → ∃ v M', Q v ∧ Bm c M M' ∧ step (g a) M = .ok [v] M') (hl : xs.length ≤ sizeLine) :
    ∃ vs M', vs.length = xs.length ∧ (∀ v ∈ vs, Q v) ∧ Bm c M M' ∧ IsBag M' c ∧ lcGo [] step (xs.map g) [] M = .ok vs M' := by
  have key : ∀ (xs : List α) (acc : List D) (M : Cs), IsBag M c → (∀ a ∈ xs, ∀ M, IsBag M c → ∃ v M', Q v ∧ Bm c M M' ∧ step (g a) M = .ok [v] M') → acc.length + xs.length ≤ sizeLine →
      ∃ vs M', vs.length = xs.length ∧ (∀ v ∈ vs, Q v) ∧ Bm c M M' ∧ lcGo [] step (xs.map g) acc M = .ok (acc ++ vs) M' := fun xs => by
    induction xs with
    | nil => intro acc M hb _ _; exact ⟨[], M, rfl, by simp, Bm.refl hb, by rw [List.map_nil, lcGo]; simp⟩
    | cons x xs ih =>
      intro acc M hb h hl
      simp only [List.length_cons] at hl
      obtain ⟨v, M1, q, b1, e1⟩ := h x List.mem_cons_self M hb
      obtain ⟨vs, M2, l2, q2, b2, e2⟩ := ih (acc ++ [v]) M1 (b1.bag hb.lt) (fun a ha => h a (List.mem_cons_of_mem _ ha)) (by simp; omega)
      refine ⟨v :: vs, M2, by simp [l2], ?_, b1.trans b2, ?_⟩
      · intro w hw
        rw [List.mem_cons] at hw
        rcases hw with rfl | hw
        · exact q
        · exact q2 w hw
      · rw [List.map_cons, lcGo, e1]
        simp only
        rw [if_pos (by simp; omega), e2]
        simp
  obtain ⟨vs, M', a, b, d, e⟩ := key xs [] M hb h (by simpa using hl)
  exact ⟨vs, M', a, b, d, d.bag hb.lt, by simpa using e⟩
@[simp] theorem intsD_len (n : Nat) : (intsD n).length = n := by simp [intsD]
theorem ints_of {vs : List D} {p : Int → Prop} (h : ∀ v ∈ vs, ∃ i : Int, v = .int i ∧ p i) : ∃ is : List Int, vs = is.map .int ∧ ∀ i ∈ is, p i := by
  induction vs with
  | nil => exact ⟨[], rfl, by simp⟩
  | cons v vs ih =>
    obtain ⟨i, rfl, hp⟩ := h v List.mem_cons_self
    obtain ⟨is, rfl, hps⟩ := ih fun w hw => h w (List.mem_cons_of_mem _ hw)
    refine ⟨i :: is, rfl, fun j hj => ?_⟩
    rw [List.mem_cons] at hj
    rcases hj with rfl | hj
    · exact hp
    · exact hps j hj
def pm1 (i : Int) : Prop := i = 1 ∨ i = -1
/-- n drawn signs -/
theorem signs_ok (k c n : Nat) (M : Cs) (h : IsBag M c) (hn : n ≤ 1000) (σ : En) (hσ : σ[0]? = some (some (.cell c))) (ix : Nat) (hix : ix ≠ 0) : ∃ (is : List Int) (M' : Cs), is.length = n ∧ (∀ i ∈ is, pm1 i) ∧ Bm c M M' ∧ IsBag M' c ∧
    lcGo [] (kt_evE_lc_2 ⟨callF P (k + 2), k + 2⟩ [ix] (.call ix_law_one (.cons (.var 0) (.cons (.tup (.cons (.con (.int 1)) (.cons (.con (.int 1)) (.cons (.neg (.con (.int 1))) .nil)))) .nil)) .nil []) (.nm ix) .nil σ) (intsD n) [] M = .ok (is.map .int) M' := by
  obtain ⟨vs, M', l, q, b, g, e⟩ := lcGo_bag (fun i : Nat => .int (i : Int)) (fun v => ∃ i : Int, v = .int i ∧ pm1 i) c (List.range n) M h (step := kt_evE_lc_2 ⟨callF P (k + 2), k + 2⟩ [ix] (.call ix_law_one (.cons (.var 0) (.cons (.tup (.cons (.con (.int 1)) (.cons (.con (.int 1)) (.cons (.neg (.con (.int 1))) .nil)))) .nil)) .nil []) (.nm ix) .nil σ) (by
    intro a _ M hb
    obtain ⟨v, M1, hv, b1, g1, e1⟩ := one_ok k c [.int 1, .int 1, .int (-1)] M hb (by simp) (by simp) (by simp)
    refine ⟨v, M1, ?_, b1, ?_⟩
    · simp only [List.mem_cons, List.not_mem_nil, or_false] at hv
      rcases hv with rfl | rfl | rfl
      · exact ⟨1, rfl, Or.inl rfl⟩
      · exact ⟨1, rfl, Or.inl rfl⟩
      · exact ⟨-1, rfl, Or.inr rfl⟩
    · have h0 : (List.set σ ix (some (.int (a : Int))))[0]? = some (some (.cell c)) := by rw [List.getElem?_set_ne hix, hσ]
      simp [h0, e1]) (by rw [List.length_range]; exact small (by omega))
  obtain ⟨is, rfl, hp⟩ := ints_of q
  exact ⟨is, M', by simpa using l, hp, b, g, e⟩



end Mk
/-! Weakest preconditions of the evaluator: one rule for each form of the text. -/
namespace Mp
open PySem
def Res.wp {α : Type} (r : Res α) (Q : α → Cs → Prop) (E : D → Cs → Prop) : Prop := match r with
  | .ok a M => Q a M
  | .ex e M => E e M
  | .bad => False
theorem wp_ok {α : Type} {a : α} {M : Cs} {Q : α → Cs → Prop} {E : D → Cs → Prop} (q : Q a M) : (Res.ok a M).wp Q E := q
theorem wp_bind {α β : Type} {r : Res α} {f : α → Cs → Res β} {Q : β → Cs → Prop} {E : D → Cs → Prop} (h : r.wp (fun a M => (f a M).wp Q E) E) : (r.bind f).wp Q E := by
  cases r <;> exact h
theorem wp_mono {α : Type} {r : Res α} {Q R : α → Cs → Prop} {E F : D → Cs → Prop} (h : r.wp Q E) (q : ∀ a M, Q a M → R a M) (e : ∀ d M, E d M → F d M) : r.wp R F := by
  cases r with
  | ok a M => exact q _ _ h
  | ex d M => exact e _ _ h
  | bad => exact h
theorem wp_of {α : Type} {r : Res α} {a : α} {M : Cs} {Q : α → Cs → Prop} {E : D → Cs → Prop} (h : r = .ok a M) (q : Q a M) : r.wp Q E := by rw [h]; exact q
theorem wp_ofx {α : Type} {r : Res α} {d : D} {M : Cs} {Q : α → Cs → Prop} {E : D → Cs → Prop} (h : r = .ex d M) (q : E d M) : r.wp Q E := by rw [h]; exact q
theorem wp_eq {α : Type} {r : Res α} {v : α} {M : Cs} (h : r.wp (fun a M' => a = v ∧ M' = M) (fun _ _ => False)) : r = .ok v M := by
  cases r with
  | ok a M' => obtain ⟨rfl, rfl⟩ := h; rfl
  | ex d M' => exact h.elim
  | bad => exact h.elim
theorem wp_exeq {α : Type} {r : Res α} {v : D} {M : Cs} (h : r.wp (fun _ _ => False) (fun a M' => a = v ∧ M' = M)) : r = .ex v M := by
  cases r with
  | ex a M' => obtain ⟨rfl, rfl⟩ := h; rfl
  | ok d M' => exact h.elim
  | bad => exact h.elim
theorem wp_get {α : Type} {r : Res α} {Q : α → Cs → Prop} (h : r.wp Q (fun _ _ => False)) : ∃ a M, r = .ok a M ∧ Q a M := by
  cases r with
  | ok a M => exact ⟨a, M, rfl, h⟩
  | ex d M => exact h.elim
  | bad => exact h.elim

/-- an option's value -/
@[irreducible] def wOp {α : Type} (o : Option α) (M : Cs) (Q : α → Cs → Prop) : Prop := ∃ z, o = some z ∧ Q z M
theorem wOp_i {α : Type} {o : Option α} {M : Cs} {Q : α → Cs → Prop} {z : α} (h : o = some z) (q : Q z M) : wOp o M Q := by rw [wOp]; exact ⟨z, h, q⟩
theorem wOp_e {α : Type} {o : Option α} {M : Cs} {Q : α → Cs → Prop} (h : wOp o M Q) : ∃ z, o = some z ∧ Q z M := by rw [wOp] at h; exact h
theorem wOp_s {α : Type} {o o' : Option α} {M : Cs} {Q : α → Cs → Prop} (h : o = o') (q : wOp o' M Q) : wOp o M Q := by rw [h]; exact q
theorem wp_opt {α : Type} {o : Option α} {M : Cs} {Q : α → Cs → Prop} {E : D → Cs → Prop} (h : wOp o M Q) : (opt o M).wp Q E := by
  obtain ⟨z, h, q⟩ := wOp_e h
  rw [h]; exact q
/-- a row in another form -/
@[irreducible] def wLs (ds : List D) (A : List D → Prop) : Prop := A ds
theorem wLs_s {ds ds' : List D} {A : List D → Prop} (h : ds = ds') (a : A ds') : wLs ds A := by rw [wLs, h]; exact a
theorem wLs_e {ds : List D} {A : List D → Prop} (h : wLs ds A) : A ds := by rw [wLs] at h; exact h
/-- what is read -/
@[irreducible] def wRd (M : Cs) (x : D) (K : D → Prop) : Prop := ∃ a, rd M x = some a ∧ K a
theorem wRd_i {M : Cs} {x a : D} {K : D → Prop} (h : rd M x = some a) (q : K a) : wRd M x K := by rw [wRd]; exact ⟨a, h, q⟩
theorem wRd_e {M : Cs} {x : D} {K : D → Prop} (h : wRd M x K) : ∃ a, rd M x = some a ∧ K a := by rw [wRd] at h; exact h
theorem rd2_some {M : Cs} {x y : D} {α : Type} {f : D → D → Option α} {K : α → Prop} {N : Cs} {K' : α → Cs → Prop} (hK : ∀ z, K' z N → K z) (h : wRd M x fun x' => wRd M y fun y' => wOp (f x' y') N K') : ∃ z, ((rd M x).bind fun x' => (rd M y).bind fun y' => f x' y') = some z ∧ K z := by
  obtain ⟨a, h1, h⟩ := wRd_e h
  obtain ⟨b, h2, h⟩ := wRd_e h
  obtain ⟨z, h3, q⟩ := wOp_e h
  refine ⟨z, ?_, hK z q⟩
  rw [h1, Option.bind_some, h2, Option.bind_some, h3]
theorem rd1_some {M : Cs} {x : D} {α : Type} {f : D → Option α} {K : α → Prop} {N : Cs} {K' : α → Cs → Prop} (hK : ∀ z, K' z N → K z) (h : wRd M x fun x' => wOp (f x') N K') : ∃ z, ((rd M x).bind fun x' => f x') = some z ∧ K z := by
  obtain ⟨a, h1, h⟩ := wRd_e h
  obtain ⟨z, h3, q⟩ := wOp_e h
  refine ⟨z, ?_, hK z q⟩
  rw [h1, Option.bind_some, h3]
theorem wOp_o {α : Type} {o : Option α} {M : Cs} {Q : α → Cs → Prop} (h : ∃ z, o = some z ∧ Q z M) : wOp o M Q := by rw [wOp]; exact h
/-- a test's two ways -/
@[irreducible] def wIf (b : Bool) (A B : Prop) : Prop := (b = true → A) ∧ (b = false → B)
theorem wIf_t {b : Bool} {A B : Prop} (h : b = true) (a : A) : wIf b A B := by rw [wIf]; exact ⟨fun _ => a, fun e => by rw [h] at e; cases e⟩
theorem wIf_f {b : Bool} {A B : Prop} (h : b = false) (a : B) : wIf b A B := by rw [wIf]; exact ⟨fun e => (by rw [h] at e; cases e), fun _ => a⟩
theorem wIf_s {b b' : Bool} {A B : Prop} (h : b = b') (q : wIf b' A B) : wIf b A B := by rw [h]; exact q
theorem wIf_i {b : Bool} {A B : Prop} (h : b = true → A) (h2 : b = false → B) : wIf b A B := by rw [wIf]; exact ⟨h, h2⟩
theorem wIf_e {b : Bool} {A B : Prop} (h : wIf b A B) : (b = true → A) ∧ (b = false → B) := by rw [wIf] at h; exact h
theorem wp_ite {α : Type} {b : Bool} {x y : Res α} {Q : α → Cs → Prop} {E : D → Cs → Prop} (h : wIf b (x.wp Q E) (y.wp Q E)) : (if b = true then x else y).wp Q E := by
  cases b with
  | true => exact (wIf_e h).1 rfl
  | false => exact (wIf_e h).2 rfl
/-- what has to hold besides -/
@[irreducible] def wGd (c A : Prop) : Prop := c ∧ A
theorem wGd_i {c A : Prop} (h : c) (a : A) : wGd c A := by rw [wGd]; exact ⟨h, a⟩
theorem wGd_e {c A : Prop} (h : wGd c A) : c ∧ A := by rw [wGd] at h; exact h
theorem wp_gd {α : Type} {c : Prop} [Decidable c] {x : Res α} {Q : α → Cs → Prop} {E : D → Cs → Prop} (h : wGd c (x.wp Q E)) : (if c then x else .bad).wp Q E := by
  rw [if_pos (wGd_e h).1]; exact (wGd_e h).2
/-- a test's value told, and what follows where it is true -/
@[irreducible] def wCk (k k' : Bool) (M M' : Cs) (A : Prop) : Prop := (k = k' ∧ M' = M) ∧ (k' = true → A)
theorem wCk_i {k k' : Bool} {M : Cs} {A : Prop} (h : k = k') (a : k' = true → A) : wCk k k' M M A := by rw [wCk]; exact ⟨⟨h, rfl⟩, a⟩
theorem wCk_e {k k' : Bool} {M M' : Cs} {A : Prop} (h : wCk k k' M M' A) : (k = k' ∧ M' = M) ∧ (k' = true → A) := by rw [wCk] at h; exact h
/-- cells as they are behind a change -/
@[irreducible] def wM (M : Cs) (A : Cs → Prop) : Prop := A M
theorem wM_s {M M' : Cs} {A : Cs → Prop} (h : M = M') (a : A M') : wM M A := by rw [wM, h]; exact a
theorem wM_e {M : Cs} {A : Cs → Prop} (h : wM M A) : A M := by rw [wM] at h; exact h

section
variable (C : Cl)
@[irreducible] def wE (e : ME) (σ : En) (M : Cs) (Q : D → Cs → Prop) (E : D → Cs → Prop) : Prop := (evE C e σ M).wp Q E
@[irreducible] def wB (e : MB) (σ : En) (M : Cs) (Q : Bool → Cs → Prop) (E : D → Cs → Prop) : Prop := (evB C e σ M).wp Q E
@[irreducible] def wEs (e : MEs) (σ : En) (M : Cs) (Q : List D → Cs → Prop) (E : D → Cs → Prop) : Prop := (evEs C e σ M).wp Q E
@[irreducible] def wPs (e : MPs) (σ : En) (M : Cs) (Q : List D × List D → Cs → Prop) (E : D → Cs → Prop) : Prop := (evPs C e σ M).wp Q E
@[irreducible] def wO (e : MO) (σ : En) (M : Cs) (Q : Option Int → Cs → Prop) (E : D → Cs → Prop) : Prop := (evO C e σ M).wp Q E
@[irreducible] def wC (e : MC) (σ : En) (M : Cs) (Q : Bool → Cs → Prop) (E : D → Cs → Prop) : Prop := (evC C e σ M).wp Q E
@[irreducible] def wI (e : MI) (σ : En) (M : Cs) (Q : List D × List Nat → Cs → Prop) (E : D → Cs → Prop) : Prop := (evI C e σ M).wp Q E
@[irreducible] def wT (t : MT) (d : D) (σ : En) (M : Cs) (Q : En → Cs → Prop) (E : D → Cs → Prop) : Prop := (evT C t d σ M).wp Q E
@[irreducible] def wTs (t : MTs) (d : List D) (σ : En) (M : Cs) (Q : En → Cs → Prop) (E : D → Cs → Prop) : Prop := (evTs C t d σ M).wp Q E
/-- a call -/
@[irreducible] def wCl (f : Nat) (ds : List D) (M : Cs) (Q : D → Cs → Prop) (E : D → Cs → Prop) : Prop := (C.call f ds M).wp Q E
def lcStep (own : List Nat) (e : ME) (t : MT) (c : MC) (σ : En) (d : D) (M : Cs) : Res (List D) := (evT C t d (wip σ own) M).bind fun σ1 M2 => (evC C c σ1 M2).bind fun b M3 => if b = true then (evE C e σ1 M3).bind fun x M4 => .ok [x] M4 else .ok [] M3
/-- a comprehension's values -/
@[irreducible] def wLc (own : List Nat) (e : ME) (t : MT) (c : MC) (σ : En) (ds acc : List D) (ws : List Nat) (M : Cs) (Q : List D → Cs → Prop) (E : D → Cs → Prop) : Prop := (lcGo ws (lcStep C own e t c σ) ds acc M).wp Q E
def lc2Step (own own1 : List Nat) (e : ME) (t : MT) (c : MC) (t1 : MT) (it1 : MI) (c1 : MC) (σ : En) (d : D) (M : Cs) : Res (List D) := (evT C t d (wip σ own) M).bind fun σ1 M2 => (evC C c σ1 M2).bind fun b M3 => if b = true then
      (evI C it1 σ1 M3).bind fun ds1 M4 => lcGo ds1.2 (lcStep C own1 e t1 c1 σ1) ds1.1 [] M4 else .ok [] M3
@[irreducible] def wLc2 (own own1 : List Nat) (e : ME) (t : MT) (c : MC) (t1 : MT) (it1 : MI) (c1 : MC) (σ : En) (ds acc : List D) (ws : List Nat) (M : Cs) (Q : List D → Cs → Prop) (E : D → Cs → Prop) : Prop := (lcGo ws (lc2Step C own own1 e t c t1 it1 c1 σ) ds acc M).wp Q E
def dcStep (own : List Nat) (k v : ME) (t : MT) (c : MC) (σ : En) (d : D) (M : Cs) : Res (Option (D × D)) := (evT C t d (wip σ own) M).bind fun σ1 M2 => (evC C c σ1 M2).bind fun q M3 => if q = true then (evE C k σ1 M3).bind fun x M4 => (evE C v σ1 M4).bind fun y M5 => .ok (some (x, y)) M5 else .ok none M3
@[irreducible] def wDc (b : Bool) (own : List Nat) (k v : ME) (t : MT) (c : MC) (σ : En) (ds : List D) (ws : List Nat) (ks vs : List D) (M : Cs) (Q : List D × List D → Cs → Prop) (E : D → Cs → Prop) : Prop := (dcGo b ws (dcStep C own k v t c σ) ds ks vs M).wp Q E
end

variable {C : Cl} {σ : En} {M : Cs} {E : D → Cs → Prop}
section
variable {Q : D → Cs → Prop}
theorem wE_var {i : Nat} {d : D} (h : σ[i]? = some (some d)) (q : Q d M) : wE C (.var i) σ M Q E := by
  rw [wE, evE, h]; exact q
theorem wE_con {d : D} (q : Q d M) : wE C (.con d) σ M Q E := by rw [wE, evE]; exact q
theorem wE_gl {x : Str} {d : D} (q : Q d M) : wE C (.gl x d) σ M Q E := by rw [wE, evE]; exact q
theorem wE_fn {x : Str} (q : Q (.fn x) M) : wE C (.fn x) σ M Q E := by rw [wE, evE]; exact q
theorem wE_bin {o : Operator} {a b : ME} (h : wE C a σ M (fun x M1 => wE C b σ M1 (fun y M2 => wRd M2 x fun x' => wRd M2 y fun y' => wOp (binD o x' y') M2 Q) E) E) : wE C (.bin o a b) σ M Q E := by
  rw [wE, evE]
  with_unfolding_all exact wp_bind (wp_mono h (fun x M1 h => wp_bind (wp_mono h (fun y M2 h => wp_opt (wOp_o (rd2_some (fun _ q => q) h))) (fun _ _ h => h))) (fun _ _ h => h))
def negD : D → Option D
  | .int i => some (.int (-i))
  | _ => none
@[simp] theorem negD_int (i : Int) : negD (.int i) = some (.int (-i)) := id rfl
theorem wE_neg {a : ME} (h : wE C a σ M (fun x M1 => wOp (negD x) M1 Q) E) : wE C (.neg a) σ M Q E := by
  rw [wE, evE]
  with_unfolding_all refine wp_bind (wp_mono h (fun x M1 h => ?_) (fun _ _ h => h))
  obtain ⟨z, h, q⟩ := wOp_e h
  cases x <;> simp only [negD, Option.some.injEq, reduceCtorEq] at h
  subst h; exact q
theorem wE_not {a : MB} (h : wB C a σ M (fun b M1 => Q (.bl (!b)) M1) E) : wE C (.not a) σ M Q E := by
  rw [wE, evE]
  with_unfolding_all exact wp_bind (wp_mono h (fun x M1 h => h) (fun _ _ h => h))
theorem wE_and {a b : ME} (h : wE C a σ M (fun x M1 => wRd M1 x fun x' => wOp (truthD x') M1 (fun k M1 => wIf k (wE C b σ M1 Q E) (Q x M1))) E) : wE C (.and a b) σ M Q E := by
  rw [wE, evE]
  with_unfolding_all refine wp_bind (wp_mono h (fun x M1 h => ?_) (fun _ _ h => h))
  obtain ⟨z, h, q⟩ := rd1_some (fun _ q => q) h
  rw [h]
  cases z with
  | true => with_unfolding_all exact (wIf_e q).1 rfl
  | false => with_unfolding_all exact (wIf_e q).2 rfl
theorem wE_or {a b : ME} (h : wE C a σ M (fun x M1 => wRd M1 x fun x' => wOp (truthD x') M1 (fun k M1 => wIf k (Q x M1) (wE C b σ M1 Q E))) E) : wE C (.or a b) σ M Q E := by
  rw [wE, evE]
  with_unfolding_all refine wp_bind (wp_mono h (fun x M1 h => ?_) (fun _ _ h => h))
  obtain ⟨z, h, q⟩ := rd1_some (fun _ q => q) h
  rw [h]
  cases z with
  | true => with_unfolding_all exact (wIf_e q).1 rfl
  | false => with_unfolding_all exact (wIf_e q).2 rfl
theorem wE_cmp {o : CmpOp} {a b : ME} (h : wE C a σ M (fun x M1 => wE C b σ M1 (fun y M2 => wRd M2 x fun x' => wRd M2 y fun y' => wOp (cmpD o x' y') M2 (fun k M2 => Q (.bl k) M2)) E) E) : wE C (.cmp o a b) σ M Q E := by
  rw [wE, evE]
  with_unfolding_all refine wp_bind (wp_mono h (fun x M1 h => wp_bind (wp_mono h (fun y M2 h => ?_) (fun _ _ h => h))) (fun _ _ h => h))
  obtain ⟨z, h, q⟩ := rd2_some (fun _ q => q) h
  have : ((rd M2 x).bind fun x' => (rd M2 y).bind fun y' => (cmpD o x' y').map D.bl) = some (.bl z) := by
    cases hx : rd M2 x <;> rw [hx] at h <;> simp only [Option.bind_some, Option.bind_none, reduceCtorEq] at h ⊢
    cases hy : rd M2 y <;> rw [hy] at h <;> simp only [Option.bind_some, Option.bind_none, reduceCtorEq] at h ⊢
    rw [h]; rfl
  rw [this]
  exact q
theorem wE_chain {o p : CmpOp} {a b c : ME} (h : wE C a σ M (fun x M1 => wE C b σ M1 (fun y M2 => wRd M2 x fun x' => wRd M2 y fun y' => wOp (cmpD o x' y') M2 (fun k M2 => wIf k (wE C c σ M2 (fun z M3 => wRd M3 y fun y' => wRd M3 z fun z' => wOp (cmpD p y' z') M3 (fun k M3 => Q (.bl k) M3)) E) (Q (.bl false) M2))) E) E) : wE C (.chain o p a b c) σ M Q E := by
  rw [wE, evE]
  with_unfolding_all refine wp_bind (wp_mono h (fun x M1 h => wp_bind (wp_mono h (fun y M2 h => ?_) (fun _ _ h => h))) (fun _ _ h => h))
  obtain ⟨k, h, q⟩ := rd2_some (fun _ q => q) h
  rw [h]
  cases k with
  | false => with_unfolding_all exact (wIf_e q).2 rfl
  | true =>
    with_unfolding_all refine wp_bind (wp_mono ((wIf_e q).1 rfl) (fun z M3 h => ?_) (fun _ _ h => h))
    obtain ⟨u, h, q⟩ := rd2_some (fun _ q => q) h
    have : ((rd M3 y).bind fun x' => (rd M3 z).bind fun y' => (cmpD p x' y').map D.bl) = some (.bl u) := by
      cases hx : rd M3 y <;> rw [hx] at h <;> simp only [Option.bind_some, Option.bind_none, reduceCtorEq] at h ⊢
      cases hy : rd M3 z <;> rw [hy] at h <;> simp only [Option.bind_some, Option.bind_none, reduceCtorEq] at h ⊢
      rw [h]; rfl
    rw [this]
    exact q
theorem wE_ite {c : MB} {a b : ME} (h : wB C c σ M (fun k M1 => wIf k (wE C a σ M1 Q E) (wE C b σ M1 Q E)) E) : wE C (.ite c a b) σ M Q E := by
  rw [wE, evE]
  with_unfolding_all refine wp_bind (wp_mono h (fun k M1 h => wp_ite h) (fun _ _ h => h))
theorem wE_idx {a b : ME} (h : wE C a σ M (fun x M1 => wE C b σ M1 (fun y M2 => wRd M2 x fun x' => wRd M2 y fun y' => wOp (idxD x' y') M2 Q) E) E) : wE C (.idx a b) σ M Q E := by
  rw [wE, evE]
  with_unfolding_all exact wp_bind (wp_mono h (fun x M1 h => wp_bind (wp_mono h (fun y M2 h => wp_opt (wOp_o (rd2_some (fun _ q => q) h))) (fun _ _ h => h))) (fun _ _ h => h))
theorem wE_slc {a : ME} {lo hi : MO} (h : wE C a σ M (fun x M1 => wO C lo σ M1 (fun l M2 => wO C hi σ M2 (fun u M3 => wRd M3 x fun x' => wOp (slcD x' (ptD l) (ptD u) .non) M3 Q) E) E) E) : wE C (.slc a lo hi) σ M Q E := by
  rw [wE, evE]
  with_unfolding_all exact wp_bind (wp_mono h (fun x M1 h => wp_bind (wp_mono h (fun y M2 h => wp_bind (wp_mono h (fun z M3 h => wp_opt (wOp_o (rd1_some (fun _ q => q) h))) (fun _ _ h => h))) (fun _ _ h => h))) (fun _ _ h => h))
theorem wE_tup {es : MEs} (h : wEs C es σ M (fun xs M1 => wGd (xs.length ≤ sizeLine) (Q (.tup xs) M1)) E) : wE C (.tup es) σ M Q E := by
  rw [wE, evE]
  with_unfolding_all exact wp_bind (wp_mono h (fun x M1 h => wp_gd h) (fun _ _ h => h))
theorem wE_lst {es : MEs} (h : wEs C es σ M (fun xs M1 => wGd (xs.length ≤ sizeLine) (Q (.lst xs) M1)) E) : wE C (.lst es) σ M Q E := by
  rw [wE, evE]
  with_unfolding_all exact wp_bind (wp_mono h (fun x M1 h => wp_gd h) (fun _ _ h => h))
theorem wE_dsp {t : Bool} {ps : MPs} (h : wPs C ps σ M (fun ps M1 => wGd ((ps.1.all (isKey t) && decide (ps.1.length ≤ 15)) = true) (Q (.dct t (putsD ps.1 ps.2 [] []).1 (putsD ps.1 ps.2 [] []).2) M1)) E) : wE C (.dsp t ps) σ M Q E := by
  rw [wE, evE]
  with_unfolding_all exact wp_bind (wp_mono h (fun x M1 h => wp_gd h) (fun _ _ h => h))
theorem wE_lc {own : List Nat} {e : ME} {t : MT} {it : MI} {c : MC} (h : wI C it σ M (fun ds M1 => wLc C own e t c σ ds.1 [] ds.2 M1 (fun xs M2 => Q (.lst xs) M2) E) E) : wE C (.lc own e t it c) σ M Q E := by
  rw [wE, evE]
  with_unfolding_all exact wp_bind (wp_mono h (fun ds M1 h => wp_bind h) (fun _ _ h => h))
theorem wE_lc2 {own own1 : List Nat} {e : ME} {t : MT} {it : MI} {c : MC} {t1 : MT} {it1 : MI} {c1 : MC} (h : wI C it σ M (fun ds M1 => wLc2 C own own1 e t c t1 it1 c1 σ ds.1 [] ds.2 M1 (fun xs M2 => Q (.lst xs) M2) E) E) : wE C (.lc2 own own1 e t it c t1 it1 c1) σ M Q E := by
  rw [wE, evE]
  with_unfolding_all exact wp_bind (wp_mono h (fun ds M1 h => wp_bind h) (fun _ _ h => h))
theorem wE_dc {b : Bool} {own : List Nat} {k v : ME} {t : MT} {it : MI} {c : MC} (h : wI C it σ M (fun ds M1 => wDc C b own k v t c σ ds.1 ds.2 [] [] M1 (fun p M2 => Q (.dct b p.1 p.2) M2) E) E) : wE C (.dc b own k v t it c) σ M Q E := by
  rw [wE, evE]
  with_unfolding_all exact wp_bind (wp_mono h (fun ds M1 h => wp_bind h) (fun _ _ h => h))
theorem wE_call {f : Nat} {es ks : MEs} {perm : List Nat} (h : wEs C es σ M (fun xs M1 => wEs C ks σ M1 (fun ys M2 => wCl C f (permD perm (xs ++ ys)) M2 Q E) E) E) : wE C (.call f es ks perm) σ M Q E := by
  rw [wE, evE]
  with_unfolding_all exact wp_bind (wp_mono h (fun x M1 h => wp_bind (wp_mono h (fun y M2 h => h) (fun _ _ h => h))) (fun _ _ h => h))
theorem wE_blt {b : Bf} {es : MEs} (h : wEs C es σ M (fun xs M1 => wOp (rds M1 xs) M1 (fun ys M1 => wOp (bltD b ys) M1 Q)) E) : wE C (.blt b es) σ M Q E := by
  rw [wE, evE]
  with_unfolding_all refine wp_bind (wp_mono h (fun x M1 h => wp_opt ?_) (fun _ _ h => h))
  obtain ⟨ys, h1, h⟩ := wOp_e h
  obtain ⟨z, h2, q⟩ := wOp_e h
  exact wOp_o ⟨z, by rw [h1, Option.bind_some, h2], q⟩
theorem wE_lrng {a b : ME} (h : wE C a σ M (fun x M1 => wE C b σ M1 (fun y M2 => wOp (rngD x y) M2 (fun xs M2 => wGd (xs.length ≤ sizeLine) (Q (.lst xs) M2))) E) E) : wE C (.lrng a b) σ M Q E := by
  rw [wE, evE]
  with_unfolding_all refine wp_bind (wp_mono h (fun x M1 h => wp_bind (wp_mono h (fun y M2 h => wp_opt ?_) (fun _ _ h => h))) (fun _ _ h => h))
  obtain ⟨xs, h1, h⟩ := wOp_e h
  obtain ⟨h2, q⟩ := wGd_e h
  exact wOp_o ⟨_, by rw [h1, Option.bind_some, if_pos h2], q⟩
theorem wE_isa {a : ME} {t : Ty} (h : wE C a σ M (fun x M1 => wRd M1 x fun x' => wOp (isaD x' t) M1 (fun k M1 => Q (.bl k) M1)) E) : wE C (.isa a t) σ M Q E := by
  rw [wE, evE]
  with_unfolding_all refine wp_bind (wp_mono h (fun x M1 h => wp_opt ?_) (fun _ _ h => h))
  obtain ⟨a, h1, h⟩ := wRd_e h
  obtain ⟨k, h2, q⟩ := wOp_e h
  exact wOp_o ⟨.bl k, by rw [h1, Option.bind_some, h2]; rfl, q⟩
theorem wE_met {m : Mf} {o : ME} {es : MEs} (h : wE C o σ M (fun x M1 => wGd (okM m (rd M1 x) = true) (wEs C es σ M1 (fun xs M2 => wRd M2 x fun x' => wOp (rds M2 xs) M2 (fun ys M2 => wOp (metD m x' ys) M2 Q)) E)) E) : wE C (.met m o es) σ M Q E := by
  rw [wE, evE]
  with_unfolding_all refine wp_bind (wp_mono h (fun x M1 h => ?_) (fun _ _ h => h))
  rw [if_pos (wGd_e h).1]
  with_unfolding_all refine wp_bind (wp_mono (wGd_e h).2 (fun y M2 h => wp_opt ?_) (fun _ _ h => h))
  obtain ⟨a, h1, h⟩ := wRd_e h
  obtain ⟨ys, h2, h⟩ := wOp_e h
  obtain ⟨z, h3, q⟩ := wOp_e h
  exact wOp_o ⟨z, by rw [h1, Option.bind_some, h2, Option.bind_some, h3], q⟩
def cellD : D → Option Nat
  | .cell n => some n
  | _ => none
@[simp] theorem cellD_cell (n : Nat) : cellD (.cell n) = some n := id rfl
theorem wE_mut {m : Mu} {o : ME} {es : MEs} (h : wE C o σ M (fun x M1 => wGd (okL (rd M1 x) = true) (wEs C es σ M1 (fun xs M2 => wOp (cellD x) M2 (fun n M2 => wGd (frees 0 xs = true) (wRd M2 x fun x' => wOp (mutD m x' xs) M2 (fun p M2 => wM (M2.set n (some p.1)) (fun M3 => Q p.2 M3))))) E)) E) : wE C (.mut m o es) σ M Q E := by
  rw [wE, evE]
  with_unfolding_all refine wp_bind (wp_mono h (fun x M1 h => ?_) (fun _ _ h => h))
  rw [if_pos (wGd_e h).1]
  with_unfolding_all refine wp_bind (wp_mono (wGd_e h).2 (fun xs M2 h => ?_) (fun _ _ h => h))
  obtain ⟨n, e, h⟩ := wOp_e h
  obtain ⟨hf, h⟩ := wGd_e h
  obtain ⟨p, e2, q⟩ := rd1_some (fun _ q => q) h
  cases x <;> simp only [cellD, Option.some.injEq, reduceCtorEq] at e
  subst e
  simp only
  rw [if_pos hf, e2]
  exact wM_e q
/-- what can be a cell's first contents -/
def newD : D → Option D
  | .lst xs => some (.lst xs)
  | .dct t ks vs => some (.dct t ks vs)
  | _ => none
@[simp] theorem newD_lst (xs : List D) : newD (.lst xs) = some (.lst xs) := id rfl
@[simp] theorem newD_dct (t : Bool) (xs ys : List D) : newD (.dct t xs ys) = some (.dct t xs ys) := id rfl
theorem wE_new {a : ME} (h : wE C a σ M (fun x M1 => wOp (newD x) M1 (fun y M1 => wGd (y.free 0 = true) (wM (M1 ++ [some y]) (fun M2 => Q (.cell M1.length) M2)))) E) : wE C (.new a) σ M Q E := by
  rw [wE, evE]
  with_unfolding_all refine wp_bind (wp_mono h (fun x M1 h => ?_) (fun _ _ h => h))
  obtain ⟨y, e, h⟩ := wOp_e h
  obtain ⟨hf, q⟩ := wGd_e h
  cases x <;> simp only [newD, Option.some.injEq, reduceCtorEq] at e <;> subst e
  · simp only [D.free] at hf
    simp only
    rw [if_pos hf]; exact wM_e q
  · simp only [D.free] at hf
    simp only
    rw [if_pos hf]; exact wM_e q
def isCell : D → Bool
  | .cell _ => true
  | _ => false
theorem wE_frz {a : ME} (h : wE C a σ M (fun x M1 => wIf (isCell x) (wOp (cellD x) M1 (fun n M1 => wOp (rd M1 x) M1 (fun d M1 => wM (M1.set n none) (fun M2 => Q d M2)))) (Q x M1)) E) : wE C (.frz a) σ M Q E := by
  rw [wE, evE]
  with_unfolding_all refine wp_bind (wp_mono h (fun x M1 h => ?_) (fun _ _ h => h))
  cases x with
  | cell n =>
    obtain ⟨n', e, h⟩ := wOp_e ((wIf_e h).1 rfl)
    obtain ⟨d, e2, q⟩ := wOp_e h
    simp only [cellD, Option.some.injEq] at e
    subst e
    simp only [e2]
    exact wM_e q
  | _ => exact (wIf_e h).2 rfl
theorem wE_rev {a : ME} (h : wE C a σ M (fun x M1 => wRd M1 x fun x' => wOp (revD x') M1 Q) E) : wE C (.rev a) σ M Q E := by
  rw [wE, evE]
  with_unfolding_all exact wp_bind (wp_mono h (fun x M1 h => wp_opt (wOp_o (rd1_some (fun _ q => q) h))) (fun _ _ h => h))
theorem wE_dput {a k v : ME} (h : wE C a σ M (fun x M1 => wE C k σ M1 (fun y M2 => wE C v σ M2 (fun z M3 => wOp (dputD x y z) M3 Q) E) E) E) : wE C (.dput a k v) σ M Q E := by
  rw [wE, evE]
  with_unfolding_all exact wp_bind (wp_mono h (fun x M1 h => wp_bind (wp_mono h (fun y M2 h => wp_bind (wp_mono h (fun z M3 h => wp_opt h) (fun _ _ h => h))) (fun _ _ h => h))) (fun _ _ h => h))
theorem wE_dputT {a k v : ME} (h : wE C a σ M (fun x M1 => wGd (apartD x = true) (wE C k σ M1 (fun y M2 => wE C v σ M2 (fun z M3 => wOp (dputTD x y z) M3 Q) E) E)) E) : wE C (.dputT a k v) σ M Q E := by
  rw [wE, evE]
  with_unfolding_all refine wp_bind (wp_mono h (fun x M1 h => ?_) (fun _ _ h => h))
  rw [if_pos (wGd_e h).1]
  with_unfolding_all exact wp_bind (wp_mono (wGd_e h).2 (fun y M2 h => wp_bind (wp_mono h (fun z M3 h => wp_opt h) (fun _ _ h => h))) (fun _ _ h => h))
theorem wE_fld {a : ME} {f : Str} {cs : List Str} (h : wE C a σ M (fun x M1 => wOp (fldD cs x) M1 Q) E) : wE C (.fld a f cs) σ M Q E := by
  rw [wE, evE]
  with_unfolding_all exact wp_bind (wp_mono h (fun x M1 h => wp_opt h) (fun _ _ h => h))
theorem wE_exn {c : Str} {es : MEs} (h : wEs C es σ M (fun xs M1 => Q (.exc c xs) M1) E) : wE C (.exn c es) σ M Q E := by
  rw [wE, evE]
  with_unfolding_all exact wp_bind (wp_mono h (fun x M1 h => h) (fun _ _ h => h))
theorem wE_ise {a : ME} {ts : List Ct} {tp : Bool} {cs ns : List Str} (h : wE C a σ M (fun x M1 => wOp (iseD cs ns x) M1 (fun k M1 => Q (.bl k) M1)) E) : wE C (.ise a ts tp cs ns) σ M Q E := by
  rw [wE, evE]
  with_unfolding_all refine wp_bind (wp_mono h (fun x M1 h => wp_opt ?_) (fun _ _ h => h))
  obtain ⟨k, h2, q⟩ := wOp_e h
  exact wOp_o ⟨.bl k, by rw [h2]; rfl, q⟩
theorem wE_dvals {i j : Nat} (h : wOp (if j < σ.length then dvalsD (σ[i]?) else none) M Q) : wE C (.dvals i j) σ M Q E := by
  rw [wE, evE]
  exact wp_opt h
theorem wE_sset {a : ME} (h : wE C a σ M (fun x M1 => wRd M1 x fun x' => wOp (ssetD x') M1 Q) E) : wE C (.sset a) σ M Q E := by
  rw [wE, evE]
  with_unfolding_all exact wp_bind (wp_mono h (fun x M1 h => wp_opt (wOp_o (rd1_some (fun _ q => q) h))) (fun _ _ h => h))
theorem wE_dzip {t : Bool} {a b : ME} (h : wE C a σ M (fun x M1 => wE C b σ M1 (fun y M2 => wOp (dzipD t x y) M2 Q) E) E) : wE C (.dzip t a b) σ M Q E := by
  rw [wE, evE]
  with_unfolding_all exact wp_bind (wp_mono h (fun x M1 h => wp_bind (wp_mono h (fun y M2 h => wp_opt h) (fun _ _ h => h))) (fun _ _ h => h))
end
section
variable {Q : Bool → Cs → Prop}
theorem wB_not {a : MB} (h : wB C a σ M (fun b M1 => Q (!b) M1) E) : wB C (.not a) σ M Q E := by
  rw [wB, evB]
  with_unfolding_all exact wp_bind (wp_mono h (fun x M1 h => h) (fun _ _ h => h))
theorem wB_and {a b : MB} (h : wB C a σ M (fun k M1 => wIf k (wB C b σ M1 Q E) (Q false M1)) E) : wB C (.and a b) σ M Q E := by
  rw [wB, evB]
  with_unfolding_all exact wp_bind (wp_mono h (fun x M1 h => wp_ite h) (fun _ _ h => h))
theorem wB_or {a b : MB} (h : wB C a σ M (fun k M1 => wIf k (Q true M1) (wB C b σ M1 Q E)) E) : wB C (.or a b) σ M Q E := by
  rw [wB, evB]
  with_unfolding_all exact wp_bind (wp_mono h (fun x M1 h => wp_ite h) (fun _ _ h => h))
theorem wB_tru {a : ME} (h : wE C a σ M (fun x M1 => wRd M1 x fun x' => wOp (truthD x') M1 Q) E) : wB C (.tru a) σ M Q E := by
  rw [wB, evB]
  with_unfolding_all exact wp_bind (wp_mono h (fun x M1 h => wp_opt (wOp_o (rd1_some (fun _ q => q) h))) (fun _ _ h => h))
theorem wC_nil (q : Q true M) : wC C .nil σ M Q E := by rw [wC, evC]; exact q
theorem wC_one {b : MB} (q : wB C b σ M Q E) : wC C (.one b) σ M Q E := by rw [wC, evC]; with_unfolding_all exact q
end
section
variable {Q : List D → Cs → Prop}
theorem wEs_nil (q : Q [] M) : wEs C .nil σ M Q E := by rw [wEs, evEs]; exact q
theorem wEs_cons {e : ME} {r : MEs} (h : wE C e σ M (fun x M1 => wEs C r σ M1 (fun xs M2 => Q (x :: xs) M2) E) E) : wEs C (.cons e r) σ M Q E := by
  rw [wEs, evEs]
  with_unfolding_all exact wp_bind (wp_mono h (fun x M1 h => wp_bind (wp_mono h (fun y M2 h => h) (fun _ _ h => h))) (fun _ _ h => h))
theorem wEs_star {e : ME} {r : MEs} (h : wE C e σ M (fun x M1 => wOp (itemsD M1 x) M1 (fun ys M1 => wEs C r σ M1 (fun xs M2 => Q (ys ++ xs) M2) E)) E) : wEs C (.star e r) σ M Q E := by
  rw [wEs, evEs]
  with_unfolding_all refine wp_bind (wp_mono h (fun x M1 h => ?_) (fun _ _ h => h))
  obtain ⟨ys, e, q⟩ := wOp_e h
  rw [itemsD] at e
  split at e
  · rename_i zs h; cases e
    with_unfolding_all exact wp_bind (wp_mono q (fun y M2 h => h) (fun _ _ h => h))
  · rename_i zs h; cases e
    with_unfolding_all exact wp_bind (wp_mono q (fun y M2 h => h) (fun _ _ h => h))
  · cases e
end
theorem wPs_nil {Q : List D × List D → Cs → Prop} (q : Q ([], []) M) : wPs C .nil σ M Q E := by rw [wPs, evPs]; exact q
theorem wPs_cons {Q : List D × List D → Cs → Prop} {k v : ME} {r : MPs} (h : wE C k σ M (fun x M1 => wE C v σ M1 (fun y M2 => wPs C r σ M2 (fun p M3 => Q (x :: p.1, y :: p.2) M3) E) E) E) : wPs C (.cons k v r) σ M Q E := by
  rw [wPs, evPs]
  with_unfolding_all exact wp_bind (wp_mono h (fun x M1 h => wp_bind (wp_mono h (fun y M2 h => wp_bind (wp_mono h (fun y M2 h => h) (fun _ _ h => h))) (fun _ _ h => h))) (fun _ _ h => h))
theorem wO_nil {Q : Option Int → Cs → Prop} (q : Q none M) : wO C .nil σ M Q E := by rw [wO, evO]; exact q
theorem wO_one {Q : Option Int → Cs → Prop} {e : ME} (h : wE C e σ M (fun x M1 => wOp (intD? x) M1 Q) E) : wO C (.one e) σ M Q E := by
  rw [wO, evO]
  with_unfolding_all exact wp_bind (wp_mono h (fun x M1 h => wp_opt h) (fun _ _ h => h))
@[simp] theorem intD?_int (i : Int) : intD? (.int i) = some (some i) := id rfl
section
variable {Q : List D × List Nat → Cs → Prop}
theorem wI_seq {e : ME} (h : wE C e σ M (fun x M1 => wOp (itemsD M1 x) M1 (fun xs M1 => Q (xs, watch x) M1)) E) : wI C (.seq e) σ M Q E := by
  rw [wI, evI]
  with_unfolding_all refine wp_bind (wp_mono h (fun x M1 h => wp_opt ?_) (fun _ _ h => h))
  obtain ⟨z, h1, q⟩ := wOp_e h
  exact wOp_o ⟨_, by rw [h1]; rfl, q⟩
theorem wI_rng {a b : ME} (h : wE C a σ M (fun x M1 => wE C b σ M1 (fun y M2 => wOp (rngD x y) M2 (fun xs M2 => Q (xs, []) M2)) E) E) : wI C (.rng a b) σ M Q E := by
  rw [wI, evI]
  with_unfolding_all refine wp_bind (wp_mono h (fun x M1 h => wp_bind (wp_mono h (fun y M2 h => wp_opt ?_) (fun _ _ h => h))) (fun _ _ h => h))
  obtain ⟨z, h1, q⟩ := wOp_e h
  exact wOp_o ⟨_, by rw [h1]; rfl, q⟩
theorem wI_enm {e : ME} (h : wE C e σ M (fun x M1 => wOp (itemsD M1 x) M1 (fun xs M1 => wLs (enumD xs) (fun ys => Q (ys, watch x) M1))) E) : wI C (.enm e) σ M Q E := by
  rw [wI, evI]
  with_unfolding_all refine wp_bind (wp_mono h (fun x M1 h => wp_opt ?_) (fun _ _ h => h))
  obtain ⟨z, h1, q⟩ := wOp_e h
  replace q := wLs_e q
  exact wOp_o ⟨_, by rw [h1]; rfl, q⟩
theorem wI_zip {a b : ME} (h : wE C a σ M (fun x M1 => wE C b σ M1 (fun y M2 => wOp (itemsD M2 x) M2 (fun xs M2 => wGd (bothD (rd M2 x) (rd M2 y) = true) (wOp (itemsD M2 y) M2 (fun ys M2 => wLs (zipD xs ys) (fun zs => Q (zs, watch x ++ watch y) M2))))) E) E) : wI C (.zip a b) σ M Q E := by
  rw [wI, evI]
  with_unfolding_all refine wp_bind (wp_mono h (fun x M1 h => wp_bind (wp_mono h (fun y M2 h => wp_opt ?_) (fun _ _ h => h))) (fun _ _ h => h))
  obtain ⟨xs, h1, h⟩ := wOp_e h
  obtain ⟨h2, h⟩ := wGd_e h
  obtain ⟨ys, h3, q⟩ := wOp_e h
  replace q := wLs_e q
  exact wOp_o ⟨_, by rw [h1, Option.bind_some, if_pos h2, h3]; rfl, q⟩
theorem wI_zip3 {a b e : ME} (h : wE C a σ M (fun x M1 => wE C b σ M1 (fun y M2 => wE C e σ M2 (fun z M3 => wOp (tupI x) M3 (fun xs M3 => wOp (tupI y) M3 (fun ys M3 => wOp (tupI z) M3 (fun zs M3 => wGd (xs.length = ys.length ∧ xs.length = zs.length) (wLs (zip3D xs ys zs) (fun r => Q (r, []) M3)))))) E) E) E) : wI C (.zip3 a b e) σ M Q E := by
  rw [wI, evI]
  with_unfolding_all refine wp_bind (wp_mono h (fun x M1 h => wp_bind (wp_mono h (fun y M2 h => wp_bind (wp_mono h (fun z M3 h => wp_opt ?_) (fun _ _ h => h))) (fun _ _ h => h))) (fun _ _ h => h))
  obtain ⟨xs, h1, h⟩ := wOp_e h
  obtain ⟨ys, h2, h⟩ := wOp_e h
  obtain ⟨zs, h3, h⟩ := wOp_e h
  obtain ⟨h4, q⟩ := wGd_e h
  replace q := wLs_e q
  exact wOp_o ⟨_, by rw [h1, Option.bind_some, h2, Option.bind_some, h3, Option.bind_some, if_pos h4], q⟩
theorem wI_ktup {x : Str} {ds : List D} (q : Q (ds, []) M) : wI C (.ktup x ds) σ M Q E := by rw [wI, evI]; exact q
theorem wI_kzip {x : Str} {ds : List D} {e : ME} (h : wE C e σ M (fun x M1 => wOp (tupI x) M1 (fun xs M1 => wLs (zipD ds xs) (fun r => Q (r, []) M1))) E) : wI C (.kzip x ds e) σ M Q E := by
  rw [wI, evI]
  with_unfolding_all refine wp_bind (wp_mono h (fun x M1 h => wp_opt ?_) (fun _ _ h => h))
  obtain ⟨xs, h1, q⟩ := wOp_e h
  replace q := wLs_e q
  exact wOp_o ⟨_, by rw [h1]; rfl, q⟩
theorem wI_rdn {a : ME} (h : wE C a σ M (fun x M1 => wOp (rdnD x) M1 (fun xs M1 => Q (xs, []) M1)) E) : wI C (.rdn a) σ M Q E := by
  rw [wI, evI]
  with_unfolding_all refine wp_bind (wp_mono h (fun x M1 h => wp_opt ?_) (fun _ _ h => h))
  obtain ⟨z, h1, q⟩ := wOp_e h
  exact wOp_o ⟨_, by rw [h1]; rfl, q⟩
theorem wI_vals {a : ME} (h : wE C a σ M (fun x M1 => wOp (valsD M1 x) M1 (fun xs M1 => Q (xs, watch x) M1)) E) : wI C (.vals a) σ M Q E := by
  rw [wI, evI]
  with_unfolding_all refine wp_bind (wp_mono h (fun x M1 h => wp_opt ?_) (fun _ _ h => h))
  obtain ⟨z, h1, q⟩ := wOp_e h
  exact wOp_o ⟨_, by rw [h1]; rfl, q⟩
end
section
variable {Q : En → Cs → Prop}
theorem wT_nm {i : Nat} {d : D} {σ' : En} (h : σ.set i (some d) = σ') (q : Q σ' M) : wT C (.nm i) d σ M Q E := by
  rw [wT, evT, h]; exact q
theorem wT_tp {ts : MTs} {d : D} (h : wOp (tupD d) M (fun xs M1 => wTs C ts xs σ M1 Q E)) : wT C (.tp ts) d σ M Q E := by
  obtain ⟨xs, e, q⟩ := wOp_e h
  rw [wT, evT, e]; with_unfolding_all exact q
@[simp] theorem tupD_T (xs : List Int) : tupD (T xs) = some (xs.map .int) := id rfl
theorem wT_sub {o i : ME} {d : D} (h : wE C o σ M (fun x M1 => wE C i σ M1 (fun y M2 => wOp (cellD x) M2 (fun n M2 => wGd ((y.free 0 && d.free 0) = true) (wRd M2 x fun x' => wOp (setD x' y d) M2 (fun z M2 => wM (M2.set n (some z)) (fun M3 => Q σ M3))))) (fun _ _ => False)) (fun _ _ => False)) : wT C (.sub o i) d σ M Q E := by
  rw [wT, evT]
  rw [wE] at h
  cases ho : evE C o σ M with
  | bad => rw [ho] at h; exact h
  | ex e M1 => rw [ho] at h; exact h.elim
  | ok x M1 =>
    rw [ho] at h
    simp only
    replace h : wE C i σ M1 _ _ := h
    rw [wE] at h
    cases hi : evE C i σ M1 with
    | bad => rw [hi] at h; exact h
    | ex e M1 => rw [hi] at h; exact h.elim
    | ok y M2 =>
      rw [hi] at h
      obtain ⟨n, e, h⟩ := wOp_e h
      obtain ⟨hf, h⟩ := wGd_e h
      obtain ⟨z, e2, q⟩ := rd1_some (fun _ q => q) h
      cases x <;> simp only [cellD, Option.some.injEq, reduceCtorEq] at e
      subst e
      simp only
      rw [if_pos hf, e2]
      exact wM_e q
theorem wTs_nil (q : Q σ M) : wTs C .nil [] σ M Q E := by rw [wTs, evTs]; exact q
theorem wTs_cons {t : MT} {r : MTs} {d : D} {ds : List D} (h : wT C t d σ M (fun σ1 M1 => wTs C r ds σ1 M1 Q E) E) : wTs C (.cons t r) (d :: ds) σ M Q E := by
  rw [wTs, evTs]
  with_unfolding_all exact wp_bind (wp_mono h (fun x M1 h => h) (fun _ _ h => h))
end

/-! ### statements -/
/-- what has to hold behind a statement, by how it ends -/
structure Po where
  nx : En → Cs → Prop
  br : En → Cs → Prop
  ct : En → Cs → Prop
  rt : D → Cs → Prop
  ex : D → En → Cs → Prop
def SR.wp (r : SR) (p : Po) : Prop := match r with
  | .nx σ M => p.nx σ M
  | .br σ M => p.br σ M
  | .ct σ M => p.ct σ M
  | .rt d M => p.rt d M
  | .ex e σ M => p.ex e σ M
  | .bad => False
@[reducible] def Po.nxt (p : Po) (N : En → Cs → Prop) : Po := ⟨N, p.br, p.ct, p.rt, p.ex⟩
@[irreducible] def wS (C : Cl) (s : MS) (σ : En) (M : Cs) (p : Po) : Prop := (evS C s σ M).wp p
@[irreducible] def wSs (C : Cl) (s : MSs) (σ : En) (M : Cs) (p : Po) : Prop := (evSs C s σ M).wp p
theorem SR_of {α : Type} {σd : En} {r : Res α} {g : α → Cs → SR} {p : Po} (h : r.wp (fun a M => (g a M).wp p) (fun e M => p.ex e σd M)) : (SR.of σd r g).wp p := by
  cases r <;> exact h
variable {p : Po}
theorem wSs_nil (q : p.nx σ M) : wSs C .nil σ M p := by rw [wSs, evSs]; exact q
theorem wSs_cons {s : MS} {r : MSs} (h : wS C s σ M (p.nxt fun σ1 M1 => wSs C r σ1 M1 p)) : wSs C (.cons s r) σ M p := by
  rw [wSs, evSs]
  rw [wS] at h
  cases hs : evS C s σ M <;> rw [hs] at h <;> with_unfolding_all exact h
theorem wS_asg {t : MT} {e : ME} (h : wE C e σ M (fun d M1 => wT C t d σ M1 (fun σ1 M2 => p.nx σ1 M2) (fun e M2 => p.ex e σ M2)) (fun e M1 => p.ex e σ M1)) : wS C (.asg t e) σ M p := by
  rw [wS, evS]
  with_unfolding_all exact SR_of (wp_mono h (fun d M1 h => SR_of (wp_mono h (fun _ _ h => h) (fun _ _ h => h))) (fun _ _ h => h))
theorem wS_exp {e : ME} (h : wE C e σ M (fun _ M1 => p.nx σ M1) (fun e M1 => p.ex e σ M1)) : wS C (.exp e) σ M p := by
  rw [wS, evS]
  with_unfolding_all exact SR_of (wp_mono h (fun d M1 h => h) (fun _ _ h => h))
theorem wS_ret {e : ME} (h : wE C e σ M (fun d M1 => p.rt d M1) (fun e M1 => p.ex e σ M1)) : wS C (.ret e) σ M p := by
  rw [wS, evS]
  with_unfolding_all exact SR_of (wp_mono h (fun d M1 h => h) (fun _ _ h => h))
theorem wS_ite {c : MB} {a b : MSs} (h : wB C c σ M (fun k M1 => wIf k (wSs C a σ M1 p) (wSs C b σ M1 p)) (fun e M1 => p.ex e σ M1)) : wS C (.ite c a b) σ M p := by
  rw [wS, evS]
  with_unfolding_all refine SR_of (wp_mono h (fun k M1 h => ?_) (fun _ _ h => h))
  cases k with
  | true => with_unfolding_all exact (wIf_e h).1 rfl
  | false => with_unfolding_all exact (wIf_e h).2 rfl
def forStep (C : Cl) (t : MT) (b : MSs) (d : D) (σ : En) (M : Cs) : SR := SR.of σ (evT C t d σ M) fun σ1 M2 => evSs C b σ1 M2
/-- behind one turn of a loop -/
@[reducible] def Po.turn (p : Po) (I : En → Cs → Prop) : Po := ⟨I, fun σ' M' => p.nx σ' M', I, p.rt, p.ex⟩
@[irreducible] def wFor (C : Cl) (t : MT) (b : MSs) (ds : List D) (ws : List Nat) (σ : En) (M : Cs) (p : Po) : Prop := (forGo ws (forStep C t b) ds σ M).wp p
@[irreducible] def wWhl (C : Cl) (c : MB) (b : MSs) (n : Nat) (σ : En) (M : Cs) (p : Po) : Prop := (whlGo (evB C c) (evSs C b) n σ M).wp p
theorem wS_for_ {t : MT} {it : MI} {b : MSs} (h : wI C it σ M (fun ds M1 => wFor C t b ds.1 ds.2 σ M1 p) (fun e M1 => p.ex e σ M1)) : wS C (.for_ t it b) σ M p := by
  rw [wS, evS]
  with_unfolding_all exact SR_of (wp_mono h (fun d M1 h => h) (fun _ _ h => h))
theorem wS_whl {c : MB} {b : MSs} (h : wWhl C c b C.fuel σ M p) : wS C (.whl c b) σ M p := by
  rw [wS, evS]; with_unfolding_all exact h
theorem wS_rse {c : Str} {es : MEs} (h : wEs C es σ M (fun xs M1 => p.ex (.exc c xs) σ M1) (fun e M1 => p.ex e σ M1)) : wS C (.rse c es) σ M p := by
  rw [wS, evS]
  with_unfolding_all exact SR_of (wp_mono h (fun d M1 h => h) (fun _ _ h => h))
/-- the handlers, from an exception on -/
@[irreducible] def wH (C : Cl) (hs : MHs) (e : D) (σ : En) (M : Cs) (p : Po) : Prop := (evHs C hs e σ M).wp p
theorem wS_try_ {b : MSs} {hs : MHs} (h : wSs C b σ M ⟨p.nx, p.br, p.ct, p.rt, fun e σ1 M1 => wH C hs e σ1 M1 p⟩) : wS C (.try_ b hs) σ M p := by
  rw [wS, evS]
  rw [wSs] at h
  cases hb : evSs C b σ M with
  | ex e σ1 M1 =>
    rw [hb] at h
    replace h : wH C hs e σ1 M1 p := h
    rw [wH] at h
    exact h
  | nx σ1 M1 => rw [hb] at h; exact h
  | br σ1 M1 => rw [hb] at h; exact h
  | ct σ1 M1 => rw [hb] at h; exact h
  | rt d M1 => rw [hb] at h; exact h
  | bad => rw [hb] at h; exact h
theorem wH_nil {e : D} (h : p.ex e σ M) : wH C .nil e σ M p := by rw [wH]; simp only [evHs]; exact h
theorem wH_f {c : Str} {cs ns : List Str} {i : Option Nat} {b : MSs} {r : MHs} {e : D} (k : iseD cs ns e = some false) (h : wH C r e σ M p) : wH C (.cons c cs ns i b r) e σ M p := by
  rw [wH] at h
  rw [wH, evHs.eq_def]
  simp only [k]
  exact h
theorem wH_n {c : Str} {cs ns : List Str} {b : MSs} {r : MHs} {e : D} (k : iseD cs ns e = some true) (h : wSs C b σ M ⟨p.nx, p.br, p.ct, p.rt, fun _ _ _ => False⟩) : wH C (.cons c cs ns none b r) e σ M p := by
  rw [wSs] at h
  rw [wH, evHs, k]
  simp only
  cases hb : evSs C b σ M <;> rw [hb] at h <;> exact h
theorem wH_s {c : Str} {cs ns : List Str} {j : Nat} {b : MSs} {r : MHs} {e : D} (k : iseD cs ns e = some true) (h : wSs C b (σ.set j (some e)) M ⟨fun σ1 M1 => p.nx (σ1.set j none) M1, fun σ1 M1 => p.br (σ1.set j none) M1, fun σ1 M1 => p.ct (σ1.set j none) M1, p.rt, fun _ _ _ => False⟩) : wH C (.cons c cs ns (some j) b r) e σ M p := by
  rw [wSs] at h
  rw [wH, evHs, k]
  simp only
  cases hb : evSs C b (σ.set j (some e)) M <;> rw [hb] at h <;> exact h
theorem wS_brk (h : p.br σ M) : wS C .brk σ M p := by rw [wS, evS]; exact h
theorem wS_cnt (h : p.ct σ M) : wS C .cnt σ M p := by rw [wS, evS]; exact h
theorem wS_pss (h : p.nx σ M) : wS C .pss σ M p := by rw [wS, evS]; exact h

/-! ### a def -/
@[reducible] def fnPo (n : Nat) (Q : D → Cs → Prop) (E : D → Cs → Prop) : Po := ⟨fun _ M' => wM (M'.take n) (fun M2 => Q .non M2), fun _ _ => False, fun _ _ => False, fun d M' => wGd (d.free n = true) (wM (M'.take n) (fun M2 => Q d M2)), fun e _ M' => wGd (e.free n = true) (wM (M'.take n) (fun M2 => E e M2))⟩
theorem wp_call {P : List MF} {k f : Nat} {F : MF} {ds : List D} {M : Cs} {Q : D → Cs → Prop} {E : D → Cs → Prop} (h : P[f]? = some F) (hl : ds.length = F.ps) (hk : F.keep = false)
    (hb : wSs ⟨callF P k, k⟩ F.body (ds.map some ++ List.replicate (F.slots - F.ps) none) M (fnPo M.length Q E)) : (callF P (k + 1) f ds M).wp Q E := by
  rw [call_eq h hl, hk]
  rw [wSs] at hb
  cases hs : evSs ⟨callF P k, k⟩ F.body (ds.map some ++ List.replicate (F.slots - F.ps) none) M <;> rw [hs] at hb
  · exact wM_e hb
  · exact hb.elim
  · exact hb.elim
  · replace hb := wGd_e hb
    simp only [finF]
    rw [if_neg (by simp), if_pos hb.1]; exact wM_e hb.2
  · replace hb := wGd_e hb
    simp only [finF]
    rw [if_pos hb.1]; exact wM_e hb.2
  · exact hb.elim
theorem wCl_i {P : List MF} {k j f : Nat} {ds : List D} {M M' : Cs} {v : D} {Q : D → Cs → Prop} {E : D → Cs → Prop} (h : callF P k f ds M = .ok v M') (q : Q v M') : wCl ⟨callF P k, j⟩ f ds M Q E := by rw [wCl]; exact wp_of h q
theorem wCl_s {C : Cl} {M : Cs} {E : D → Cs → Prop} {f : Nat} {ds ds' : List D} {Q : D → Cs → Prop} (h : ds = ds') (q : wCl C f ds' M Q E) : wCl C f ds M Q E := by rw [h]; exact q
theorem wCl_x {P : List MF} {k j f : Nat} {ds : List D} {M M' : Cs} {v : D} {Q : D → Cs → Prop} {E : D → Cs → Prop} (h : callF P k f ds M = .ex v M') (q : E v M') : wCl ⟨callF P k, j⟩ f ds M Q E := by rw [wCl]; exact wp_ofx h q
theorem wCl_w {P : List MF} {k j f : Nat} {ds : List D} {M : Cs} {Q R : D → Cs → Prop} {E F : D → Cs → Prop} (h : (callF P k f ds M).wp R F) (q : ∀ d M, R d M → Q d M) (e : ∀ d M, F d M → E d M) : wCl ⟨callF P k, j⟩ f ds M Q E := by rw [wCl]; exact wp_mono h q e

theorem atK {P : List MF} {c K f : Nat} {ds : List D} {M M' : Cs} {v : D} (h : ∀ k, callF P (k + c) f ds M = .ok v M') (hK : c ≤ K) : callF P K f ds M = .ok v M' := by
  have := h (K - c)
  rwa [Nat.sub_add_cancel hK] at this
/-! ### comprehensions -/
theorem wE_mono {e : ME} {Q R : D → Cs → Prop} {E F : D → Cs → Prop} (h : wE C e σ M Q E) (q : ∀ a M, Q a M → R a M) (g : ∀ a M, E a M → F a M) : wE C e σ M R F := by rw [wE] at h ⊢; exact wp_mono h q g
theorem wB_mono {e : MB} {Q R : Bool → Cs → Prop} {E F : D → Cs → Prop} (h : wB C e σ M Q E) (q : ∀ a M, Q a M → R a M) (g : ∀ a M, E a M → F a M) : wB C e σ M R F := by rw [wB] at h ⊢; exact wp_mono h q g
theorem wC_mono {e : MC} {Q R : Bool → Cs → Prop} {E F : D → Cs → Prop} (h : wC C e σ M Q E) (q : ∀ a M, Q a M → R a M) (g : ∀ a M, E a M → F a M) : wC C e σ M R F := by rw [wC] at h ⊢; exact wp_mono h q g
theorem wI_mono {e : MI} {Q R : List D × List Nat → Cs → Prop} {E F : D → Cs → Prop} (h : wI C e σ M Q E) (q : ∀ a M, Q a M → R a M) (g : ∀ a M, E a M → F a M) : wI C e σ M R F := by rw [wI] at h ⊢; exact wp_mono h q g
theorem wT_mono {t : MT} {d : D} {Q R : En → Cs → Prop} {E F : D → Cs → Prop} (h : wT C t d σ M Q E) (q : ∀ a M, Q a M → R a M) (g : ∀ a M, E a M → F a M) : wT C t d σ M R F := by rw [wT] at h ⊢; exact wp_mono h q g
theorem wLc_mono {own : List Nat} {e : ME} {t : MT} {c : MC} {ds acc : List D} {ws : List Nat} {Q R : List D → Cs → Prop} {E F : D → Cs → Prop} (h : wLc C own e t c σ ds acc ws M Q E) (q : ∀ a M, Q a M → R a M) (g : ∀ a M, E a M → F a M) : wLc C own e t c σ ds acc ws M R F := by rw [wLc] at h ⊢; exact wp_mono h q g
theorem lcStep_wp {own : List Nat} {e : ME} {t : MT} {c : MC} {d : D} {Q : List D → Cs → Prop} (h : wT C t d (wip σ own) M (fun σ1 M1 => wC C c σ1 M1 (fun b M2 => wIf b (wE C e σ1 M2 (fun x M3 => Q [x] M3) E) (Q [] M2)) E) E) : (lcStep C own e t c σ d M).wp Q E := by
  rw [lcStep]
  rw [wT] at h
  refine wp_bind (wp_mono h (fun σ1 M1 h => ?_) (fun _ _ h => h))
  rw [wC] at h
  refine wp_bind (wp_mono h (fun b M2 h => ?_) (fun _ _ h => h))
  refine wp_ite (wIf_i (fun e => ?_) (fun e => (wIf_e h).2 e))
  have h2 := (wIf_e h).1 e
  rw [wE] at h2
  exact wp_bind h2
theorem lcGo_inv {α : Type} {ws : List Nat} {step : D → Cs → Res (List D)} {Q : List D → Cs → Prop} (g : α → D) (xs : List α) (I : List α → List D → Cs → Prop)
    (hs : ∀ don a todo acc M, xs = don ++ a :: todo → I don acc M → (step (g a) M).wp (fun r M' => same ws M M' = true ∧ acc.length + r.length ≤ sizeLine ∧ I (don ++ [a]) (acc ++ r) M') (fun _ _ => False)) (hq : ∀ acc M, I xs acc M → Q acc M) {acc : List D} (h0 : I [] acc M) : (lcGo ws step (xs.map g) acc M).wp Q E := by
  have key : ∀ (todo don : List α) (acc : List D) (M : Cs), xs = don ++ todo → I don acc M → (lcGo ws step (todo.map g) acc M).wp Q E := fun todo => by
    induction todo with
    | nil =>
      intro don acc M e i
      rw [List.map_nil, lcGo]
      rw [List.append_nil] at e
      exact hq _ _ (e ▸ i)
    | cons a todo ih =>
      intro don acc M e i
      have h := hs don a todo acc M e i
      rw [List.map_cons, lcGo]
      cases hr : step (g a) M with
      | bad => rw [hr] at h; exact h
      | ex d M1 => rw [hr] at h; exact h.elim
      | ok r M1 =>
        rw [hr] at h
        obtain ⟨h1, h2, h3⟩ := h
        simp only
        rw [if_pos (by simp [h1, h2])]
        exact ih (don ++ [a]) _ _ (by simp [e]) h3
  exact key xs [] acc M rfl h0
theorem flat_le {α : Type} {f : α → List D} {don todo : List α} {a : α} {n : Nat} (h : ((don ++ a :: todo).flatMap f).length ≤ n) : (don.flatMap f).length + (f a).length ≤ n := by
  simp only [List.flatMap_append, List.flatMap_cons, List.length_append] at h
  omega
/-- values by turns -/
theorem wLc_flat {α : Type} {own : List Nat} {e : ME} {t : MT} {c : MC} {ws : List Nat} {Q : List D → Cs → Prop} {g : α → D} (f : α → List D) {xs : List α}
    (hb : ∀ a ∈ xs, wT C t (g a) (wip σ own) M (fun σ1 M1 => wC C c σ1 M1 (fun b M2 => wIf b (wE C e σ1 M2 (fun x M3 => [x] = f a ∧ M3 = M) (fun _ _ => False)) ([] = f a ∧ M2 = M)) (fun _ _ => False)) (fun _ _ => False))
    (hl : (xs.flatMap f).length ≤ sizeLine) (q : Q (xs.flatMap f) M) : wLc C own e t c σ (xs.map g) [] ws M Q E := by
  rw [wLc]
  have key : ∀ don a todo acc M', xs = don ++ a :: todo → acc = don.flatMap f ∧ M' = M → ∀ r, r = f a → acc.length + r.length ≤ sizeLine ∧ acc ++ r = (don ++ [a]).flatMap f := fun don a todo acc M' e i r hr => by
    obtain ⟨rfl, rfl⟩ := i
    subst hr
    refine ⟨flat_le (e ▸ hl), by simp⟩
  refine lcGo_inv g xs (fun don acc M' => acc = don.flatMap f ∧ M' = M) (fun don a todo acc M' e i => ?_) (fun acc M' i => ?_) ⟨rfl, rfl⟩
  · have kk := key don a todo acc M' e i
    have hM := i.2
    refine lcStep_wp (wT_mono (hM ▸ hb a (by simp [e])) (fun σ1 M1 h => wC_mono h (fun b M2 h => wIf_i (fun eb => wE_mono ((wIf_e h).1 eb) (fun x M3 h => ?_) (fun _ _ h => h)) fun eb => ?_) (fun _ _ h => h)) (fun _ _ h => h))
    · obtain ⟨k1, k2⟩ := kk [x] h.1
      rw [h.2, hM]
      exact ⟨same_self _ _, k1, k2, rfl⟩
    · have h' := (wIf_e h).2 eb
      obtain ⟨k1, k2⟩ := kk [] h'.1
      rw [h'.2, hM]
      exact ⟨same_self _ _, k1, k2, rfl⟩
  · rw [i.1, i.2]; exact q
theorem flat_one {α : Type} (f : α → D) : ∀ xs : List α, (xs.flatMap fun a => [f a]) = xs.map f
  | [] => rfl
  | x :: xs => by rw [List.flatMap_cons, flat_one f xs]; rfl
theorem flat_if {α : Type} (p : α → Bool) (f : α → D) : ∀ xs : List α, (xs.flatMap fun a => if p a = true then [f a] else []) = (xs.filter p).map f
  | [] => rfl
  | x :: xs => by
    rw [List.flatMap_cons, flat_if p f xs]
    cases h : p x <;> simp [h]
/-- one value a turn -/
theorem wLc_map {α : Type} {own : List Nat} {e : ME} {t : MT} {ws : List Nat} {Q : List D → Cs → Prop} {g : α → D} (f : α → D) {xs : List α}
    (hb : ∀ a ∈ xs, wT C t (g a) (wip σ own) M (fun σ1 M1 => wE C e σ1 M1 (fun x M3 => x = f a ∧ M3 = M) (fun _ _ => False)) (fun _ _ => False))
    (hl : xs.length ≤ sizeLine) (q : Q (xs.map f) M) : wLc C own e t .nil σ (xs.map g) [] ws M Q E := by
  refine wLc_flat (fun a => [f a]) (fun a ha => wT_mono (hb a ha) (fun σ1 M1 h => wC_nil (wIf_i (fun _ => wE_mono h (fun x M3 h => ⟨by rw [h.1], h.2⟩) (fun _ _ h => h)) fun e => (by cases e))) (fun _ _ h => h)) (by rw [flat_one]; simpa using hl) (by rw [flat_one]; exact q)
/-- a value where a test says so -/
theorem wLc_if {α : Type} {own : List Nat} {e : ME} {t : MT} {b : MB} {ws : List Nat} {Q : List D → Cs → Prop} {g : α → D} (pp : α → Bool) (f : α → D) {xs : List α}
    (hb : ∀ a ∈ xs, wT C t (g a) (wip σ own) M (fun σ1 M1 => wB C b σ1 M1 (fun k M2 => wCk k (pp a) M M2 (wE C e σ1 M (fun x M3 => x = f a ∧ M3 = M) (fun _ _ => False))) (fun _ _ => False)) (fun _ _ => False))
    (hl : xs.length ≤ sizeLine) (q : Q ((xs.filter pp).map f) M) : wLc C own e t (.one b) σ (xs.map g) [] ws M Q E := by
  have key : ((xs.filter pp).map f).length ≤ sizeLine := by
    rw [List.length_map]
    exact Nat.le_trans (List.length_filter_le _ _) hl
  refine wLc_flat (fun a => if pp a = true then [f a] else []) (fun a ha => wT_mono (hb a ha) (fun σ1 M1 h => wC_one (wB_mono h (fun k M2 h => ?_) (fun _ _ h => h))) (fun _ _ h => h)) (by rw [flat_if]; exact key) (by rw [flat_if]; exact q)
  obtain ⟨⟨h1, h2⟩, h3⟩ := wCk_e h
  subst h2
  refine wIf_i (fun e => ?_) (fun e => ?_)
  · have e' : pp a = true := by rw [← h1]; exact e
    exact wE_mono (h3 e') (fun x M3 h => ⟨by rw [if_pos e', h.1], h.2⟩) (fun _ _ h => h)
  · have e' : pp a = false := by rw [← h1]; exact e
    exact ⟨by simp [e'], rfl⟩
/-- by what holds between turns -/
theorem wLc_inv {α : Type} {own : List Nat} {e : ME} {t : MT} {c : MC} {ws : List Nat} {Q : List D → Cs → Prop} {g : α → D} {xs : List α} (I : List α → List D → Cs → Prop) (h0 : I [] [] M)
    (hb : ∀ don a todo acc M, xs = don ++ a :: todo → I don acc M → wT C t (g a) (wip σ own) M (fun σ1 M1 => wC C c σ1 M1 (fun b M2 => wIf b (wE C e σ1 M2 (fun x M3 => same ws M M3 = true ∧ acc.length + 1 ≤ sizeLine ∧ I (don ++ [a]) (acc ++ [x]) M3) (fun _ _ => False)) (same ws M M2 = true ∧ I (don ++ [a]) acc M2 ∧ acc.length ≤ sizeLine)) (fun _ _ => False)) (fun _ _ => False))
    (q : ∀ acc M, I xs acc M → Q acc M) : wLc C own e t c σ (xs.map g) [] ws M Q E := by
  rw [wLc]
  refine lcGo_inv g xs I (fun don a todo acc M e i => lcStep_wp (wT_mono (hb don a todo acc M e i) (fun σ1 M1 h => wC_mono h (fun b M2 h => wIf_i (fun eb => wE_mono ((wIf_e h).1 eb) (fun x M3 h => h) (fun _ _ h => h)) fun eb => ?_) (fun _ _ h => h)) (fun _ _ h => h))) q h0
  obtain ⟨h1, h2, h3⟩ := (wIf_e h).2 eb
  exact ⟨h1, h3, by rw [List.append_nil]; exact h2⟩
theorem wLc2_flat {α : Type} {own own1 : List Nat} {e : ME} {t : MT} {c : MC} {t1 : MT} {it1 : MI} {c1 : MC} {ws : List Nat} {Q : List D → Cs → Prop} {g : α → D} (f : α → List D) {xs : List α}
    (hb : ∀ a ∈ xs, wT C t (g a) (wip σ own) M (fun σ1 M1 => wC C c σ1 M1 (fun b M2 => wIf b (wI C it1 σ1 M2 (fun ds M3 => wLc C own1 e t1 c1 σ1 ds.1 [] ds.2 M3 (fun r M4 => r = f a ∧ M4 = M) (fun _ _ => False)) (fun _ _ => False)) ([] = f a ∧ M2 = M)) (fun _ _ => False)) (fun _ _ => False))
    (hl : (xs.flatMap f).length ≤ sizeLine) (q : Q (xs.flatMap f) M) : wLc2 C own own1 e t c t1 it1 c1 σ (xs.map g) [] ws M Q E := by
  rw [wLc2]
  have key : ∀ don a todo acc M', xs = don ++ a :: todo → acc = don.flatMap f ∧ M' = M → ∀ r, r = f a → acc.length + r.length ≤ sizeLine ∧ acc ++ r = (don ++ [a]).flatMap f := fun don a todo acc M' e i r hr => by
    obtain ⟨rfl, rfl⟩ := i
    subst hr
    refine ⟨flat_le (e ▸ hl), by simp⟩
  refine lcGo_inv g xs (fun don acc M' => acc = don.flatMap f ∧ M' = M) (fun don a todo acc M' e i => ?_) (fun acc M' i => ?_) ⟨rfl, rfl⟩
  · have kk := key don a todo acc M' e i
    have hM := i.2
    have h := hb a (by simp [e])
    rw [← hM, wT] at h
    rw [lc2Step]
    refine wp_bind (wp_mono h (fun σ1 M1 h => ?_) (fun _ _ h => h))
    rw [wC] at h
    refine wp_bind (wp_mono h (fun b M2 h => wp_ite (wIf_i (fun eb => ?_) fun eb => ?_)) (fun _ _ h => h))
    · have h' := (wIf_e h).1 eb
      rw [wI] at h'
      refine wp_bind (wp_mono h' (fun ds M3 h => ?_) (fun _ _ h => h))
      rw [wLc] at h
      refine wp_mono h (fun r M4 h => ?_) (fun _ _ h => h)
      obtain ⟨k1, k2⟩ := kk r h.1
      rw [h.2, hM]
      exact ⟨same_self _ _, k1, k2, rfl⟩
    · have h' := (wIf_e h).2 eb
      obtain ⟨k1, k2⟩ := kk [] h'.1
      rw [h'.2, hM]
      exact ⟨same_self _ _, k1, k2, rfl⟩
  · rw [i.1, i.2]; exact q
/-! ### loops -/
theorem wFor_inv {α : Type} {t : MT} {b : MSs} {ws : List Nat} {g : α → D} {xs : List α} (I : List α → En → Cs → Prop) (h0 : I [] σ M)
    (hs : ∀ don a todo σ M, xs = don ++ a :: todo → I don σ M → wT C t (g a) σ M (fun σ1 M1 => wSs C b σ1 M1 (p.turn fun σ' M' => same ws M M' = true ∧ I (don ++ [a]) σ' M')) (fun e M' => p.ex e σ M'))
    (hq : ∀ σ M, I xs σ M → p.nx σ M) : wFor C t b (xs.map g) ws σ M p := by
  rw [wFor]
  have key : ∀ (todo don : List α) (σ : En) (M : Cs), xs = don ++ todo → I don σ M → (forGo ws (forStep C t b) (todo.map g) σ M).wp p := fun todo => by
    induction todo with
    | nil =>
      intro don σ M e i
      rw [List.map_nil, forGo]
      rw [List.append_nil] at e
      exact hq _ _ (e ▸ i)
    | cons a todo ih =>
      intro don σ M e i
      have h := hs don a todo σ M e i
      rw [wT] at h
      have h2 : (forStep C t b (g a) σ M).wp (p.turn fun σ' M' => same ws M M' = true ∧ I (don ++ [a]) σ' M') := SR_of (wp_mono h (fun σ1 M1 h => by rw [wSs] at h; exact h) (fun _ _ h => h))
      rw [List.map_cons, forGo]
      cases hr : forStep C t b (g a) σ M with
      | bad => rw [hr] at h2; exact h2
      | ex d σ1 M1 => rw [hr] at h2; exact h2
      | rt d M1 => rw [hr] at h2; exact h2
      | br σ1 M1 => rw [hr] at h2; exact h2
      | nx σ1 M1 =>
        rw [hr] at h2
        obtain ⟨h3, h4⟩ := h2
        simp only
        rw [if_pos h3]
        exact ih (don ++ [a]) _ _ (by simp [e]) h4
      | ct σ1 M1 =>
        rw [hr] at h2
        obtain ⟨h3, h4⟩ := h2
        simp only
        rw [if_pos h3]
        exact ih (don ++ [a]) _ _ (by simp [e]) h4
  exact key xs [] σ M rfl h0
/-- a while loop: n tells how many turns may still come -/
theorem wWhl_inv {c : MB} {b : MSs} (I : Nat → En → Cs → Prop) {n0 : Nat} (h0 : I n0 σ M)
    (hs : ∀ n σ M, I n σ M → wB C c σ M (fun k M1 => wIf k (∃ n', n = n' + 1 ∧ wSs C b σ M1 (p.turn fun σ' M' => I n' σ' M')) (p.nx σ M1)) (fun e M1 => p.ex e σ M1)) {N : Nat} (hN : n0 < N) : wWhl C c b N σ M p := by
  rw [wWhl]
  have key : ∀ (n N : Nat) (σ : En) (M : Cs), n < N → I n σ M → (whlGo (evB C c) (evSs C b) N σ M).wp p := fun n => by
    induction n with
    | zero =>
      intro N σ M hN i
      obtain ⟨N, rfl⟩ : ∃ m, N = m + 1 := ⟨N - 1, by omega⟩
      have h := hs 0 σ M i
      rw [wB] at h
      rw [whlGo]
      cases hr : evB C c σ M with
      | bad => rw [hr] at h; exact h
      | ex d M1 => rw [hr] at h; exact h
      | ok k M1 =>
        rw [hr] at h
        replace h := wIf_e h
        cases k with
        | false => exact h.2 rfl
        | true => obtain ⟨n', e, _⟩ := h.1 rfl; omega
    | succ n ih =>
      intro N σ M hN i
      obtain ⟨N, rfl⟩ : ∃ m, N = m + 1 := ⟨N - 1, by omega⟩
      have h := hs (n + 1) σ M i
      rw [wB] at h
      rw [whlGo]
      cases hr : evB C c σ M with
      | bad => rw [hr] at h; exact h
      | ex d M1 => rw [hr] at h; exact h
      | ok k M1 =>
        rw [hr] at h
        replace h := wIf_e h
        cases k with
        | false => exact h.2 rfl
        | true =>
          obtain ⟨n', e, h⟩ := h.1 rfl
          obtain rfl : n = n' := by omega
          rw [wSs] at h
          simp only
          cases hb : evSs C b σ M1 with
          | nx σ1 M2 => rw [hb] at h; exact ih N σ1 M2 (by omega) h
          | ct σ1 M2 => rw [hb] at h; exact ih N σ1 M2 (by omega) h
          | br σ1 M2 => rw [hb] at h; exact h
          | rt d M2 => rw [hb] at h; exact h
          | ex d σ1 M2 => rw [hb] at h; exact h
          | bad => rw [hb] at h; exact h
  exact key n0 N σ M hN h0
/-- a call of a def, as a goal -/
@[irreducible] def wF (P : List MF) (k f : Nat) (ds : List D) (M : Cs) (Q : D → Cs → Prop) (E : D → Cs → Prop) : Prop := (callF P k f ds M).wp Q E
theorem wF_wp {P : List MF} {k f : Nat} {ds : List D} {M : Cs} {Q : D → Cs → Prop} {E : D → Cs → Prop} (h : wF P k f ds M Q E) : (callF P k f ds M).wp Q E := by rw [wF] at h; exact h
theorem wF_eq {P : List MF} {k f : Nat} {ds : List D} {M M' : Cs} {v : D} (h : wF P k f ds M (fun a M2 => a = v ∧ M2 = M') (fun _ _ => False)) : callF P k f ds M = .ok v M' := wp_eq (wF_wp h)
theorem wF_exeq {P : List MF} {k f : Nat} {ds : List D} {M M' : Cs} {v : D} (h : wF P k f ds M (fun _ _ => False) (fun a M2 => a = v ∧ M2 = M')) : callF P k f ds M = .ex v M' := wp_exeq (wF_wp h)
theorem wF_get {P : List MF} {k f : Nat} {ds : List D} {M : Cs} {Q : D → Cs → Prop} (h : wF P k f ds M Q (fun _ _ => False)) : ∃ a M', callF P k f ds M = .ok a M' ∧ Q a M' := wp_get (wF_wp h)
theorem wF_call {P : List MF} {k f : Nat} {F : MF} {ds : List D} {M : Cs} {Q : D → Cs → Prop} {E : D → Cs → Prop} (h : P[f]? = some F) (hl : ds.length = F.ps) (hk : F.keep = false)
    (hb : wSs ⟨callF P k, k⟩ F.body (ds.map some ++ List.replicate (F.slots - F.ps) none) M (fnPo M.length Q E)) : wF P (k + 1) f ds M Q E := by rw [wF]; exact wp_call h hl hk hb
theorem wOp_g {α : Type} {o : Option α} {M : Cs} {Q : α → Cs → Prop} (h : wOp o M Q) : wOp o M Q := h
theorem wRd_g {M : Cs} {x : D} {K : D → Prop} (h : wRd M x K) : wRd M x K := h
theorem wGd_g {c A : Prop} (h : wGd c A) : wGd c A := h
theorem wM_g {M : Cs} {A : Cs → Prop} (h : wM M A) : wM M A := h
theorem wLs_g {ds : List D} {A : List D → Prop} (h : wLs ds A) : wLs ds A := h
theorem wIf_g {b : Bool} {A B : Prop} (h : wIf b A B) : wIf b A B := h
theorem wCk_g {k k' : Bool} {M M' : Cs} {A : Prop} (h : wCk k k' M M' A) : wCk k k' M M' A := h
theorem wCl_g {C : Cl} {f : Nat} {ds : List D} {M : Cs} {Q : D → Cs → Prop} {E : D → Cs → Prop} (h : wCl C f ds M Q E) : wCl C f ds M Q E := h
@[simp] theorem permD_cons (i : Nat) (is : List Nat) (xs : List D) : permD (i :: is) xs = (i :: is).map fun i => xs.getD i .non := id rfl
@[simp] theorem getD_c0 (x d : D) (xs : List D) : (x :: xs).getD 0 d = x := id rfl
@[simp] theorem getD_c1 (x y d : D) (xs : List D) : (x :: y :: xs).getD 1 d = y := id rfl
@[simp] theorem getD_c2 (x y z d : D) (xs : List D) : (x :: y :: z :: xs).getD 2 d = z := id rfl
@[simp] theorem getD_c3 (x y z u d : D) (xs : List D) : (x :: y :: z :: u :: xs).getD 3 d = u := id rfl
@[simp] theorem intD_bl (b : Bool) : intD [.bl b] = some (.int (if b = true then 1 else 0)) := id rfl
theorem propG {p : Prop} (h : p) : p := h
theorem envG {a : Option D} {l σ : En} (h : σ = a :: l) : σ = a :: l := h
theorem eqG {α : Type} {a b : α} (h : a = b) : a = b := h
theorem leG {a b : Nat} (h : a ≤ b) : a ≤ b := h
theorem ltG {a b : Nat} (h : a < b) : a < b := h
/-! ### comparisons, of what is clean -/
@[simp] theorem cmp_eq20 {a b : D} (ha : clean 20 a = true) (hb : clean 20 b = true) : cmpD .Eq a b = some (decide (a = b)) := cmp_eq_c 20 ha hb (by omega)
@[simp] theorem cmp_ne20 {a b : D} (ha : clean 20 a = true) (hb : clean 20 b = true) : cmpD .NotEq a b = some (!decide (a = b)) := cmp_ne_c 20 ha hb (by omega)
@[simp] theorem cmp_int20 {x : D} {xs : List D} (ha : clean 20 x = true) (hb : clean 21 (.tup xs) = true) : cmpD .In x (.tup xs) = some (decide (x ∈ xs)) := cmp_in_tup 20 ha (by simpa using hb) (by omega)
@[simp] theorem cmp_inl20 {x : D} {xs : List D} (ha : clean 20 x = true) (hb : clean 21 (.lst xs) = true) : cmpD .In x (.lst xs) = some (decide (x ∈ xs)) := cmp_in_lst 20 ha (by simpa using hb) (by omega)
@[simp] theorem cmp_nit20 {x : D} {xs : List D} (ha : clean 20 x = true) (hb : clean 21 (.tup xs) = true) : cmpD .NotIn x (.tup xs) = some (!decide (x ∈ xs)) := cmp_ni_tup 20 ha (by simpa using hb) (by omega)
@[simp] theorem cmp_nil20 {x : D} {xs : List D} (ha : clean 20 x = true) (hb : clean 21 (.lst xs) = true) : cmpD .NotIn x (.lst xs) = some (!decide (x ∈ xs)) := cmp_ni_lst 20 ha (by simpa using hb) (by omega)
@[simp] theorem cl_str (n : Nat) (x : Str) : clean n (.str x) = PyData.strOk x := by cases n <;> simp [clean]
theorem mut_append' {xs : List D} {y : D} (h : xs.length < 16777216) : mutD .append (.lst xs) [y] = some (.lst (xs ++ [y]), .non) := mut_append xs y h
theorem mut_extend' {xs ys : List D} (h : xs.length + ys.length ≤ 16777216) : mutD .extend (.lst xs) [.lst ys] = some (.lst (xs ++ ys), .non) := by
  show extendD (.lst xs) [.lst ys] = _
  rw [extendD, if_pos (show xs.length + ys.length ≤ sizeLine from h)]
@[simp] theorem add_l16 {a b : List D} (h : a.length + b.length ≤ 16777216) : binD .Add (.lst a) (.lst b) = some (.lst (a ++ b)) := by
  simp only [binD]
  rw [if_pos (show a.length + b.length ≤ sizeLine from h)]
@[simp] theorem add_t16 {a b : List D} (h : a.length + b.length ≤ 16777216) : binD .Add (.tup a) (.tup b) = some (.tup (a ++ b)) := by
  simp only [binD]
  rw [if_pos (show a.length + b.length ≤ sizeLine from h)]
@[simp] theorem add_T16 {a b : List Int} (h : a.length + b.length ≤ 16777216) : binD .Add (T a) (T b) = some (T (a ++ b)) := by
  rw [T, T, add_t16 (by simpa using h), T, List.map_append]
@[simp] theorem add_Tt16 {a : List Int} {b : Int} (h : a.length + 1 ≤ 16777216) : binD .Add (T a) (.tup [.int b]) = some (T (a ++ [b])) := add_T16 (b := [b]) (by simpa using h)
@[simp] theorem add_tT16 {a : List Int} {b : Int} (h : a.length + 1 ≤ 16777216) : binD .Add (.tup [.int b]) (T a) = some (T (b :: a)) := add_T16 (a := [b]) (by simp; omega)
@[simp] theorem cmp_eq_bl (a b : Bool) : cmpD .Eq (.bl a) (.bl b) = some (a == b) := by
  simp only [cmpD, sh_bl, Bool.and_self, if_true, eqD, D.py, PyData.eqv]
@[simp] theorem cmp_ne_bl (a b : Bool) : cmpD .NotEq (.bl a) (.bl b) = some (!(a == b)) := by
  simp only [cmpD, sh_bl, Bool.and_self, if_true, eqD, D.py, PyData.eqv]
@[simp] theorem intsD_length (n : Nat) : (intsD n).length = n := by simp [intsD]
@[simp] theorem sl_tup (xs : List D) (lo hi : Option Int) : slcD (.tup xs) (ptD lo) (ptD hi) .non = some (.tup (cut xs lo hi)) := by
  cases lo <;> cases hi <;> exact id rfl
@[simp] theorem sl_lst (xs : List D) (lo hi : Option Int) : slcD (.lst xs) (ptD lo) (ptD hi) .non = some (.lst (cut xs lo hi)) := by
  cases lo <;> cases hi <;> exact id rfl
@[simp] theorem sl_T (xs : List Int) (lo hi : Option Int) : slcD (T xs) (ptD lo) (ptD hi) .non = some (T (cut xs lo hi)) := by
  rw [T, sl_tup, T, cut, cut, List.length_map, List.map_take, List.map_drop]
@[simp] theorem cut_fromI {α : Type} (xs : List α) (n : Int) (h : 0 ≤ n) : cut xs (some n) none = xs.drop n.toNat := by
  have : n = (n.toNat : Int) := by omega
  rw [this, cut_from, Int.toNat_natCast]
/-! ### isinstance, len, tuple, list -/
@[simp] theorem isa_bl_int (b : Bool) : isaD (.bl b) .int = some true := id rfl
@[simp] theorem isa_bl_bool (b : Bool) : isaD (.bl b) .bool = some true := id rfl
@[simp] theorem isa_bl_tuple (b : Bool) : isaD (.bl b) .tuple = some false := id rfl
@[simp] theorem isa_bl_str (b : Bool) : isaD (.bl b) .str = some false := id rfl
@[simp] theorem isa_bl_list (b : Bool) : isaD (.bl b) .list = some false := id rfl
@[simp] theorem isa_bl_dict (b : Bool) : isaD (.bl b) .dict = some false := id rfl
@[simp] theorem isa_int_int (i : Int) : isaD (.int i) .int = some true := id rfl
@[simp] theorem isa_int_bool (i : Int) : isaD (.int i) .bool = some false := id rfl
@[simp] theorem isa_int_tuple (i : Int) : isaD (.int i) .tuple = some false := id rfl
@[simp] theorem isa_int_str (i : Int) : isaD (.int i) .str = some false := id rfl
@[simp] theorem isa_int_list (i : Int) : isaD (.int i) .list = some false := id rfl
@[simp] theorem isa_int_dict (i : Int) : isaD (.int i) .dict = some false := id rfl
@[simp] theorem isa_str_int (x : Str) : isaD (.str x) .int = some false := id rfl
@[simp] theorem isa_str_bool (x : Str) : isaD (.str x) .bool = some false := id rfl
@[simp] theorem isa_str_tuple (x : Str) : isaD (.str x) .tuple = some false := id rfl
@[simp] theorem isa_str_str (x : Str) : isaD (.str x) .str = some true := id rfl
@[simp] theorem isa_str_list (x : Str) : isaD (.str x) .list = some false := id rfl
@[simp] theorem isa_str_dict (x : Str) : isaD (.str x) .dict = some false := id rfl
@[simp] theorem isa_tup_int (xs : List D) : isaD (.tup xs) .int = some false := id rfl
@[simp] theorem isa_tup_bool (xs : List D) : isaD (.tup xs) .bool = some false := id rfl
@[simp] theorem isa_tup_tuple (xs : List D) : isaD (.tup xs) .tuple = some true := id rfl
@[simp] theorem isa_tup_str (xs : List D) : isaD (.tup xs) .str = some false := id rfl
@[simp] theorem isa_tup_list (xs : List D) : isaD (.tup xs) .list = some false := id rfl
@[simp] theorem isa_tup_dict (xs : List D) : isaD (.tup xs) .dict = some false := id rfl
@[simp] theorem isa_T_int (xs : List Int) : isaD (T xs) .int = some false := id rfl
@[simp] theorem isa_T_bool (xs : List Int) : isaD (T xs) .bool = some false := id rfl
@[simp] theorem isa_T_tuple (xs : List Int) : isaD (T xs) .tuple = some true := id rfl
@[simp] theorem isa_T_str (xs : List Int) : isaD (T xs) .str = some false := id rfl
@[simp] theorem isa_T_list (xs : List Int) : isaD (T xs) .list = some false := id rfl
@[simp] theorem isa_T_dict (xs : List Int) : isaD (T xs) .dict = some false := id rfl
@[simp] theorem isa_lst_int (xs : List D) : isaD (.lst xs) .int = some false := id rfl
@[simp] theorem isa_lst_bool (xs : List D) : isaD (.lst xs) .bool = some false := id rfl
@[simp] theorem isa_lst_tuple (xs : List D) : isaD (.lst xs) .tuple = some false := id rfl
@[simp] theorem isa_lst_str (xs : List D) : isaD (.lst xs) .str = some false := id rfl
@[simp] theorem isa_lst_list (xs : List D) : isaD (.lst xs) .list = some true := id rfl
@[simp] theorem isa_lst_dict (xs : List D) : isaD (.lst xs) .dict = some false := id rfl
@[simp] theorem isa_dct_int (t : Bool) (ks vs : List D) : isaD (.dct t ks vs) .int = some false := id rfl
@[simp] theorem isa_dct_bool (t : Bool) (ks vs : List D) : isaD (.dct t ks vs) .bool = some false := id rfl
@[simp] theorem isa_dct_tuple (t : Bool) (ks vs : List D) : isaD (.dct t ks vs) .tuple = some false := id rfl
@[simp] theorem isa_dct_str (t : Bool) (ks vs : List D) : isaD (.dct t ks vs) .str = some false := id rfl
@[simp] theorem isa_dct_list (t : Bool) (ks vs : List D) : isaD (.dct t ks vs) .list = some false := id rfl
@[simp] theorem isa_dct_dict (t : Bool) (ks vs : List D) : isaD (.dct t ks vs) .dict = some true := id rfl
@[simp] theorem isa_non (t : Ty) : isaD .non t = some false := by cases t <;> exact id rfl
@[simp] theorem len_dct (t : Bool) (ks vs : List D) : lenD [.dct t ks vs] = some (.int ks.length) := id rfl
@[simp] theorem cmp_ILt (i j : Int) : cmpD .Lt (.int i) (.int j) = some (decide (i < j)) := id rfl
@[simp] theorem cmp_ILtE (i j : Int) : cmpD .LtE (.int i) (.int j) = some (decide (i ≤ j)) := id rfl
@[simp] theorem cmp_IGt (i j : Int) : cmpD .Gt (.int i) (.int j) = some (decide (j < i)) := id rfl
@[simp] theorem cmp_IGtE (i j : Int) : cmpD .GtE (.int i) (.int j) = some (decide (j ≤ i)) := id rfl
@[simp] theorem tuple_lst (xs : List D) : tupleD [.lst xs] = some (.tup xs) := id rfl
@[simp] theorem tuple_tup (xs : List D) : tupleD [.tup xs] = some (.tup xs) := id rfl
@[simp] theorem list_lst (xs : List D) : listD [.lst xs] = some (.lst xs) := id rfl
@[simp] theorem list_tup (xs : List D) : listD [.tup xs] = some (.lst xs) := id rfl
@[simp] theorem list_dct (t : Bool) (ks vs : List D) : listD [.dct t ks vs] = some (.lst ks) := id rfl
/-! ### cells: a row of them behind those that stood -/
@[simp] theorem take_app (M X : Cs) : (M ++ X).take M.length = M := by simp
@[simp] theorem app_len (M : Cs) (a : Option D) : (M ++ [a]).length = M.length + 1 := by simp
@[simp] theorem rd_app0 (M X : Cs) (a : D) : rd (M ++ some a :: X) (.cell M.length) = some a := by simp [rd]
@[simp] theorem rd_app1 (M X : Cs) (a : Option D) (b : D) : rd (M ++ a :: some b :: X) (.cell (M.length + 1)) = some b := by simp [rd]
@[simp] theorem rd_app2 (M X : Cs) (a a2 : Option D) (b : D) : rd (M ++ a :: a2 :: some b :: X) (.cell (M.length + 2)) = some b := by simp [rd]
@[simp] theorem rd_app3 (M X : Cs) (a a2 a3 : Option D) (b : D) : rd (M ++ a :: a2 :: a3 :: some b :: X) (.cell (M.length + 3)) = some b := by simp [rd]
@[simp] theorem set_app0 (M X : Cs) (a b : Option D) : (M ++ a :: X).set M.length b = M ++ b :: X := by simp
@[simp] theorem set_app1 (M X : Cs) (a a2 b : Option D) : (M ++ a :: a2 :: X).set (M.length + 1) b = M ++ a :: b :: X := by simp
@[simp] theorem set_app2 (M X : Cs) (a a2 a3 b : Option D) : (M ++ a :: a2 :: a3 :: X).set (M.length + 2) b = M ++ a :: a2 :: b :: X := by simp
@[simp] theorem set_app3 (M X : Cs) (a a2 a3 a4 b : Option D) : (M ++ a :: a2 :: a3 :: a4 :: X).set (M.length + 3) b = M ++ a :: a2 :: a3 :: b :: X := by simp
@[simp] theorem app_app (M : Cs) (a : Option D) (X Y : Cs) : (M ++ a :: X) ++ Y = M ++ a :: (X ++ Y) := by simp
end Mp

/-! The plain steps of the rules, by recursion over the text (printed by mkwx.py). -/
namespace Mp
open PySem
section
variable {C : Cl} {σ : En} {M : Cs}
theorem wEs_mono {e : MEs} {Q R : List D → Cs → Prop} {E F : D → Cs → Prop} (h : wEs C e σ M Q E) (q : ∀ a M, Q a M → R a M) (g : ∀ a M, E a M → F a M) : wEs C e σ M R F := by rw [wEs] at h ⊢; exact wp_mono h q g
theorem wPs_mono {e : MPs} {Q R : List D × List D → Cs → Prop} {E F : D → Cs → Prop} (h : wPs C e σ M Q E) (q : ∀ a M, Q a M → R a M) (g : ∀ a M, E a M → F a M) : wPs C e σ M R F := by rw [wPs] at h ⊢; exact wp_mono h q g
theorem wO_mono {e : MO} {Q R : Option Int → Cs → Prop} {E F : D → Cs → Prop} (h : wO C e σ M Q E) (q : ∀ a M, Q a M → R a M) (g : ∀ a M, E a M → F a M) : wO C e σ M R F := by rw [wO] at h ⊢; exact wp_mono h q g
theorem wTs_mono {e : MTs} {d : List D} {Q R : En → Cs → Prop} {E F : D → Cs → Prop} (h : wTs C e d σ M Q E) (q : ∀ a M, Q a M → R a M) (g : ∀ a M, E a M → F a M) : wTs C e d σ M R F := by rw [wTs] at h ⊢; exact wp_mono h q g
end
variable (C : Cl)
mutual
def xE : ME → En → Cs → (D → Cs → Prop) → (D → Cs → Prop) → Prop
  | .var i, σ, M, Q, E => match σ[i]? with
    | some (some d) => Q d M
    | _ => False
  | .con d, σ, M, Q, E => Q d M
  | .gl x d, σ, M, Q, E => Q d M
  | .fn x, σ, M, Q, E => Q (.fn x) M
  | .bin o a b, σ, M, Q, E => xE a σ M (fun x M1 => xE b σ M1 (fun y M2 => wRd M2 x fun x' => wRd M2 y fun y' => wOp (binD o x' y') M2 Q) E) E
  | .neg a, σ, M, Q, E => xE a σ M (fun x M1 => wOp (negD x) M1 Q) E
  | .not a, σ, M, Q, E => xB a σ M (fun b M1 => Q (.bl (!b)) M1) E
  | .and a b, σ, M, Q, E => xE a σ M (fun x M1 => wRd M1 x fun x' => wOp (truthD x') M1 (fun k M1 => wIf k (wE C b σ M1 Q E) (Q x M1))) E
  | .or a b, σ, M, Q, E => xE a σ M (fun x M1 => wRd M1 x fun x' => wOp (truthD x') M1 (fun k M1 => wIf k (Q x M1) (wE C b σ M1 Q E))) E
  | .cmp o a b, σ, M, Q, E => xE a σ M (fun x M1 => xE b σ M1 (fun y M2 => wRd M2 x fun x' => wRd M2 y fun y' => wOp (cmpD o x' y') M2 (fun k M2 => Q (.bl k) M2)) E) E
  | .chain o p a b c, σ, M, Q, E => xE a σ M (fun x M1 => xE b σ M1 (fun y M2 => wRd M2 x fun x' => wRd M2 y fun y' => wOp (cmpD o x' y') M2 (fun k M2 => wIf k (wE C c σ M2 (fun z M3 => wRd M3 y fun y' => wRd M3 z fun z' => wOp (cmpD p y' z') M3 (fun k M3 => Q (.bl k) M3)) E) (Q (.bl false) M2))) E) E
  | .ite c a b, σ, M, Q, E => xB c σ M (fun k M1 => wIf k (wE C a σ M1 Q E) (wE C b σ M1 Q E)) E
  | .idx a b, σ, M, Q, E => xE a σ M (fun x M1 => xE b σ M1 (fun y M2 => wRd M2 x fun x' => wRd M2 y fun y' => wOp (idxD x' y') M2 Q) E) E
  | .slc a lo hi, σ, M, Q, E => xE a σ M (fun x M1 => xO lo σ M1 (fun l M2 => xO hi σ M2 (fun u M3 => wRd M3 x fun x' => wOp (slcD x' (ptD l) (ptD u) .non) M3 Q) E) E) E
  | .tup es, σ, M, Q, E => xEs es σ M (fun xs M1 => wGd (xs.length ≤ sizeLine) (Q (.tup xs) M1)) E
  | .lst es, σ, M, Q, E => xEs es σ M (fun xs M1 => wGd (xs.length ≤ sizeLine) (Q (.lst xs) M1)) E
  | .dsp t ps, σ, M, Q, E => xPs ps σ M (fun ps M1 => wGd ((ps.1.all (isKey t) && decide (ps.1.length ≤ 15)) = true) (Q (.dct t (putsD ps.1 ps.2 [] []).1 (putsD ps.1 ps.2 [] []).2) M1)) E
  | .lc own e t it c, σ, M, Q, E => xI it σ M (fun ds M1 => wLc C own e t c σ ds.1 [] ds.2 M1 (fun xs M2 => Q (.lst xs) M2) E) E
  | .lc2 own own1 e t it c t1 it1 c1, σ, M, Q, E => xI it σ M (fun ds M1 => wLc2 C own own1 e t c t1 it1 c1 σ ds.1 [] ds.2 M1 (fun xs M2 => Q (.lst xs) M2) E) E
  | .dc b own k v t it c, σ, M, Q, E => xI it σ M (fun ds M1 => wDc C b own k v t c σ ds.1 ds.2 [] [] M1 (fun p M2 => Q (.dct b p.1 p.2) M2) E) E
  | .call f es ks perm, σ, M, Q, E => xEs es σ M (fun xs M1 => xEs ks σ M1 (fun ys M2 => wCl C f (permD perm (xs ++ ys)) M2 Q E) E) E
  | .blt b es, σ, M, Q, E => xEs es σ M (fun xs M1 => wOp (rds M1 xs) M1 (fun ys M1 => wOp (bltD b ys) M1 Q)) E
  | .lrng a b, σ, M, Q, E => xE a σ M (fun x M1 => xE b σ M1 (fun y M2 => wOp (rngD x y) M2 (fun xs M2 => wGd (xs.length ≤ sizeLine) (Q (.lst xs) M2))) E) E
  | .isa a t, σ, M, Q, E => xE a σ M (fun x M1 => wRd M1 x fun x' => wOp (isaD x' t) M1 (fun k M1 => Q (.bl k) M1)) E
  | .met m o es, σ, M, Q, E => xE o σ M (fun x M1 => wGd (okM m (rd M1 x) = true) (wEs C es σ M1 (fun xs M2 => wRd M2 x fun x' => wOp (rds M2 xs) M2 (fun ys M2 => wOp (metD m x' ys) M2 Q)) E)) E
  | .mut m o es, σ, M, Q, E => xE o σ M (fun x M1 => wGd (okL (rd M1 x) = true) (wEs C es σ M1 (fun xs M2 => wOp (cellD x) M2 (fun n M2 => wGd (frees 0 xs = true) (wRd M2 x fun x' => wOp (mutD m x' xs) M2 (fun p M2 => wM (M2.set n (some p.1)) (fun M3 => Q p.2 M3))))) E)) E
  | .new a, σ, M, Q, E => xE a σ M (fun x M1 => wOp (newD x) M1 (fun y M1 => wGd (y.free 0 = true) (wM (M1 ++ [some y]) (fun M2 => Q (.cell M1.length) M2)))) E
  | .frz a, σ, M, Q, E => xE a σ M (fun x M1 => wIf (isCell x) (wOp (cellD x) M1 (fun n M1 => wOp (rd M1 x) M1 (fun d M1 => wM (M1.set n none) (fun M2 => Q d M2)))) (Q x M1)) E
  | .rev a, σ, M, Q, E => xE a σ M (fun x M1 => wRd M1 x fun x' => wOp (revD x') M1 Q) E
  | .dput a k v, σ, M, Q, E => xE a σ M (fun x M1 => xE k σ M1 (fun y M2 => xE v σ M2 (fun z M3 => wOp (dputD x y z) M3 Q) E) E) E
  | .dputT a k v, σ, M, Q, E => xE a σ M (fun x M1 => wGd (apartD x = true) (wE C k σ M1 (fun y M2 => wE C v σ M2 (fun z M3 => wOp (dputTD x y z) M3 Q) E) E)) E
  | .fld a f cs, σ, M, Q, E => xE a σ M (fun x M1 => wOp (fldD cs x) M1 Q) E
  | .exn c es, σ, M, Q, E => xEs es σ M (fun xs M1 => Q (.exc c xs) M1) E
  | .ise a ts tp cs ns, σ, M, Q, E => xE a σ M (fun x M1 => wOp (iseD cs ns x) M1 (fun k M1 => Q (.bl k) M1)) E
  | .dvals i j, σ, M, Q, E => wOp (if j < σ.length then dvalsD (σ[i]?) else none) M Q
  | .sset a, σ, M, Q, E => xE a σ M (fun x M1 => wRd M1 x fun x' => wOp (ssetD x') M1 Q) E
  | .dzip t a b, σ, M, Q, E => xE a σ M (fun x M1 => xE b σ M1 (fun y M2 => wOp (dzipD t x y) M2 Q) E) E
  | .kin a x ds, σ, M, Q, E => wE C (.kin a x ds) σ M Q E
def xB : MB → En → Cs → (Bool → Cs → Prop) → (D → Cs → Prop) → Prop
  | .not a, σ, M, Q, E => xB a σ M (fun b M1 => Q (!b) M1) E
  | .and a b, σ, M, Q, E => xB a σ M (fun k M1 => wIf k (wB C b σ M1 Q E) (Q false M1)) E
  | .or a b, σ, M, Q, E => xB a σ M (fun k M1 => wIf k (Q true M1) (wB C b σ M1 Q E)) E
  | .tru a, σ, M, Q, E => xE a σ M (fun x M1 => wRd M1 x fun x' => wOp (truthD x') M1 Q) E
def xEs : MEs → En → Cs → (List D → Cs → Prop) → (D → Cs → Prop) → Prop
  | .nil, σ, M, Q, E => Q [] M
  | .cons e r, σ, M, Q, E => xE e σ M (fun x M1 => xEs r σ M1 (fun xs M2 => Q (x :: xs) M2) E) E
  | .star e r, σ, M, Q, E => xE e σ M (fun x M1 => wOp (itemsD M1 x) M1 (fun ys M1 => wEs C r σ M1 (fun xs M2 => Q (ys ++ xs) M2) E)) E
def xPs : MPs → En → Cs → (List D × List D → Cs → Prop) → (D → Cs → Prop) → Prop
  | .nil, σ, M, Q, E => Q ([], []) M
  | .cons k v r, σ, M, Q, E => xE k σ M (fun x M1 => xE v σ M1 (fun y M2 => xPs r σ M2 (fun p M3 => Q (x :: p.1, y :: p.2) M3) E) E) E
def xO : MO → En → Cs → (Option Int → Cs → Prop) → (D → Cs → Prop) → Prop
  | .nil, σ, M, Q, E => Q none M
  | .one e, σ, M, Q, E => xE e σ M (fun x M1 => wOp (intD? x) M1 Q) E
def xC : MC → En → Cs → (Bool → Cs → Prop) → (D → Cs → Prop) → Prop
  | .nil, σ, M, Q, E => Q true M
  | .one b, σ, M, Q, E => xB b σ M Q E
def xI : MI → En → Cs → (List D × List Nat → Cs → Prop) → (D → Cs → Prop) → Prop
  | .seq e, σ, M, Q, E => xE e σ M (fun x M1 => wOp (itemsD M1 x) M1 (fun xs M1 => Q (xs, watch x) M1)) E
  | .rng a b, σ, M, Q, E => xE a σ M (fun x M1 => xE b σ M1 (fun y M2 => wOp (rngD x y) M2 (fun xs M2 => Q (xs, []) M2)) E) E
  | .enm e, σ, M, Q, E => xE e σ M (fun x M1 => wOp (itemsD M1 x) M1 (fun xs M1 => wLs (enumD xs) (fun ys => Q (ys, watch x) M1))) E
  | .zip a b, σ, M, Q, E => xE a σ M (fun x M1 => xE b σ M1 (fun y M2 => wOp (itemsD M2 x) M2 (fun xs M2 => wGd (bothD (rd M2 x) (rd M2 y) = true) (wOp (itemsD M2 y) M2 (fun ys M2 => wLs (zipD xs ys) (fun zs => Q (zs, watch x ++ watch y) M2))))) E) E
  | .zip3 a b e, σ, M, Q, E => xE a σ M (fun x M1 => xE b σ M1 (fun y M2 => xE e σ M2 (fun z M3 => wOp (tupI x) M3 (fun xs M3 => wOp (tupI y) M3 (fun ys M3 => wOp (tupI z) M3 (fun zs M3 => wGd (xs.length = ys.length ∧ xs.length = zs.length) (wLs (zip3D xs ys zs) (fun r => Q (r, []) M3)))))) E) E) E
  | .ktup x ds, σ, M, Q, E => Q (ds, []) M
  | .kzip x ds e, σ, M, Q, E => xE e σ M (fun x M1 => wOp (tupI x) M1 (fun xs M1 => wLs (zipD ds xs) (fun r => Q (r, []) M1))) E
  | .rdn a, σ, M, Q, E => xE a σ M (fun x M1 => wOp (rdnD x) M1 (fun xs M1 => Q (xs, []) M1)) E
  | .vals a, σ, M, Q, E => xE a σ M (fun x M1 => wOp (valsD M1 x) M1 (fun xs M1 => Q (xs, watch x) M1)) E
def xT : MT → D → En → Cs → (En → Cs → Prop) → (D → Cs → Prop) → Prop
  | .nm i, d, σ, M, Q, E => Q (σ.set i (some d)) M
  | .tp ts, d, σ, M, Q, E => wOp (tupD d) M (fun xs M1 => wTs C ts xs σ M1 Q E)
  | .sub o i, d, σ, M, Q, E => xE o σ M (fun x M1 => xE i σ M1 (fun y M2 => wOp (cellD x) M2 (fun n M2 => wGd ((y.free 0 && d.free 0) = true) (wRd M2 x fun x' => wOp (setD x' y d) M2 (fun z M2 => wM (M2.set n (some z)) (fun M3 => Q σ M3))))) (fun _ _ => False)) (fun _ _ => False)
def xTs : MTs → List D → En → Cs → (En → Cs → Prop) → (D → Cs → Prop) → Prop
  | .nil, ds, σ, M, Q, E => (match ds with | [] => Q σ M | _ => False)
  | .cons t r, ds, σ, M, Q, E => (match ds with | d :: ds => xT t d σ M (fun σ1 M1 => xTs r ds σ1 M1 Q E) E | [] => False)
end
variable {C : Cl}
mutual
theorem xE_ok : ∀ (e : ME) {σ : En} {M : Cs} {Q : D → Cs → Prop} {E : D → Cs → Prop}, xE C e σ M Q E → wE C e σ M Q E
  | .var i, _, _, _, _, h => by
    unfold xE at h
    split at h
    · rename_i d e
      exact wE_var e h
    · exact h.elim
  | .con d, _, _, _, _, h => wE_con h
  | .gl x d, _, _, _, _, h => wE_gl h
  | .fn x, _, _, _, _, h => wE_fn h
  | .bin o a b, _, _, _, _, h => wE_bin (wE_mono (xE_ok a h) (fun _ _ h => wE_mono (xE_ok b h) (fun _ _ h => h) (fun _ _ h => h)) (fun _ _ h => h))
  | .neg a, _, _, _, _, h => wE_neg (wE_mono (xE_ok a h) (fun _ _ h => h) (fun _ _ h => h))
  | .not a, _, _, _, _, h => wE_not (wB_mono (xB_ok a h) (fun _ _ h => h) (fun _ _ h => h))
  | .and a b, _, _, _, _, h => wE_and (wE_mono (xE_ok a h) (fun _ _ h => h) (fun _ _ h => h))
  | .or a b, _, _, _, _, h => wE_or (wE_mono (xE_ok a h) (fun _ _ h => h) (fun _ _ h => h))
  | .cmp o a b, _, _, _, _, h => wE_cmp (wE_mono (xE_ok a h) (fun _ _ h => wE_mono (xE_ok b h) (fun _ _ h => h) (fun _ _ h => h)) (fun _ _ h => h))
  | .chain o p a b c, _, _, _, _, h => wE_chain (wE_mono (xE_ok a h) (fun _ _ h => wE_mono (xE_ok b h) (fun _ _ h => h) (fun _ _ h => h)) (fun _ _ h => h))
  | .ite c a b, _, _, _, _, h => wE_ite (wB_mono (xB_ok c h) (fun _ _ h => h) (fun _ _ h => h))
  | .idx a b, _, _, _, _, h => wE_idx (wE_mono (xE_ok a h) (fun _ _ h => wE_mono (xE_ok b h) (fun _ _ h => h) (fun _ _ h => h)) (fun _ _ h => h))
  | .slc a lo hi, _, _, _, _, h => wE_slc (wE_mono (xE_ok a h) (fun _ _ h => wO_mono (xO_ok lo h) (fun _ _ h => wO_mono (xO_ok hi h) (fun _ _ h => h) (fun _ _ h => h)) (fun _ _ h => h)) (fun _ _ h => h))
  | .tup es, _, _, _, _, h => wE_tup (wEs_mono (xEs_ok es h) (fun _ _ h => h) (fun _ _ h => h))
  | .lst es, _, _, _, _, h => wE_lst (wEs_mono (xEs_ok es h) (fun _ _ h => h) (fun _ _ h => h))
  | .dsp t ps, _, _, _, _, h => wE_dsp (wPs_mono (xPs_ok ps h) (fun _ _ h => h) (fun _ _ h => h))
  | .lc own e t it c, _, _, _, _, h => wE_lc (wI_mono (xI_ok it h) (fun _ _ h => h) (fun _ _ h => h))
  | .lc2 own own1 e t it c t1 it1 c1, _, _, _, _, h => wE_lc2 (wI_mono (xI_ok it h) (fun _ _ h => h) (fun _ _ h => h))
  | .dc b own k v t it c, _, _, _, _, h => wE_dc (wI_mono (xI_ok it h) (fun _ _ h => h) (fun _ _ h => h))
  | .call f es ks perm, _, _, _, _, h => wE_call (wEs_mono (xEs_ok es h) (fun _ _ h => wEs_mono (xEs_ok ks h) (fun _ _ h => h) (fun _ _ h => h)) (fun _ _ h => h))
  | .blt b es, _, _, _, _, h => wE_blt (wEs_mono (xEs_ok es h) (fun _ _ h => h) (fun _ _ h => h))
  | .lrng a b, _, _, _, _, h => wE_lrng (wE_mono (xE_ok a h) (fun _ _ h => wE_mono (xE_ok b h) (fun _ _ h => h) (fun _ _ h => h)) (fun _ _ h => h))
  | .isa a t, _, _, _, _, h => wE_isa (wE_mono (xE_ok a h) (fun _ _ h => h) (fun _ _ h => h))
  | .met m o es, _, _, _, _, h => wE_met (wE_mono (xE_ok o h) (fun _ _ h => h) (fun _ _ h => h))
  | .mut m o es, _, _, _, _, h => wE_mut (wE_mono (xE_ok o h) (fun _ _ h => h) (fun _ _ h => h))
  | .new a, _, _, _, _, h => wE_new (wE_mono (xE_ok a h) (fun _ _ h => h) (fun _ _ h => h))
  | .frz a, _, _, _, _, h => wE_frz (wE_mono (xE_ok a h) (fun _ _ h => h) (fun _ _ h => h))
  | .rev a, _, _, _, _, h => wE_rev (wE_mono (xE_ok a h) (fun _ _ h => h) (fun _ _ h => h))
  | .dput a k v, _, _, _, _, h => wE_dput (wE_mono (xE_ok a h) (fun _ _ h => wE_mono (xE_ok k h) (fun _ _ h => wE_mono (xE_ok v h) (fun _ _ h => h) (fun _ _ h => h)) (fun _ _ h => h)) (fun _ _ h => h))
  | .dputT a k v, _, _, _, _, h => wE_dputT (wE_mono (xE_ok a h) (fun _ _ h => h) (fun _ _ h => h))
  | .fld a f cs, _, _, _, _, h => wE_fld (wE_mono (xE_ok a h) (fun _ _ h => h) (fun _ _ h => h))
  | .exn c es, _, _, _, _, h => wE_exn (wEs_mono (xEs_ok es h) (fun _ _ h => h) (fun _ _ h => h))
  | .ise a ts tp cs ns, _, _, _, _, h => wE_ise (wE_mono (xE_ok a h) (fun _ _ h => h) (fun _ _ h => h))
  | .dvals i j, _, _, _, _, h => wE_dvals h
  | .sset a, _, _, _, _, h => wE_sset (wE_mono (xE_ok a h) (fun _ _ h => h) (fun _ _ h => h))
  | .dzip t a b, _, _, _, _, h => wE_dzip (wE_mono (xE_ok a h) (fun _ _ h => wE_mono (xE_ok b h) (fun _ _ h => h) (fun _ _ h => h)) (fun _ _ h => h))
  | .kin _ _ _, _, _, _, _, h => h
theorem xB_ok : ∀ (e : MB) {σ : En} {M : Cs} {Q : Bool → Cs → Prop} {E : D → Cs → Prop}, xB C e σ M Q E → wB C e σ M Q E
  | .not a, _, _, _, _, h => wB_not (wB_mono (xB_ok a h) (fun _ _ h => h) (fun _ _ h => h))
  | .and a b, _, _, _, _, h => wB_and (wB_mono (xB_ok a h) (fun _ _ h => h) (fun _ _ h => h))
  | .or a b, _, _, _, _, h => wB_or (wB_mono (xB_ok a h) (fun _ _ h => h) (fun _ _ h => h))
  | .tru a, _, _, _, _, h => wB_tru (wE_mono (xE_ok a h) (fun _ _ h => h) (fun _ _ h => h))
theorem xEs_ok : ∀ (e : MEs) {σ : En} {M : Cs} {Q : List D → Cs → Prop} {E : D → Cs → Prop}, xEs C e σ M Q E → wEs C e σ M Q E
  | .nil, _, _, _, _, h => wEs_nil h
  | .cons e r, _, _, _, _, h => wEs_cons (wE_mono (xE_ok e h) (fun _ _ h => wEs_mono (xEs_ok r h) (fun _ _ h => h) (fun _ _ h => h)) (fun _ _ h => h))
  | .star e r, _, _, _, _, h => wEs_star (wE_mono (xE_ok e h) (fun _ _ h => h) (fun _ _ h => h))
theorem xPs_ok : ∀ (e : MPs) {σ : En} {M : Cs} {Q : List D × List D → Cs → Prop} {E : D → Cs → Prop}, xPs C e σ M Q E → wPs C e σ M Q E
  | .nil, _, _, _, _, h => wPs_nil h
  | .cons k v r, _, _, _, _, h => wPs_cons (wE_mono (xE_ok k h) (fun _ _ h => wE_mono (xE_ok v h) (fun _ _ h => wPs_mono (xPs_ok r h) (fun _ _ h => h) (fun _ _ h => h)) (fun _ _ h => h)) (fun _ _ h => h))
theorem xO_ok : ∀ (e : MO) {σ : En} {M : Cs} {Q : Option Int → Cs → Prop} {E : D → Cs → Prop}, xO C e σ M Q E → wO C e σ M Q E
  | .nil, _, _, _, _, h => wO_nil h
  | .one e, _, _, _, _, h => wO_one (wE_mono (xE_ok e h) (fun _ _ h => h) (fun _ _ h => h))
theorem xC_ok : ∀ (e : MC) {σ : En} {M : Cs} {Q : Bool → Cs → Prop} {E : D → Cs → Prop}, xC C e σ M Q E → wC C e σ M Q E
  | .nil, _, _, _, _, h => wC_nil h
  | .one b, _, _, _, _, h => wC_one (xB_ok b h)
theorem xI_ok : ∀ (e : MI) {σ : En} {M : Cs} {Q : List D × List Nat → Cs → Prop} {E : D → Cs → Prop}, xI C e σ M Q E → wI C e σ M Q E
  | .seq e, _, _, _, _, h => wI_seq (wE_mono (xE_ok e h) (fun _ _ h => h) (fun _ _ h => h))
  | .rng a b, _, _, _, _, h => wI_rng (wE_mono (xE_ok a h) (fun _ _ h => wE_mono (xE_ok b h) (fun _ _ h => h) (fun _ _ h => h)) (fun _ _ h => h))
  | .enm e, _, _, _, _, h => wI_enm (wE_mono (xE_ok e h) (fun _ _ h => h) (fun _ _ h => h))
  | .zip a b, _, _, _, _, h => wI_zip (wE_mono (xE_ok a h) (fun _ _ h => wE_mono (xE_ok b h) (fun _ _ h => h) (fun _ _ h => h)) (fun _ _ h => h))
  | .zip3 a b e, _, _, _, _, h => wI_zip3 (wE_mono (xE_ok a h) (fun _ _ h => wE_mono (xE_ok b h) (fun _ _ h => wE_mono (xE_ok e h) (fun _ _ h => h) (fun _ _ h => h)) (fun _ _ h => h)) (fun _ _ h => h))
  | .ktup x ds, _, _, _, _, h => wI_ktup h
  | .kzip x ds e, _, _, _, _, h => wI_kzip (wE_mono (xE_ok e h) (fun _ _ h => h) (fun _ _ h => h))
  | .rdn a, _, _, _, _, h => wI_rdn (wE_mono (xE_ok a h) (fun _ _ h => h) (fun _ _ h => h))
  | .vals a, _, _, _, _, h => wI_vals (wE_mono (xE_ok a h) (fun _ _ h => h) (fun _ _ h => h))
theorem xT_ok : ∀ (e : MT) (d : D) {σ : En} {M : Cs} {Q : En → Cs → Prop} {E : D → Cs → Prop}, xT C e d σ M Q E → wT C e d σ M Q E
  | .nm i, _, _, _, _, _, h => wT_nm rfl h
  | .tp ts, _, _, _, _, _, h => wT_tp h
  | .sub o i, _, _, _, _, _, h => wT_sub (wE_mono (xE_ok o h) (fun _ _ h => wE_mono (xE_ok i h) (fun _ _ h => h) (fun _ _ h => h)) (fun _ _ h => h))
theorem xTs_ok : ∀ (e : MTs) (d : List D) {σ : En} {M : Cs} {Q : En → Cs → Prop} {E : D → Cs → Prop}, xTs C e d σ M Q E → wTs C e d σ M Q E
  | .nil, ds, _, _, _, _, h => by
    unfold xTs at h
    split at h
    · exact wTs_nil h
    · exact h.elim
  | .cons t r, ds, _, _, _, _, h => by
    unfold xTs at h
    split at h
    · exact wTs_cons (wT_mono (xT_ok t _ h) (fun _ _ h => xTs_ok r _ h) (fun _ _ h => h))
    · exact h.elim
end
section
variable {σ : En} {M : Cs} {p : Po}
theorem wE_x {e : ME} {Q : D → Cs → Prop} {E : D → Cs → Prop} (h : xE C e σ M Q E) : wE C e σ M Q E := xE_ok e h
theorem wB_x {e : MB} {Q : Bool → Cs → Prop} {E : D → Cs → Prop} (h : xB C e σ M Q E) : wB C e σ M Q E := xB_ok e h
theorem wEs_x {e : MEs} {Q : List D → Cs → Prop} {E : D → Cs → Prop} (h : xEs C e σ M Q E) : wEs C e σ M Q E := xEs_ok e h
theorem wPs_x {e : MPs} {Q : List D × List D → Cs → Prop} {E : D → Cs → Prop} (h : xPs C e σ M Q E) : wPs C e σ M Q E := xPs_ok e h
theorem wO_x {e : MO} {Q : Option Int → Cs → Prop} {E : D → Cs → Prop} (h : xO C e σ M Q E) : wO C e σ M Q E := xO_ok e h
theorem wC_x {e : MC} {Q : Bool → Cs → Prop} {E : D → Cs → Prop} (h : xC C e σ M Q E) : wC C e σ M Q E := xC_ok e h
theorem wI_x {e : MI} {Q : List D × List Nat → Cs → Prop} {E : D → Cs → Prop} (h : xI C e σ M Q E) : wI C e σ M Q E := xI_ok e h
theorem wT_x {e : MT} {d : D} {Q : En → Cs → Prop} {E : D → Cs → Prop} (h : xT C e d σ M Q E) : wT C e d σ M Q E := xT_ok e _ h
theorem wTs_x {e : MTs} {d : List D} {Q : En → Cs → Prop} {E : D → Cs → Prop} (h : xTs C e d σ M Q E) : wTs C e d σ M Q E := xTs_ok e _ h
variable (C)
def xS : MS → En → Cs → Po → Prop
  | .asg t e, σ, M, p => xE C e σ M (fun d M1 => xT C t d σ M1 (fun σ1 M2 => p.nx σ1 M2) (fun e M2 => p.ex e σ M2)) (fun e M1 => p.ex e σ M1)
  | .exp e, σ, M, p => xE C e σ M (fun _ M1 => p.nx σ M1) (fun e M1 => p.ex e σ M1)
  | .ret e, σ, M, p => xE C e σ M (fun d M1 => p.rt d M1) (fun e M1 => p.ex e σ M1)
  | .ite c a b, σ, M, p => xB C c σ M (fun k M1 => wIf k (wSs C a σ M1 p) (wSs C b σ M1 p)) (fun e M1 => p.ex e σ M1)
  | .for_ t it b, σ, M, p => xI C it σ M (fun ds M1 => wFor C t b ds.1 ds.2 σ M1 p) (fun e M1 => p.ex e σ M1)
  | .whl c b, σ, M, p => wWhl C c b C.fuel σ M p
  | .rse c es, σ, M, p => xEs C es σ M (fun xs M1 => p.ex (.exc c xs) σ M1) (fun e M1 => p.ex e σ M1)
  | .brk, σ, M, p => p.br σ M
  | .cnt, σ, M, p => p.ct σ M
  | .pss, σ, M, p => p.nx σ M
  | .nev, _, _, _ => False
  | .try_ b hs, σ, M, p => wSs C b σ M ⟨p.nx, p.br, p.ct, p.rt, fun e σ1 M1 => wH C hs e σ1 M1 p⟩
variable {C}
theorem wS_x {s : MS} (h : xS C s σ M p) : wS C s σ M p := by
  cases s with
  | asg t e => exact wS_asg (wE_mono (xE_ok e h) (fun _ _ h => xT_ok t _ h) (fun _ _ h => h))
  | exp e => exact wS_exp (xE_ok e h)
  | ret e => exact wS_ret (xE_ok e h)
  | ite c a b => exact wS_ite (xB_ok c h)
  | for_ t it b => exact wS_for_ (xI_ok it h)
  | whl c b => exact wS_whl h
  | rse c es => exact wS_rse (xEs_ok es h)
  | brk => exact wS_brk h
  | cnt => exact wS_cnt h
  | pss => exact wS_pss h
  | nev => exact h.elim
  | try_ b hs => exact wS_try_ h
theorem wSs_xc {s : MS} {r : MSs} (h : xS C s σ M (p.nxt fun σ1 M1 => wSs C r σ1 M1 p)) : wSs C (.cons s r) σ M p := wSs_cons (wS_x h)
end
/-! operations at hand, as simp lemmas (so that the walk need not name them) -/
@[simp] theorem x_truth_non : truthD .non = some false := id rfl
@[simp] theorem x_truth_bl (b : Bool) : truthD (.bl b) = some b := id rfl
@[simp] theorem x_truth_int (i : Int) : truthD (.int i) = some (i != 0) := id rfl
@[simp] theorem x_truth_str (x : Str) : truthD (.str x) = if x.length ≤ sizeLine then some (x.length != 0) else none := id rfl
@[simp] theorem x_truth_tup (xs : List D) : truthD (.tup xs) = some (!xs.isEmpty) := id rfl
@[simp] theorem x_truth_lst (xs : List D) : truthD (.lst xs) = some (!xs.isEmpty) := id rfl
@[simp] theorem x_rds_nil (M : Cs) : rds M [] = some [] := id rfl
@[simp] theorem x_rds_cons (M : Cs) (d : D) (ds : List D) : rds M (d :: ds) = match rd M d, rds M ds with
    | some x, some xs => some (x :: xs)
    | _, _ => none := id rfl
@[simp] theorem x_blv_sum (xs : List D) : bltD .sum xs = sumD xs := id rfl
@[simp] theorem x_blv_str (xs : List D) : bltD .str xs = strD xs := id rfl
@[simp] theorem x_met_index (d : D) (xs : List D) : metD .lindex d xs = lindexD d xs := id rfl
@[simp] theorem x_met_tindex (d : D) (xs : List D) : metD .tindex d xs = tindexD d xs := id rfl
@[simp] theorem x_met_get (d : D) (xs : List D) : metD .get d xs = Mp.getD d xs := id rfl
@[simp] theorem x_okL (xs : List D) : okL (some (.lst xs)) = true := id rfl
@[simp] theorem x_okM_l (o : Option D) : okM .lindex o = okL o := id rfl
@[simp] theorem x_okM_t (xs : List D) : okM .tindex (some (.tup xs)) = true := id rfl
@[simp] theorem x_okM_g (t : Bool) (xs ys : List D) : okM .get (some (.dct t xs ys)) = true := id rfl
@[simp] theorem x_ic_cell (n : Nat) : isCell (.cell n) = true := id rfl
@[simp] theorem x_ic_non : isCell .non = false := id rfl
@[simp] theorem x_ic_bl (b : Bool) : isCell (.bl b) = false := id rfl
@[simp] theorem x_ic_int (b : Int) : isCell (.int b) = false := id rfl
@[simp] theorem x_ic_str (b : Str) : isCell (.str b) = false := id rfl
@[simp] theorem x_ic_tup (b : List D) : isCell (.tup b) = false := id rfl
@[simp] theorem x_ic_lst (b : List D) : isCell (.lst b) = false := id rfl
@[simp] theorem x_ic_dct (t : Bool) (a b : List D) : isCell (.dct t a b) = false := id rfl
@[simp] theorem x_ic_fn (x : Str) : isCell (.fn x) = false := id rfl
@[simp] theorem x_ic_exc (x : Str) (as : List D) : isCell (.exc x as) = false := id rfl
@[simp] theorem x_ic_scr (x : List Int) : isCell (.scr x) = false := id rfl
@[simp] theorem x_strOk (s : String) : PyData.strOk (Str.ofString s) = true := strOk_of s
@[simp] theorem x_enumD {α : Type} (f : α → D) (xs : List α) : enumD (xs.map f) = xs.zipIdx.map fun p => .tup [.int p.2, f p.1] := enumD_map f xs
@[simp] theorem x_zipD {α β : Type} (f : α → D) (g : β → D) (xs : List α) (ys : List β) : zipD (xs.map f) (ys.map g) = (xs.zip ys).map fun p => .tup [f p.1, g p.2] := zipD_map f g xs ys
@[simp] theorem x_cut_to {α : Type} (xs : List α) (n : Int) (h : 0 ≤ n) : cut xs none (some n) = xs.take n.toNat := cut_to xs n h
@[simp] theorem x_mut_append {xs : List D} {y : D} (h : xs.length < 16777216) : mutD .append (.lst xs) [y] = some (.lst (xs ++ [y]), .non) := mut_append' h
@[simp] theorem x_mut_extend {xs ys : List D} (h : xs.length + ys.length ≤ 16777216) : mutD .extend (.lst xs) [.lst ys] = some (.lst (xs ++ ys), .non) := mut_extend' h
theorem propX {p q : Prop} (h : q) (e : p = q) : p := e ▸ h
end Mp

namespace Mk
open PySem Mp
/-! How the rules of Wp1 are taken one after the other (names of tactics of the library, turned to own use by local rules). -/
local macro_rules
  | `(tactic| got_up) => `(tactic| first | assumption | omega | (simp (config := {decide := true}) [PySem.sizeLine]; done) | (simp [PySem.sizeLine]; omega) | exact small (by omega) | fail)
local macro_rules
  | `(tactic| ktf_call [$ts,*]) => do
    let ls ← ts.getElems.mapM fun t => `(Lean.Parser.Tactic.simpLemma| $t:term)
    `(tactic| first | with_reducible exact rfl | ((conv => lhs; simp (disch := (first | (simp [-List.getD_eq_getElem?_getD, $ls,*]; done) | got_up | fail)) [-List.getD_eq_getElem?_getD, $ls,*]); first | done | with_reducible exact rfl) | fail)
local macro_rules
  | `(tactic| tbr_iter [$ts,*]) => do
    let ls ← ts.getElems.mapM fun t => `(Lean.Parser.Tactic.simpLemma| $t:term)
    `(tactic| first | (simp (disch := (first | (simp [-List.getD_eq_getElem?_getD, $ls,*]; done) | got_up | fail)) [-List.getD_eq_getElem?_getD, $ls,*]; done) | fail)
local macro_rules
  | `(tactic| k_search [$ts,*]) => do
    let ls ← ts.getElems.mapM fun t => `(Lean.Parser.Tactic.simpLemma| $t:term)
    let fs ← ts.getElems.mapM fun t => `(tacticSeq| (refine wCl_i (by (with_reducible apply $t) <;> got_up) ?_; conv => whnf))
    let fs := fs.push (← `(tacticSeq| fail))
    `(tactic| repeat' (first
      | (refine wSs_xc ?_; conv => whnf)
      | (refine wSs_nil ?_; conv => whnf)
      | (refine wRd_g ?_; refine wRd_i (by ktf_call [$ts,*]) ?_; conv => whnf)
      | (refine wOp_g ?_; refine wOp_i (by ktf_call [$ts,*]) ?_; conv => whnf)
      | (refine wCl_g ?_; refine wCl_s (by ((conv => lhs; simp (disch := (first | (simp [-List.getD_eq_getElem?_getD, $ls,*]; done) | got_up | fail)) [-List.getD_eq_getElem?_getD, $ls,*]); first | done | with_reducible exact rfl)) ?_; first $[| $fs:tacticSeq]*)
      | (refine wIf_g ?_; first | refine wIf_t (by ktf_call [$ts,*]) ?_ | refine wIf_f (by ktf_call [$ts,*]) ?_)
      | (refine wGd_g ?_; first | (refine wGd_i (by first | got_up | tbr_iter [$ts,*] | fail) ?_; conv => whnf) | refine wGd_i ?_ ?_)
      | (refine wM_g ?_; refine wM_s (by ((conv => lhs; simp (disch := (first | (simp [-List.getD_eq_getElem?_getD, $ls,*]; done) | got_up | fail)) [-List.getD_eq_getElem?_getD, $ls,*]); first | done | with_reducible exact rfl)) ?_; conv => whnf)
      | (refine wE_x ?_; conv => whnf)
      | (refine wS_x ?_; conv => whnf)
      | (refine wB_x ?_; conv => whnf)
      | (refine wT_x ?_; conv => whnf)
      | (refine wEs_x ?_; conv => whnf)
      | (refine wI_x ?_; conv => whnf)
      | (refine wTs_x ?_; conv => whnf)
      | (refine wC_x ?_; conv => whnf)
      | (refine wLs_g ?_; refine wLs_s (by ((conv => lhs; simp (disch := (first | (simp [-List.getD_eq_getElem?_getD, $ls,*]; done) | got_up | fail)) [-List.getD_eq_getElem?_getD, $ls,*]); first | done | with_reducible exact rfl)) ?_; conv => whnf)
      | (refine wCk_g ?_; refine wCk_i (by first | ktf_call [$ts,*] | tbr_iter [$ts,*] | got_up | fail) (fun h => ?_); try (exact absurd h (by decide)))
      | (refine wPs_x ?_; conv => whnf)
      | (refine wO_x ?_; conv => whnf)
      | refine wH_f (by rfl) ?_
      | refine wH_n (by rfl) ?_
      | refine wH_s (by rfl) ?_
      | (refine wH_nil ?_; conv => whnf)
      | with_reducible exact trivial
      | (refine propG ?_; with_reducible assumption)
      | with_reducible rfl
      | (refine envG ?_; exact rfl)
      | apply And.intro
      | apply Exists.intro
      | (refine eqG ?_; tbr_iter [$ts,*])
      | (refine eqG ?_; simp [-List.getD_eq_getElem?_getD, $ls,*])
      | (refine leG ?_; got_up)
      | (refine ltG ?_; got_up)))
local macro_rules
  | `(tactic| k_search ([$ts,*])) => do
    let ls ← ts.getElems.mapM fun t => `(Lean.Parser.Tactic.simpLemma| $t:term)
    let fs ← ts.getElems.mapM fun t => `(tacticSeq| (refine wCl_i (by (with_reducible apply $t) <;> got_up) ?_; conv => whnf))
    let fs := fs.push (← `(tacticSeq| fail))
    `(tactic| repeat' (first
      | (refine wRd_g ?_; refine wRd_i (by ktf_call [$ts,*]) ?_; conv => whnf)
      | (refine wOp_g ?_; refine wOp_i (by ktf_call [$ts,*]) ?_; conv => whnf)
      | (refine wCl_g ?_; refine wCl_s (by ((conv => lhs; simp (disch := (first | (simp [-List.getD_eq_getElem?_getD, $ls,*]; done) | got_up | fail)) [-List.getD_eq_getElem?_getD, $ls,*]); first | done | with_reducible exact rfl)) ?_; first $[| $fs:tacticSeq]*)
      | (refine wIf_g ?_; first | refine wIf_t (by ktf_call [$ts,*]) ?_ | refine wIf_f (by ktf_call [$ts,*]) ?_)
      | (refine wGd_g ?_; first | (refine wGd_i (by first | got_up | tbr_iter [$ts,*] | fail) ?_; conv => whnf) | refine wGd_i ?_ ?_)
      | (refine wM_g ?_; refine wM_s (by ((conv => lhs; simp (disch := (first | (simp [-List.getD_eq_getElem?_getD, $ls,*]; done) | got_up | fail)) [-List.getD_eq_getElem?_getD, $ls,*]); first | done | with_reducible exact rfl)) ?_; conv => whnf)
      | (refine wE_x ?_; conv => whnf)
      | (refine wS_x ?_; conv => whnf)
      | (refine wB_x ?_; conv => whnf)
      | (refine wT_x ?_; conv => whnf)
      | (refine wEs_x ?_; conv => whnf)
      | (refine wI_x ?_; conv => whnf)
      | (refine wTs_x ?_; conv => whnf)
      | (refine wC_x ?_; conv => whnf)
      | (refine wLs_g ?_; refine wLs_s (by ((conv => lhs; simp (disch := (first | (simp [-List.getD_eq_getElem?_getD, $ls,*]; done) | got_up | fail)) [-List.getD_eq_getElem?_getD, $ls,*]); first | done | with_reducible exact rfl)) ?_; conv => whnf)
      | (refine wCk_g ?_; refine wCk_i (by first | ktf_call [$ts,*] | tbr_iter [$ts,*] | got_up | fail) (fun h => ?_); try (exact absurd h (by decide)))
      | (refine wPs_x ?_; conv => whnf)
      | (refine wO_x ?_; conv => whnf)
      | refine wH_f (by rfl) ?_
      | refine wH_n (by rfl) ?_
      | refine wH_s (by rfl) ?_
      | (refine wH_nil ?_; conv => whnf)
      | with_reducible exact trivial
      | (refine propG ?_; with_reducible assumption)
      | with_reducible rfl
      | (refine envG ?_; exact rfl)
      | apply And.intro
      | apply Exists.intro
      | (refine eqG ?_; tbr_iter [$ts,*])
      | (refine eqG ?_; simp [-List.getD_eq_getElem?_getD, $ls,*])
      | (refine leG ?_; got_up)
      | (refine ltG ?_; got_up)))


/-! k01: what each class of errors keeps. -/
def cls01 : List (Str × Str) := [("given", "InvalidNumber"), ("given", "InvalidVector"), ("given", "InvalidLabelling"), ("given", "InvalidChain"), ("given", "InvalidFamily"), ("given", "InvalidColouring"), ("given", "InvalidRow"), ("given", "InvalidCut"), ("given", "InvalidDeed"), ("given", "Unfit"),
  ("index", "InvalidLot"), ("index", "InvalidSets"), ("index", "InvalidLines"), ("line", "InvalidText"), ("", "NothingToUndo"), ("", "NothingToRedo")]
def keeps01 (w : Str) (t : D) : List D := if w = "" then [] else [t]
def exo (p : Str × Str) (t : D) : D := .exc p.2 (keeps01 p.1 t)
def madeR (t : D) (p : Str × Str) : D := .lst [.str p.1, exo p t, exo p t]
def madeD (t : D) : D := .lst (cls01.map (madeR t))
def kindsD (C : Str) : D := .lst (cls01.map fun p => .bl (decide (p.2 = C)))
def odd01 : List D := [.non, .bl true, .bl false, .str "1", .str "", .int (-1), .int 0, .int 1, .int 7, .int (10 ^ 30), .tup [], .lst [], .dct false [] [], .tup [.int 1, .int 0], .lst [.int 1, .int 0], .tup [.tup [.int 1, .int 0]], .tup [.bl true, .int 0]]
def of01 (x : D) : List D := [x, .tup [x, x], .lst [x], .str "a text", .int (-7), .bl true, .tup [.tup [], .tup [x]]]
def thing01 : List D := odd01.flatMap of01
def okThing (x : D) : Bool := x.free 0 && (match reprD [x] with
  | some (.str t) => PyData.strOk t
  | _ => false)
theorem odd01_free : ∀ x ∈ odd01, x.free 0 = true := by decide +kernel
theorem of01_free : ∀ x ∈ odd01, ∀ y ∈ of01 x, y.free 0 = true := by decide +kernel
theorem thing01_ok : thing01.all okThing = true := by decide +kernel
theorem thing01_free {t : D} (h : t ∈ thing01) : t.free 0 = true := by
  have := List.all_eq_true.mp thing01_ok t h
  simp only [okThing, Bool.and_eq_true] at this
  exact this.1
theorem thing01_repr {t : D} (h : t ∈ thing01) : ∃ x, reprD [t] = some (.str x) ∧ PyData.strOk x = true := by
  have := List.all_eq_true.mp thing01_ok t h
  simp only [okThing, Bool.and_eq_true] at this
  obtain ⟨_, h2⟩ := this
  split at h2
  · rename_i x e
    exact ⟨x, e, h2⟩
  · cases h2
theorem rd_free0 {t : D} (h : t.free 0 = true) (M : Cs) : rd M t = some t := by
  cases t <;> first | rfl | simp [D.free] at h
theorem kinds_at : ∀ p ∈ cls01.zipIdx, cmpD .NotEq (kindsD p.1.2) (.lst ((List.range 16).map fun i : Nat => .bl (decide ((i : Int) = (p.2 : Int))))) = some false := by decide +kernel
theorem word_at : ∀ p ∈ cls01.zipIdx, cmpD .NotEq (.str p.1.1) (.str "") = some (!decide (p.1.1 = "")) := by decide +kernel
theorem word_at' : ∀ p ∈ cls01, cmpD .NotEq (.str p.1) (.str "") = some (!decide (p.1 = "")) := by decide +kernel
def names01 : List Str := "SphereError" :: cls01.map (·.2)
theorem law_kinds_ok (k : Nat) (as : List D) (M : Cs) : ∀ C ∈ names01, callF P (k + 1) ix_law_kinds [.exc C as] M = .ok (kindsD C) M := by
  intro C h
  have e : callF P (k + 1) ix_law_kinds [.exc C as] M = .ok (kindsD C) (M.take M.length) := by
    simp only [names01, cls01, List.map_cons, List.map_nil, List.mem_cons, List.not_mem_nil, or_false] at h
    rcases h with rfl | rfl | rfl | rfl | rfl | rfl | rfl | rfl | rfl | rfl | rfl | rfl | rfl | rfl | rfl | rfl | rfl <;> kernel_rfl
  rw [e, List.take_length]
theorem law_is_plain_ok (k : Nat) (as : List D) (M : Cs) : ∀ C ∈ names01, callF P (k + 1) ix_law_is_plain [.exc C as] M = .ok (.bl true) M := by
  intro C h
  have e : callF P (k + 1) ix_law_is_plain [.exc C as] M = .ok (.bl true) (M.take M.length) := by
    simp only [names01, cls01, List.map_cons, List.map_nil, List.mem_cons, List.not_mem_nil, or_false] at h
    rcases h with rfl | rfl | rfl | rfl | rfl | rfl | rfl | rfl | rfl | rfl | rfl | rfl | rfl | rfl | rfl | rfl | rfl <;> kernel_rfl
  rw [e, List.take_length]
theorem free_exc (n : Nat) (c : Str) (as : List D) : D.free n (.exc c as) = frees n as := id rfl
theorem law_made_ok (k : Nat) (t : D) (M : Cs) (h : t.free M.length = true) : callF P (k + 1) ix_law_made [t] M = .ok (madeD t) M := by
  (refine wF_eq ?_; refine wF_call (F := mf_law_made) rfl rfl rfl ?_)
  k_search [h, free_exc]
  kernel_rfl
theorem law_kept_ok (k : Nat) (t : D) (M : Cs) (h : t.free M.length = true) : ∀ p ∈ cls01, p.1 ≠ "" → callF P (k + 1) ix_law_kept [.str p.1, exo p t] M = .ok t M := by
  intro p hp hn
  simp only [cls01, List.mem_cons, List.not_mem_nil, or_false] at hp
  have e : callF P (k + 1) ix_law_kept [.str p.1, exo p t] M = finF false M.length (.rt t M) := by
    rcases hp with rfl | rfl | rfl | rfl | rfl | rfl | rfl | rfl | rfl | rfl | rfl | rfl | rfl | rfl | rfl | rfl <;> first | exact absurd rfl hn | kernel_rfl
  rw [e]
  simp [finF, h]
theorem rd_kinds (C : Str) (M : Cs) : rd M (kindsD C) = some (kindsD C) := id rfl
theorem law_is_caught_ok (k : Nat) (t : D) (M : Cs) (h : t.free M.length = true) (i : Nat) (hi : i < 5) : callF P (k + 3) ix_law_is_caught [.int i, t] M = .ok (.bl true) M := by
  have kk := fun (C : Str) (hC : C ∈ names01) (as : List D) (M : Cs) => law_kinds_ok (k + 1) as M C hC
  have pp := fun (C : Str) (hC : C ∈ names01) (as : List D) (M : Cs) => law_is_plain_ok (k + 1) as M C hC
  have k0 := fun as M => kk "InvalidNumber" (by decide) as M
  have k1 := fun as M => kk "Unfit" (by decide) as M
  have k2 := fun as M => kk "InvalidLot" (by decide) as M
  have k3 := fun as M => kk "InvalidText" (by decide) as M
  have k4 := fun as M => kk "NothingToRedo" (by decide) as M
  have p0 := fun as M => pp "InvalidNumber" (by decide) as M
  have p1 := fun as M => pp "Unfit" (by decide) as M
  have p2 := fun as M => pp "InvalidLot" (by decide) as M
  have p3 := fun as M => pp "InvalidText" (by decide) as M
  have p4 := fun as M => pp "NothingToRedo" (by decide) as M
  have e0 : idxD (kindsD "InvalidNumber") (.int 0) = some (.bl true) := by kernel_rfl
  have e1 : idxD (kindsD "Unfit") (.int 9) = some (.bl true) := by kernel_rfl
  have e2 : idxD (kindsD "InvalidLot") (.int 10) = some (.bl true) := by kernel_rfl
  have e3 : idxD (kindsD "InvalidText") (.int 13) = some (.bl true) := by kernel_rfl
  have e4 : idxD (kindsD "NothingToRedo") (.int 15) = some (.bl true) := by kernel_rfl
  have hh : i = 0 ∨ i = 1 ∨ i = 2 ∨ i = 3 ∨ i = 4 := by omega
  rcases hh with rfl | rfl | rfl | rfl | rfl
  · (refine wF_eq ?_; refine wF_call (F := mf_law_is_caught) rfl rfl rfl ?_)
    k_search [k0, p0, e0, rd_kinds]
  · (refine wF_eq ?_; refine wF_call (F := mf_law_is_caught) rfl rfl rfl ?_)
    k_search [k1, p1, e1, rd_kinds]
  · (refine wF_eq ?_; refine wF_call (F := mf_law_is_caught) rfl rfl rfl ?_)
    k_search [k2, p2, e2, rd_kinds]
  · (refine wF_eq ?_; refine wF_call (F := mf_law_is_caught) rfl rfl rfl ?_)
    have x3 : idxD (.tup [.int 0, .int 9, .int 10, .int 13, .int 15]) (.int 3) = some (.int 13) := by kernel_rfl
    k_search [k3, p3, e3, rd_kinds, x3]
  · (refine wF_eq ?_; refine wF_call (F := mf_law_is_caught) rfl rfl rfl ?_)
    have x4 : idxD (.tup [.int 0, .int 9, .int 10, .int 13, .int 15]) (.int 4) = some (.int 15) := by kernel_rfl
    k_search [k4, p4, e4, rd_kinds, x4]

/-! k01: the law. -/
theorem wCl_draw {K j c : Nat} {many : Int} {M : Cs} {Q : D → Cs → Prop} {E : D → Cs → Prop} (hb : IsBag M c) (h1 : 1 ≤ many) (h2 : many < 1073741824) (hK : 1 ≤ K) (q : ∀ (d : Int) (M' : Cs), 0 ≤ d → d < many → Bm c M M' → IsBag M' c → Q (.int d) M') : wCl ⟨callF P K, j⟩ ix_law_draw [.cell c, .int many] M Q E := by
  obtain ⟨k, rfl⟩ : ∃ k, K = k + 1 := ⟨K - 1, by omega⟩
  obtain ⟨d, M', a, b, hB, hb', e⟩ := draw_ok' k c many M hb h1 h2
  exact wCl_i e (q d M' a b hB hb')
theorem wCl_one {K j c : Nat} {xs : List D} {M : Cs} {Q : D → Cs → Prop} {E : D → Cs → Prop} (hb : IsBag M c) (h1 : xs ≠ []) (h2 : xs.length ≤ 1000000) (hf : ∀ x ∈ xs, x.free 0 = true) (hK : 2 ≤ K) (q : ∀ (x : D) (M' : Cs), x ∈ xs → Bm c M M' → IsBag M' c → Q x M') : wCl ⟨callF P K, j⟩ ix_law_one [.cell c, .tup xs] M Q E := by
  obtain ⟨k, rfl⟩ : ∃ k, K = k + 2 := ⟨K - 2, by omega⟩
  obtain ⟨x, M', a, hB, hb', e⟩ := one_ok k c xs M hb h1 h2 hf
  exact wCl_i e (q x M' a hB hb')
theorem rngN (n : Nat) (h : n ≤ 1000) : rngD (.int 0) (.int (n : Int)) = some (intsD n) := rng0 n (Nat.lt_of_le_of_lt h (by decide))
theorem rng16 : rngD (.int 0) (.int 16) = some (intsD 16) := rngN 16 (by omega)
theorem rng5 : rngD (.int 0) (.int 5) = some (intsD 5) := rngN 5 (by omega)
theorem odd_ok (k c : Nat) (M : Cs) (hb : IsBag M c) : wF P (k + 3) ix_law_odd_thing [.cell c] M (fun x M' => x ∈ odd01 ∧ Bm c M M' ∧ IsBag M' c) (fun _ _ => False) := by
  (refine wF_call (F := mf_law_odd_thing) rfl rfl rfl ?_)
  have hp : binD .Pow (.int 10) (.int 30) = some (.int (10 ^ 30)) := by kernel_rfl
  k_search [hp]
  refine wCl_one (xs := odd01) hb (by simp [odd01]) (by simp [odd01]) odd01_free (by omega) fun x M' hx hB hb' => ?_
  have hf : x.free M.length = true := D.free_mono (Nat.zero_le _) x (odd01_free x hx)
  k_search [hf, hB.tk]
theorem items_made (t : D) (M : Cs) : itemsD M (madeD t) = some (cls01.map (madeR t)) := id rfl
theorem tup_made (t : D) (p : Str × Str) : tupD (madeR t p) = some [.str p.1, exo p t, exo p t] := id rfl
theorem law_right_ok (k c : Nat) (M : Cs) (hb : IsBag M c) : wF P (k + 10) ix_law_right [.cell c] M (fun v _ => v = .bl true) (fun _ _ => False) := by
  (refine wF_call (F := mf_law_right) rfl rfl rfl ?_)
  have p0 := fun M => law_is_plain_ok (k + 8) [] M "SphereError" (by decide)
  have q0 := fun M => law_kinds_ok (k + 8) [] M "SphereError" (by decide)
  have i0 : cmpD .In (.bl true) (kindsD "SphereError") = some false := by kernel_rfl
  k_search [p0, q0, i0, rd_kinds]
  refine wCl_w (wF_wp (odd_ok (k + 6) c M hb)) ?_ (fun _ _ h => h.elim)
  rintro x M1 ⟨hx, hB1, hb1⟩
  k_search []
  refine wCl_one (xs := of01 x) hb1 (by simp [of01]) (by simp [of01]) (of01_free x hx) (by omega) fun t M2 ht hB2 hb2 => ?_
  have hth : t ∈ thing01 := List.mem_flatMap.mpr ⟨x, hx, ht⟩
  have htf := thing01_free hth
  have hfn : ∀ n, t.free n = true := fun n => D.free_mono (Nat.zero_le _) t htf
  obtain ⟨tx, htx, hts⟩ := thing01_repr hth
  have hrd := rd_free0 htf
  have hmd := fun M => law_made_ok (k + 8) t M (hfn _)
  have hi := fun (t : D) (M : Cs) => items_made t M
  k_search [hmd, hi]
  refine wFor_inv (g := fun p : (Str × Str) × Nat => .tup [.int p.2, madeR t p.1]) (xs := cls01.zipIdx) (fun don σ M' => ∃ v4 v5 v6 v7 v8 v9, σ = [some (.cell c), some t, none, none, v4, v5, v6, v7, v8, v9] ∧ M' = M2) ⟨none, none, none, none, none, none, rfl, rfl⟩ ?_ ?_
  · rintro don p todo σ M2 e ⟨v4, v5, v6, v7, v8, v9, rfl, rfl⟩
    have hp : p ∈ cls01.zipIdx := by rw [e]; simp
    have hp1 : p.1 ∈ cls01 := List.fst_mem_of_mem_zipIdx hp
    have hC : p.1.2 ∈ names01 := by simp only [names01, List.mem_cons, List.mem_map]; exact .inr ⟨p.1, hp1, rfl⟩
    have kk := fun as M => law_kinds_ok (k + 8) as M p.1.2 hC
    have pp := fun as M => law_is_plain_ok (k + 8) as M p.1.2 hC
    have wa := word_at p hp
    have ka := kinds_at p hp
    have ht2 := tup_made t p.1
    k_search [ht2]
    refine wFor_inv (g := fun d : D => d) (xs := [exo p.1 t, exo p.1 t]) (fun don σ M' => ∃ v5 v9, σ = [some (.cell c), some t, none, none, some (.int p.2), v5, some (.str p.1.1), some (exo p.1 t), some (exo p.1 t), v9] ∧ M' = M2) ⟨_, _, rfl, rfl⟩ ?_ ?_
    · rintro don d todo σ M2 e ⟨v5, v9, rfl, rfl⟩
      obtain rfl : d = exo p.1 t := by
        have : d ∈ [exo p.1 t, exo p.1 t] := by rw [e]; simp
        simpa using this
      have kk' : ∀ M, callF P (k + 8 + 1) ix_law_kinds [exo p.1 t] M = .ok (kindsD p.1.2) M := fun M => kk _ M
      have pp' : ∀ M, callF P (k + 8 + 1) ix_law_is_plain [exo p.1 t] M = .ok (.bl true) M := fun M => pp _ M
      k_search [kk', rng16]
      refine wLc_map (g := fun i : Nat => .int (i : Int)) (xs := List.range 16) (fun i : Nat => .bl (decide ((i : Int) = (p.2 : Int)))) (fun i hi => ?_) (by simp [sizeLine]) ?_
      · k_search []
      · k_search [ka, rd_kinds, pp', wa]
        refine wIf_i (fun h => ?_) (fun h => ?_)
        · have hn : p.1.1 ≠ "" := by simpa using h
          have hk := law_kept_ok (k + 8) t M2 (hfn _) p.1 hp1 hn
          have hne := cmp_ne_str hts hts
          k_search [hk, hrd, htx, hne]
        · k_search []
    · rintro σ M2 ⟨v5, v9, rfl, rfl⟩
      k_search []
  · rintro σ M2 ⟨v4, v5, v6, v7, v8, v9, rfl, rfl⟩
    k_search []
    refine wCl_draw hb2 (by omega) (by omega) (by omega) fun d M3 d0 d1 hB3 hb3 => ?_
    have hc3 : c < M3.length := hb3.lt
    have hmd2 := law_made_ok (k + 8) (.cell M3.length) (M3 ++ [some (.lst [.int d])]) (by simp [D.free])
    k_search [hmd2]
    refine wCl_draw (hb3.ap _) (by omega) (by omega) (by omega) fun d2 M4 d20 d21 hB4 hb4 => ?_
    obtain ⟨a, b, e, rfl⟩ := hB4
    rw [set_apl _ _ _ _ hc3]
    obtain ⟨M5, h5⟩ : ∃ M5, M5 = M3.set c (some (.lst [.int a, .int b, .int e])) := ⟨_, rfl⟩
    have hl5 : M3.length = M5.length := by rw [h5, List.length_set]
    rw [← h5, hl5]
    k_search [hi]
    refine wFor_inv (g := madeR (.cell M5.length)) (xs := cls01) (fun don σ M' => ∃ v4 v5 v6 v7 v8 v9, σ = [some (.cell c), some t, some (.cell M5.length), some (madeD (.cell M5.length)), v4, v5, v6, v7, v8, v9] ∧ M' = M5 ++ [some (.lst [.int d, .int d2])]) ⟨_, _, _, _, _, _, rfl, rfl⟩ ?_ ?_
    · rintro don p todo σ M' e ⟨v4, v5, v6, v7, v8, v9, rfl, rfl⟩
      have hp : p ∈ cls01 := by rw [e]; simp
      have wa := word_at' p hp
      have ht2 := tup_made (.cell M5.length) p
      k_search [ht2, wa]
      refine wIf_i (fun h => ?_) (fun h => ?_)
      · have hn : p.1 ≠ "" := by simpa using h
        have hk := law_kept_ok (k + 8) (.cell M5.length) (M5 ++ [some (.lst [.int d, .int d2])]) (by simp [D.free]) p hp hn
        k_search [hk]
      · k_search []
    · rintro σ M' ⟨v4, v5, v6, v7, v8, v9, rfl, rfl⟩
      k_search [rng5]
      refine wLc_map (g := fun i : Nat => .int (i : Int)) (xs := List.range 5) (fun i : Nat => .bl true) (fun i hi => ?_) (by simp [sizeLine]) ?_
      · have hc := law_is_caught_ok (k + 6) t (M5 ++ [some (.lst [.int d, .int d2])]) (hfn _) i (List.mem_range.mp hi)
        have hbb : cmpD .Is (.bl true) (.bl true) = some true := id rfl
        k_search [hc, hbb]
      · k_search []
theorem law_ok (k : Nat) (ns : List Int) : ∃ M, callF P (k + 12) ix_law [.scr ns] [] = .ok (.bl true) M := by
  obtain ⟨a, M, e, h⟩ := wF_get (P := P) (k := k + 12) (f := ix_law) (ds := [.scr ns]) (M := []) (Q := fun d _ => d = .bl true) (by
    (refine wF_call (F := mf_law) rfl rfl rfl ?_)
    have hn : max 1 (min (ns.length : Int) 3) = (((max 1 (min ns.length 3)) : Nat) : Int) := by omega
    k_search [hn, rngN (max 1 (min ns.length 3)) (by omega)]
    refine wLc_inv (g := fun i : Nat => .int (i : Int)) (xs := List.range (max 1 (min ns.length 3))) (fun don acc M' => acc = don.map fun _ => .bl true) rfl ?_ ?_
    · rintro don a todo acc M' e rfl
      have hd : don.length ≤ 10 := by
        have := congrArg List.length e
        simp at this; omega
      obtain ⟨x, y, z, eb⟩ := well_ok (k + 10) ns a M'
      k_search [eb]
      refine wCl_w (wF_wp (law_right_ok (k + 1) M'.length _ ⟨x, y, z, by simp [rd]⟩)) ?_ (fun _ _ h => h.elim)
      rintro d M2 rfl
      k_search []
    · rintro acc M' rfl
      have := all_map (fun _ : Nat => true) (List.range (max 1 (min ns.length 3)))
      k_search [this])
  exact ⟨M, by rw [e, h]⟩
theorem pure (ns : List Int) (h : ns.length ≤ 63) : ∃ M, callF (Ds.map (·.mf)) 60 lawIx [.scr ns] [] = .ok (.bl true) M := by
  have e : Ds.map (·.mf) = P := id rfl
  rw [e]
  exact law_ok 48 ns


end Mk

open PySem PySem.W PySem.Calls PyProof.Rows
theorem PySem.Challenge.cw_labelledspheres_k01_errors_each_of_its_o_holds : PySem.Challenge.rw_labelledspheres_k01_errors_each_of_its_o.Holds := by
  w_on; o_law
  refine HandSHeadRun.head_any (r := OpenLaw.row PySem.Challenge.rw_labelledspheres_k01_errors_each_of_its_o) (q := view (OpenLaw.row PySem.Challenge.rw_labelledspheres_k01_errors_each_of_its_o).prog [29]) (H := Mk.hk) (ob := Mk.ob) (M := 12000) (loose := Mk.names) (d := HandSHeadRun.topDef (OpenLaw.row PySem.Challenge.rw_labelledspheres_k01_errors_each_of_its_o).prog 29) (kwd := []) Mk.ob_eq
    (by kernel_rfl) (fun s => by kernel_rfl) Mk.run (by kernel_rfl) (by kernel_rfl) (by kernel_rfl) (by rfl) (by first | assumption | decide +kernel) (by decide +kernel) ⟨rfl, rfl, rfl, rfl, rfl, by decide +kernel⟩ ?hw ?hc
  case hw => w_witness2
  case hc =>
    refine Mp.walk_m (l := PySem.Challenge.rw_labelledspheres_k01_errors_each_of_its_o) (n := 63) (k := 60) (f := Mk.lawIx) (x := "script") (Ds := Mk.Ds) (fn := Mk.fn) (fas := Mk.fas) (bi := Mk.bi) (cs := Mk.cs) (T := Mk.Tx) (df := Mk.Ds.getD Mk.lawIx ⟨"", [], [], ⟨0, 0, .nil, false⟩⟩) rfl (by decide) (by kernel_rfl) ⟨rfl, by decide, by decide⟩ (fun w h Y => Y) rfl rfl (by kernel_rfl) rfl Mk.chk Mk.pure
